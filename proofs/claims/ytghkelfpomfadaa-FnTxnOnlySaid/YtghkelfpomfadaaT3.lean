/- Contracts of the reference on transactions and pairs, for lists whose lengths are bounded as stated. -/
import Derived.Test.YtghkelfpomfadaaG1
set_option linter.unusedVariables false
set_option linter.unusedSimpArgs false
section
namespace Go.Proofs.Ytghkelfpomfadaa
open Go.Ae
open Go.Ae renaming getR_eq → z1, getR_ne → z2, getR_nil → z3, lF_mk → z4, cont1 → z5, cont2a → z6, cont2b → z7, cont3a → z8, cont3b → z9, cont3c → z10, wr_up → z11, wr_dn → z12
open Go.Ae.VSub renaming any' → z13, same → z14, nilRd → z15, mtRd → z16, lit → z17, ptr' → z18, sl' → z19, slD → z20, slNil → z21, agg' → z22, tup' → z23, fn' → z24, rpSame → z25, rpF → z26, frz → z27, frzC → z28
open Go.Ae.LSub renaming nil' → z29, cons' → z30, mkR' → z31
open Go.Ae.SSub renaming nil' → z32, cons' → z33
open Go.Ae.HTell renaming nil' → z34, some' → z35, freshRows → z36
open Go.Ae.BSub renaming cells' → z37, own → z38
open Go.Ae.RowsAre renaming map → z39, nil → z40, app → z41, spl → z42, take → z43, drop → z44, cons → z45
open Go.Ae.CallA renaming gv0 → z46, lend → z47
set_option linter.unusedSimpArgs false
set_option linter.unusedVariables false
attribute [local irreducible] wr bitsOf VSub LSub SSub HTell BSub RowIs RowsAre Ent lF mkR
def sp_l1Key (k : Int) : Bool :=
  (sp_l6In k 0 39)
def sp_l1Val (n : Int) : Bool :=
  (sp_l6In n (-99999) 99999)
def sp_TxnOk_L1 (t : GTxn) (i : Nat) : Fl (Bool) (Unit) :=
  if h0 : ((i : Int) < (t.Guards.length : Int)) then
      let g := (t.Guards.getD i default)
      if (((((sp_l1Key g.Key) = false) ∨ ((sp_l1Val g.Least) = false)) ∨ ((sp_l1Val g.Most) = false)) ∨ (((i : Int) > 0) ∧ ((t.Guards.getD (wr .i64 ((i : Int) - 1)).toNat default).Key ≥ g.Key))) then
        .ret false
      else 
        sp_TxnOk_L1 t (i + 1)
  else .go ()
termination_by ((t.Guards.length : Int) - (i : Int)).toNat
decreasing_by all_goals omega
def sp_TxnOk_L2 (t : GTxn) (i4 : Nat) : Fl (Bool) (Unit) :=
  if h0 : ((i4 : Int) < (t.Writes.length : Int)) then
      let w := (t.Writes.getD i4 default)
      if (((((sp_l1Key w.Key) = false) ∨ ((w.From ≠ (-1)) ∧ ((sp_l1Key w.From) = false))) ∨ ((sp_l1Val w.Add) = false)) ∨ (((i4 : Int) > 0) ∧ ((t.Writes.getD (wr .i64 ((i4 : Int) - 1)).toNat default).Key ≥ w.Key))) then
        .ret false
      else 
        sp_TxnOk_L2 t (i4 + 1)
  else .go ()
termination_by ((t.Writes.length : Int) - (i4 : Int)).toNat
decreasing_by all_goals omega
def sp_TxnOk_L3 (t : GTxn) (i6 : Nat) : Fl (Bool) (Unit) :=
  if h0 : ((i6 : Int) < (t.Reads.length : Int)) then
      if (((sp_l1Key (t.Reads.getD i6 default)) = false) ∨ (((i6 : Int) > 0) ∧ ((t.Reads.getD (wr .i64 ((i6 : Int) - 1)).toNat default) ≥ (t.Reads.getD i6 default)))) then
        .ret false
      else 
        sp_TxnOk_L3 t (i6 + 1)
  else .go ()
termination_by ((t.Reads.length : Int) - (i6 : Int)).toNat
decreasing_by all_goals omega
def sp_TxnOk_K3 (t : GTxn) (i6 : Nat) : Bool :=
  match sp_TxnOk_L3 t i6 with
  | .ret rr => rr
  | .go q =>
    true
def sp_TxnOk_K2 (t : GTxn) (i4 : Nat) : Bool :=
  match sp_TxnOk_L2 t i4 with
  | .ret rr => rr
  | .go q =>
    let i6 : Nat := 0
    sp_TxnOk_K3 t i6
def sp_TxnOk_K1 (t : GTxn) (i : Nat) : Bool :=
  match sp_TxnOk_L1 t i with
  | .ret rr => rr
  | .go q =>
    let i4 : Nat := 0
    sp_TxnOk_K2 t i4
def sp_TxnOk (t : GTxn) : Bool :=
  if (((((t.Guards.length : Int) > 4) ∨ ((t.Writes.length : Int) > 4)) ∨ ((t.Reads.length : Int) > 4)) ∨ ((wr .i64 ((wr .i64 ((t.Guards.length : Int) + (t.Writes.length : Int))) + (t.Reads.length : Int))) = 0)) then
    false
  else 
    let i : Nat := 0
    sp_TxnOk_K1 t i
def sp_l1Add_L1 (list : List Int) (k : Int) (out : List Int) (done : Bool) (i : Nat) : (List Int) × Bool :=
  if h0 : ((i : Int) < (list.length : Int)) then
      let q := if ((done = false) ∧ ((list.getD i default) ≥ k)) then
          let out := (out ++ [k])
          let done := true
          (out, done)
        else 
          (out, done)
      let out := q.1
      let done := q.2
      if ((list.getD i default) ≠ k) then
        let out := (out ++ [(list.getD i default)])
        sp_l1Add_L1 list k out done (i + 1)
      else 
        sp_l1Add_L1 list k out done (i + 1)
  else (out, done)
termination_by ((list.length : Int) - (i : Int)).toNat
decreasing_by all_goals omega
def sp_l1Add_K1 (list : List Int) (k : Int) (out : List Int) (done : Bool) (i : Nat) : (List Int) :=
  let q := sp_l1Add_L1 list k out done i
  let out := q.1
  let done := q.2
  let q := if (done = false) then
      let out := (out ++ [k])
      out
    else 
      out
  let out := q
  out
def sp_l1Add (list : List Int) (k : Int) : (List Int) :=
  let out := ([] : List Int)
  let done := false
  let i : Nat := 0
  sp_l1Add_K1 list k out done i
def sp_l1Get_L1 (vals : List GTxnPair) (k : Int) (i : Nat) : Fl (Int) (Unit) :=
  if h0 : ((i : Int) < (vals.length : Int)) then
      if ((vals.getD i default).Key = k) then
        .ret ((vals.getD i default).Val)
      else 
        sp_l1Get_L1 vals k (i + 1)
  else .go ()
termination_by ((vals.length : Int) - (i : Int)).toNat
decreasing_by all_goals omega
def sp_l1Get_K1 (vals : List GTxnPair) (k : Int) (i : Nat) : Int :=
  match sp_l1Get_L1 vals k i with
  | .ret rr => rr
  | .go q =>
    0
def sp_l1Get (vals : List GTxnPair) (k : Int) : Int :=
  let i : Nat := 0
  sp_l1Get_K1 vals k i
def sp_l1PairsOk_L1 (vals : List GTxnPair) (i : Nat) : Fl (Bool) (Unit) :=
  if h0 : ((i : Int) < (vals.length : Int)) then
      if ((((sp_l1Key ((vals.getD i default).Key)) = false) ∨ ((sp_l1Val ((vals.getD i default).Val)) = false)) ∨ (((i : Int) > 0) ∧ ((vals.getD (wr .i64 ((i : Int) - 1)).toNat default).Key ≥ (vals.getD i default).Key))) then
        .ret false
      else 
        sp_l1PairsOk_L1 vals (i + 1)
  else .go ()
termination_by ((vals.length : Int) - (i : Int)).toNat
decreasing_by all_goals omega
def sp_l1PairsOk_K1 (vals : List GTxnPair) (i : Nat) : Bool :=
  match sp_l1PairsOk_L1 vals i with
  | .ret rr => rr
  | .go q =>
    true
def sp_l1PairsOk (vals : List GTxnPair) : Bool :=
  if ((vals.length : Int) > 40) then
    false
  else 
    let i : Nat := 0
    sp_l1PairsOk_K1 vals i
def lw_lcInts_L1 (a : List Int) (b : List Int) (i : Nat) : Fl (Bool) (Unit) :=
  if h0 : ((i : Int) < (a.length : Int)) then
      if ((a.getD i default) ≠ (b.getD i default)) then
        .ret false
      else 
        lw_lcInts_L1 a b (i + 1)
  else .go ()
termination_by ((a.length : Int) - (i : Int)).toNat
decreasing_by all_goals omega
def lw_lcInts_K1 (a : List Int) (b : List Int) (i : Nat) : Bool :=
  match lw_lcInts_L1 a b i with
  | .ret rr => rr
  | .go q =>
    true
def lw_lcInts (a : List Int) (b : List Int) : Bool :=
  if ((a.length : Int) ≠ (b.length : Int)) then
    false
  else 
    let i : Nat := 0
    lw_lcInts_K1 a b i
def lw_lcPairs_L1 (a : List GTxnPair) (b : List GTxnPair) (i : Nat) : Fl (Bool) (Unit) :=
  if h0 : ((i : Int) < (a.length : Int)) then
      if ((!(((a.getD i default).Key == (b.getD i default).Key) && (((a.getD i default).Val == (b.getD i default).Val) && true))) = true) then
        .ret false
      else 
        lw_lcPairs_L1 a b (i + 1)
  else .go ()
termination_by ((a.length : Int) - (i : Int)).toNat
decreasing_by all_goals omega
def lw_lcPairs_K1 (a : List GTxnPair) (b : List GTxnPair) (i : Nat) : Bool :=
  match lw_lcPairs_L1 a b i with
  | .ret rr => rr
  | .go q =>
    true
def lw_lcPairs (a : List GTxnPair) (b : List GTxnPair) : Bool :=
  if ((a.length : Int) ≠ (b.length : Int)) then
    false
  else 
    let i : Nat := 0
    lw_lcPairs_K1 a b i
def Ssp_l1Key_c : Prop := ∀ (k : Int), Gives Try.prog 21 [.lit (.int .i64 k)] (.lit (.bool (sp_l1Key k)))
def Ssp_l1Val_c : Prop := ∀ (n : Int), Gives Try.prog 22 [.lit (.int .i64 n)] (.lit (.bool (sp_l1Val n)))
def Ssp_TxnOk_c : Prop := ∀ (t : GTxn) (hp0 : t.Guards.length ≤ 2147483648) (hp1 : t.Writes.length ≤ 2147483648) (hp2 : t.Reads.length ≤ 2147483648), Gives Try.prog 9 [.agg [.r (.rd 3 encGTxnGuard t.Guards), .r (.rd 3 encGTxnSum t.Writes), .r (.rd 1 encInt t.Reads)]] (.lit (.bool (sp_TxnOk t)))
def Ssp_l1Add_c : Prop := ∀ (list : List Int) (k : Int) (hp0 : list.length ≤ 1000000000), Does Try.prog 16 0 [.r (.rd 1 encInt list), .lit (.int .i64 k)] [] (fun vv H2 => vv = .sl 0 1 0 (sp_l1Add list k).length ∧ H2 = [some (.rows 1 aencInt (sp_l1Add list k))])
def Ssp_l1Get_c : Prop := ∀ (vals : List GTxnPair) (k : Int) (hp0 : vals.length ≤ 2147483648), Gives Try.prog 26 [.r (.rd 2 encGTxnPair vals), .lit (.int .i64 k)] (.lit (.int .i64 (sp_l1Get vals k)))
def Ssp_l1PairsOk_c : Prop := ∀ (vals : List GTxnPair) (hp0 : vals.length ≤ 2147483648), Gives Try.prog 24 [.r (.rd 2 encGTxnPair vals)] (.lit (.bool (sp_l1PairsOk vals)))
def Slw_lcInts_c : Prop := ∀ (a : List Int) (b : List Int) (hp0 : a.length ≤ 2147483648) (hp1 : b.length ≤ 2147483648), Gives Try.prog 8 [.r (.rd 1 encInt a), .r (.rd 1 encInt b)] (.lit (.bool (lw_lcInts a b)))
def Slw_lcPairs_c : Prop := ∀ (a : List GTxnPair) (b : List GTxnPair) (hp0 : a.length ≤ 2147483648) (hp1 : b.length ≤ 2147483648), Gives Try.prog 13 [.r (.rd 2 encGTxnPair a), .r (.rd 2 encGTxnPair b)] (.lit (.bool (lw_lcPairs a b)))
set_option maxRecDepth 10000 in
set_option maxHeartbeats 16000000 in
theorem layT31 : (Ssp_l1Key_c) ∧ (Ssp_l1Val_c) ∧ (Ssp_l1Key_c → Ssp_l1Val_c → Ssp_TxnOk_c) ∧ (Ssp_l1Add_c) ∧ (Ssp_l1Get_c) ∧ (Ssp_l1Key_c → Ssp_l1Val_c → Ssp_l1PairsOk_c) ∧ (Slw_lcInts_c) ∧ (Slw_lcPairs_c) := by
  refine ⟨fun k => have t0 := tg 0; Does.goR Try.func21 Try.ntmps21 Try.results21 rfl (Nat.zero_le _) rfl ?_,
    fun n => have t1 := tg 1; Does.goR Try.func22 Try.ntmps22 Try.results22 rfl (Nat.zero_le _) rfl ?_,
    fun sp_l1Key_c sp_l1Val_c t hp0 hp1 hp2 => have t2 := tg 2; Does.goR Try.func9 Try.ntmps9 Try.results9 rfl (Nat.zero_le _) rfl ?_,
    fun list k hp0 => have t3 := tg 3; Does.goR Try.func16 Try.ntmps16 Try.results16 rfl (Nat.zero_le _) rfl ?_,
    fun vals k hp0 => have t4 := tg 4; Does.goR Try.func26 Try.ntmps26 Try.results26 rfl (Nat.zero_le _) rfl ?_,
    fun sp_l1Key_c sp_l1Val_c vals hp0 => have t5 := tg 5; Does.goR Try.func24 Try.ntmps24 Try.results24 rfl (Nat.zero_le _) rfl ?_,
    fun a b hp0 hp1 => have t6 := tg 6; Does.goR Try.func8 Try.ntmps8 Try.results8 rfl (Nat.zero_le _) rfl ?_,
    fun a b hp0 hp1 => have t7 := tg 7; Does.goR Try.func13 Try.ntmps13 Try.results13 rfl (Nat.zero_le _) rfl ?_⟩
  all_goals (
  simp only [argR, Nat.reduceAdd]
  repeat' (first
    | ((with_reducible show Aft _ _ _ _);(first|refine Aft.t ?_|refine Aft.q ?_|refine Aft.b ?_|refine Aft.e ?_|refine Aft.tr ?_|refine Aft.br ?_|refine Aft.qr ?_|refine Aft.tx ?_|refine Aft.bx ?_|refine Aft.by' rfl ?_|refine Aft.qx ?_))
    | ((with_reducible show RegS _ _ _ _ _ _);(first
      | (refine RegS.nil (hK _ _ ?_);clear hK K)
      | ((first|refine RegS.stepN fun K1 h1 => ?_|refine RegS.step fun K1 h1 => ?_);simp only [go_sem,reduceCtorEq,Nat.reduceAdd,Nat.reduceSub,Nat.reduceMul,Nat.reduceLeDiff,Nat.reduceLT,Nat.reduceEqDiff])))
    | ((with_reducible show QuietS _ _ _ _ _ _);(first
      | (refine QuietS.nil (hK _ _ ?_);clear hK K)
      | ((first|refine QuietS.stepN fun K1 h1 => ?_|refine QuietS.step fun K1 h1 => ?_);simp only [go_sem,reduceCtorEq,Nat.reduceAdd,Nat.reduceSub,Nat.reduceMul,Nat.reduceLeDiff,Nat.reduceLT,Nat.reduceEqDiff])))
    | ((with_reducible show Tri _ _ _ _ _ _);(first
      | (refine Tri.regSeq fun K hK => RegS.run ?_)
      | (refine Tri.regA fun K hK => ?_)
      | (refine Tri.cond (b := ?_) ?_ ?_ ?_;rotate_left 1;focus (simp only [ev,z1,z2,Nat.reduceEqDiff,Nat.reduceLT,not_false_eq_true];exact rfl))
      | refine Tri.skipA ?_
      | refine Tri.exitA ?_
      | refine Tri.retA ?_
      | refine Tri.block ?_
      | (guard_hyp t2;(first|(refine Tri.fastSeqN 7 rfl mixedP (by kernel_rfl) fun K hK => QuietS.run ?_)|(refine Tri.fastA 7 rfl mixedP (by kernel_rfl) fun K hK => ?_)|(refine Tri.fastSeqN 13 rfl mixedP (by kernel_rfl) fun K hK => QuietS.run ?_)|(refine Tri.fastA 13 rfl mixedP (by kernel_rfl) fun K hK => ?_)|(refine Tri.fastSeqN 18 rfl mixedP (by kernel_rfl) fun K hK => QuietS.run ?_)|(refine Tri.fastA 18 rfl mixedP (by kernel_rfl) fun K hK => ?_) ))
      | (guard_hyp t5;(first|(refine Tri.fastSeqN 6 rfl mixedP (by kernel_rfl) fun K hK => QuietS.run ?_)|(refine Tri.fastA 6 rfl mixedP (by kernel_rfl) fun K hK => ?_) ))
      | (guard_hyp t6;(first|(refine Tri.fastSeqN 6 rfl mixedP (by kernel_rfl) fun K hK => QuietS.run ?_)|(refine Tri.fastA 6 rfl mixedP (by kernel_rfl) fun K hK => ?_) ))
      | (guard_hyp t7;(first|(refine Tri.fastSeqN 6 rfl mixedP (by kernel_rfl) fun K hK => QuietS.run ?_)|(refine Tri.fastA 6 rfl mixedP (by kernel_rfl) fun K hK => ?_) ))
      | ((with_reducible show Tri _ _ (Code.loop _) _ _ _);(first
      | (guard_hyp t2;refine Tri.loopR (ι := Nat) 4 rfl (fun j => mkR 163 [(1,.ptr 0 3 0 0),(3,.lit (.int .i64 (j : Int)))]) (fun j => [some (.cells [.r (.rd 3 encGTxnGuard t.Guards),.r (.rd 3 encGTxnSum t.Writes),.r (.rd 1 encInt t.Reads)])]) (fun j => sp_TxnOk_K1 t j = sp_TxnOk t ∧ (j : Int) ≤ (t.Guards.length : Int)) (fun j => ((t.Guards.length : Int) - (j : Int)).toNat) 0 (Ent.places [.slot 1] _ (by simp only [go_sem,reduceCtorEq,Nat.reduceAdd,Nat.reduceSub,Nat.reduceMul,Nat.reduceLeDiff,Nat.reduceLT,Nat.reduceEqDiff];rfl) rfl rfl (Nat.zero_le _) ?_ ?_) ?_ ?_;rotate_left 3;(focus (rintro i ⟨hM,hI⟩;(try dsimp only at hM hI)));rotate_right 3)
      | (guard_hyp t2;refine Tri.loopR (ι := Nat) 10 rfl (fun j => mkR 163 [(1,.ptr 0 3 0 0),(5,.lit (.int .i64 (j : Int)))]) (fun j => [some (.cells [.r (.rd 3 encGTxnGuard t.Guards),.r (.rd 3 encGTxnSum t.Writes),.r (.rd 1 encInt t.Reads)])]) (fun j => sp_TxnOk_K2 t j = sp_TxnOk t ∧ (j : Int) ≤ (t.Writes.length : Int)) (fun j => ((t.Writes.length : Int) - (j : Int)).toNat) 0 (Ent.places [.slot 1] _ (by simp only [go_sem,reduceCtorEq,Nat.reduceAdd,Nat.reduceSub,Nat.reduceMul,Nat.reduceLeDiff,Nat.reduceLT,Nat.reduceEqDiff];rfl) rfl rfl (Nat.zero_le _) ?_ ?_) ?_ ?_;rotate_left 3;(focus (rintro i4 ⟨hM,hI⟩;(try dsimp only at hM hI)));rotate_right 3)
      | (guard_hyp t2;refine Tri.loopR (ι := Nat) 16 rfl (fun j => mkR 163 [(1,.ptr 0 3 0 0),(7,.lit (.int .i64 (j : Int)))]) (fun j => [some (.cells [.r (.rd 3 encGTxnGuard t.Guards),.r (.rd 3 encGTxnSum t.Writes),.r (.rd 1 encInt t.Reads)])]) (fun j => sp_TxnOk_K3 t j = sp_TxnOk t ∧ (j : Int) ≤ (t.Reads.length : Int)) (fun j => ((t.Reads.length : Int) - (j : Int)).toNat) 0 (Ent.places [.slot 1] _ (by simp only [go_sem,reduceCtorEq,Nat.reduceAdd,Nat.reduceSub,Nat.reduceMul,Nat.reduceLeDiff,Nat.reduceLT,Nat.reduceEqDiff];rfl) rfl rfl (Nat.zero_le _) ?_ ?_) ?_ ?_;rotate_left 3;(focus (rintro i6 ⟨hM,hI⟩;(try dsimp only at hM hI)));rotate_right 3)
      | (guard_hyp t3;refine Tri.loopR (ι := (List Int) × Bool × Nat) 4 rfl (fun j => mkR 49 [(0,.r (.rd 1 encInt list)),(1,.lit (.int .i64 k)),(5,.sl 0 1 0 j.1.length),(6,.lit (.bool j.2.1)),(7,.lit (.int .i64 (j.2.2 : Int)))]) (fun j => [some (.rows 1 aencInt j.1)]) (fun j => sp_l1Add_K1 list k j.1 j.2.1 j.2.2 = sp_l1Add list k ∧ (j.2.2 : Int) ≤ (list.length : Int) ∧ j.1.length ≤ 2 * j.2.2) (fun j => ((list.length : Int) - (j.2.2 : Int)).toNat) (?_,?_,0) (Ent.places [.slot 5] _ (by simp only [go_sem,reduceCtorEq,Nat.reduceAdd,Nat.reduceSub,Nat.reduceMul,Nat.reduceLeDiff,Nat.reduceLT,Nat.reduceEqDiff];rfl) rfl rfl (Nat.zero_le _) ?_ ?_) ?_ ?_;rotate_left 5;(focus (rintro ⟨out,done,i⟩ ⟨hM,hI⟩;(try dsimp only at hM hI)));rotate_right 3)
      | (guard_hyp t4;refine Tri.loopR (ι := Nat) 2 rfl (fun j => mkR 24 [(0,.r (.rd 2 encGTxnPair vals)),(1,.lit (.int .i64 k)),(5,.lit (.int .i64 (j : Int)))]) (fun j => []) (fun j => sp_l1Get_K1 vals k j = sp_l1Get vals k ∧ (j : Int) ≤ (vals.length : Int)) (fun j => ((vals.length : Int) - (j : Int)).toNat) 0 (Ent.places [] _ (by simp only [go_sem,reduceCtorEq,Nat.reduceAdd,Nat.reduceSub,Nat.reduceMul,Nat.reduceLeDiff,Nat.reduceLT,Nat.reduceEqDiff];rfl) rfl rfl (Nat.zero_le _) ?_ ?_) ?_ ?_;rotate_left 3;(focus (rintro i ⟨hM,hI⟩;(try dsimp only at hM hI)));rotate_right 3)
      | (guard_hyp t5;refine Tri.loopR (ι := Nat) 4 rfl (fun j => mkR 47 [(0,.r (.rd 2 encGTxnPair vals)),(3,.lit (.int .i64 (j : Int)))]) (fun j => []) (fun j => sp_l1PairsOk_K1 vals j = sp_l1PairsOk vals ∧ (j : Int) ≤ (vals.length : Int)) (fun j => ((vals.length : Int) - (j : Int)).toNat) 0 (Ent.places [] _ (by simp only [go_sem,reduceCtorEq,Nat.reduceAdd,Nat.reduceSub,Nat.reduceMul,Nat.reduceLeDiff,Nat.reduceLT,Nat.reduceEqDiff];rfl) rfl rfl (Nat.zero_le _) ?_ ?_) ?_ ?_;rotate_left 3;(focus (rintro i ⟨hM,hI⟩;(try dsimp only at hM hI)));rotate_right 3)
      | (guard_hyp t6;refine Tri.loopR (ι := Nat) 4 rfl (fun j => mkR 26 [(0,.r (.rd 1 encInt a)),(1,.r (.rd 1 encInt b)),(5,.lit (.int .i64 (j : Int)))]) (fun j => []) (fun j => lw_lcInts_K1 a b j = lw_lcInts a b ∧ (j : Int) ≤ (a.length : Int)) (fun j => ((a.length : Int) - (j : Int)).toNat) 0 (Ent.places [] _ (by simp only [go_sem,reduceCtorEq,Nat.reduceAdd,Nat.reduceSub,Nat.reduceMul,Nat.reduceLeDiff,Nat.reduceLT,Nat.reduceEqDiff];rfl) rfl rfl (Nat.zero_le _) ?_ ?_) ?_ ?_;rotate_left 3;(focus (rintro i ⟨hM,hI⟩;(try dsimp only at hM hI)));rotate_right 3)
      | (guard_hyp t7;refine Tri.loopR (ι := Nat) 4 rfl (fun j => mkR 26 [(0,.r (.rd 2 encGTxnPair a)),(1,.r (.rd 2 encGTxnPair b)),(5,.lit (.int .i64 (j : Int)))]) (fun j => []) (fun j => lw_lcPairs_K1 a b j = lw_lcPairs a b ∧ (j : Int) ≤ (a.length : Int)) (fun j => ((a.length : Int) - (j : Int)).toNat) 0 (Ent.places [] _ (by simp only [go_sem,reduceCtorEq,Nat.reduceAdd,Nat.reduceSub,Nat.reduceMul,Nat.reduceLeDiff,Nat.reduceLT,Nat.reduceEqDiff];rfl) rfl rfl (Nat.zero_le _) ?_ ?_) ?_ ?_;rotate_left 3;(focus (rintro i ⟨hM,hI⟩;(try dsimp only at hM hI)));rotate_right 3)
      ); (focus (repeat' (first | simp only [z1, z2, z3, Nat.reduceEqDiff, Nat.reduceLT, not_false_eq_true] | exact z29 | refine z30 ?_ ?_ | exact z32 | refine z33 ?_ ?_ | refine z31 ?_ | exact z34 | refine z35 rfl ?_ ?_ | refine z36 ?_ | exact z13 | exact z14 | exact z15 | exact z16 | refine z17 ?_ | refine z18 rfl ?_ | refine z19 rfl ?_ ?_ | (show lτ _ _ = some _; exact rfl) | exact z21 rfl rfl | refine z21 rfl ?_ | refine z22 ?_ | refine z24 ?_ | exact z25 | refine z26 ?_ rfl rfl ?_ | refine z23 ?_ | refine z27 ?_ rfl rfl ?_ ?_ | refine z28 ?_ rfl rfl ?_ ?_ ?_ | exact True.intro | exact z4 rfl | exact z5 | exact z6 | exact z7 | exact z8 | exact z9 | exact z10 | refine z37 ?_ | refine z38 rfl ?_ | exact z39 | exact z40 | refine z41 (xs := ?_) (ys := ?_) ?_ ?_ | refine z42 (xs := ?_) (ys := ?_) ?_ ?_ ?_ ?_ | refine z43 (xs := ?_) ?_ | refine z44 (xs := ?_) ?_ | refine z45 (x := ?_) (xs := ?_) ?_ ?_ | refine RowsAre.rep (x := ?_) (n := ?_) ?_ | (with_reducible show RowIs _ _ _; first | exact Int_row _ | exact Str_row _) | (with_reducible show RowIs _ _ _; first | exact GTxn_row _ | exact GTxn_mk _ _ _ | exact GTxnGuard_row _ | exact GTxnGuard_mk _ _ _ | exact GTxnSum_row _ | exact GTxnSum_mk _ _ _ | exact GTxnPair_row _ | exact GTxnPair_mk _ _) | with_reducible exact rfl | (refine z11 ?_; omega) | (refine z12 ?_; omega) | simp only [List.length_append, List.length_map, List.length_cons, List.length_nil, List.length_set, List.length_replicate]))); (focus (repeat' (first | simp only [z1, z2, z3, Nat.reduceEqDiff, Nat.reduceLT, not_false_eq_true] | exact z29 | refine z30 ?_ ?_ | exact z32 | refine z33 ?_ ?_ | refine z31 ?_ | exact z34 | refine z35 rfl ?_ ?_ | refine z36 ?_ | exact z13 | exact z14 | exact z15 | exact z16 | refine z17 ?_ | refine z18 rfl ?_ | refine z19 rfl ?_ ?_ | (show lτ _ _ = some _; exact rfl) | exact z21 rfl rfl | refine z21 rfl ?_ | refine z22 ?_ | refine z24 ?_ | exact z25 | refine z26 ?_ rfl rfl ?_ | refine z23 ?_ | refine z27 ?_ rfl rfl ?_ ?_ | refine z28 ?_ rfl rfl ?_ ?_ ?_ | exact True.intro | exact z4 rfl | exact z5 | exact z6 | exact z7 | exact z8 | exact z9 | exact z10 | refine z37 ?_ | refine z38 rfl ?_ | exact z39 | exact z40 | refine z41 (xs := ?_) (ys := ?_) ?_ ?_ | refine z42 (xs := ?_) (ys := ?_) ?_ ?_ ?_ ?_ | refine z43 (xs := ?_) ?_ | refine z44 (xs := ?_) ?_ | refine z45 (x := ?_) (xs := ?_) ?_ ?_ | refine RowsAre.rep (x := ?_) (n := ?_) ?_ | (with_reducible show RowIs _ _ _; first | exact Int_row _ | exact Str_row _) | (with_reducible show RowIs _ _ _; first | exact GTxn_row _ | exact GTxn_mk _ _ _ | exact GTxnGuard_row _ | exact GTxnGuard_mk _ _ _ | exact GTxnSum_row _ | exact GTxnSum_mk _ _ _ | exact GTxnPair_row _ | exact GTxnPair_mk _ _) | with_reducible exact rfl | (refine z11 ?_; omega) | (refine z12 ?_; omega) | simp only [List.length_append, List.length_map, List.length_cons, List.length_nil, List.length_set, List.length_replicate]))); rotate_left 1)
      | refine Tri.seq ?_))
    | ((with_reducible show CallA _ _ _ _ _);(first
      | ((first
      | (refine z46 (sp_l6In_c ?_ ?_ ?_) ?_ ?_;rotate_left 3)
      | (refine z46 (sp_l1Key_c ?_) ?_ ?_;rotate_left 1)
      | (refine z46 (sp_l1Val_c ?_) ?_ ?_;rotate_left 1)
      ); (focus ((repeat' (first | simp only [z1, z2, z3, Nat.reduceEqDiff, Nat.reduceLT, not_false_eq_true] | exact z29 | refine z30 ?_ ?_ | exact z32 | refine z33 ?_ ?_ | refine z31 ?_ | exact z34 | refine z35 rfl ?_ ?_ | refine z36 ?_ | exact z13 | exact z14 | exact z15 | exact z16 | refine z17 ?_ | refine z18 rfl ?_ | refine z19 rfl ?_ ?_ | (show lτ _ _ = some _; exact rfl) | exact z21 rfl rfl | refine z21 rfl ?_ | refine z22 ?_ | refine z24 ?_ | exact z25 | refine z26 ?_ rfl rfl ?_ | refine z23 ?_ | refine z27 ?_ rfl rfl ?_ ?_ | refine z28 ?_ rfl rfl ?_ ?_ ?_ | exact True.intro | exact z4 rfl | exact z5 | exact z6 | exact z7 | exact z8 | exact z9 | exact z10 | refine z37 ?_ | refine z38 rfl ?_ | exact z39 | exact z40 | refine z41 (xs := ?_) (ys := ?_) ?_ ?_ | refine z42 (xs := ?_) (ys := ?_) ?_ ?_ ?_ ?_ | refine z43 (xs := ?_) ?_ | refine z44 (xs := ?_) ?_ | refine z45 (x := ?_) (xs := ?_) ?_ ?_ | refine RowsAre.rep (x := ?_) (n := ?_) ?_ | (with_reducible show RowIs _ _ _; first | exact Int_row _ | exact Str_row _) | (with_reducible show RowIs _ _ _; first | exact GTxn_row _ | exact GTxn_mk _ _ _ | exact GTxnGuard_row _ | exact GTxnGuard_mk _ _ _ | exact GTxnSum_row _ | exact GTxnSum_mk _ _ _ | exact GTxnPair_row _ | exact GTxnPair_mk _ _) | with_reducible exact rfl | (refine z11 ?_; omega) | (refine z12 ?_; omega) | simp only [List.length_append, List.length_map, List.length_cons, List.length_nil, List.length_set, List.length_replicate])); (all_goals (fail_if_success (with_reducible show FZ _ _))); (all_goals (fail_if_success (with_reducible show List.contains _ _ = true))); (all_goals (fail_if_success (with_reducible show False))); (all_goals (fail_if_success (with_reducible show VSub _ _ _ _ _ _))))))
      | ((first
      | (refine z47 (sp_l6In_c ?_ ?_ ?_) rfl ?_ ?_;rotate_left 3)
      | (refine z47 (sp_l1Key_c ?_) rfl ?_ ?_;rotate_left 1)
      | (refine z47 (sp_l1Val_c ?_) rfl ?_ ?_;rotate_left 1)
      ); (focus ((repeat' (first | simp only [z1, z2, z3, Nat.reduceEqDiff, Nat.reduceLT, not_false_eq_true] | exact z29 | refine z30 ?_ ?_ | exact z32 | refine z33 ?_ ?_ | refine z31 ?_ | exact z34 | refine z35 rfl ?_ ?_ | refine z36 ?_ | exact z13 | exact z14 | exact z15 | exact z16 | refine z17 ?_ | refine z18 rfl ?_ | refine z19 rfl ?_ ?_ | (show lτ _ _ = some _; exact rfl) | exact z21 rfl rfl | refine z21 rfl ?_ | refine z22 ?_ | refine z24 ?_ | exact z25 | refine z26 ?_ rfl rfl ?_ | refine z23 ?_ | refine z27 ?_ rfl rfl ?_ ?_ | refine z28 ?_ rfl rfl ?_ ?_ ?_ | exact True.intro | exact z4 rfl | exact z5 | exact z6 | exact z7 | exact z8 | exact z9 | exact z10 | refine z37 ?_ | refine z38 rfl ?_ | exact z39 | exact z40 | refine z41 (xs := ?_) (ys := ?_) ?_ ?_ | refine z42 (xs := ?_) (ys := ?_) ?_ ?_ ?_ ?_ | refine z43 (xs := ?_) ?_ | refine z44 (xs := ?_) ?_ | refine z45 (x := ?_) (xs := ?_) ?_ ?_ | refine RowsAre.rep (x := ?_) (n := ?_) ?_ | (with_reducible show RowIs _ _ _; first | exact Int_row _ | exact Str_row _) | (with_reducible show RowIs _ _ _; first | exact GTxn_row _ | exact GTxn_mk _ _ _ | exact GTxnGuard_row _ | exact GTxnGuard_mk _ _ _ | exact GTxnSum_row _ | exact GTxnSum_mk _ _ _ | exact GTxnPair_row _ | exact GTxnPair_mk _ _) | with_reducible exact rfl | (refine z11 ?_; omega) | (refine z12 ?_; omega) | simp only [List.length_append, List.length_map, List.length_cons, List.length_nil, List.length_set, List.length_replicate])); (all_goals (fail_if_success (with_reducible show FZ _ _))); (all_goals (fail_if_success (with_reducible show List.contains _ _ = true))); (all_goals (fail_if_success (with_reducible show False))); (all_goals (fail_if_success (with_reducible show VSub _ _ _ _ _ _))))))))
    | ((with_reducible show CallL _ _ _ _);(first
      | ((first
      | (refine CallL.gv0 (sp_l6In_c ?_ ?_ ?_) ?_ ?_;rotate_left 3)
      | (refine CallL.gv0 (sp_l1Key_c ?_) ?_ ?_;rotate_left 1)
      | (refine CallL.gv0 (sp_l1Val_c ?_) ?_ ?_;rotate_left 1)
      ); (focus ((repeat' (first | simp only [z1, z2, z3, Nat.reduceEqDiff, Nat.reduceLT, not_false_eq_true] | exact z29 | refine z30 ?_ ?_ | exact z32 | refine z33 ?_ ?_ | refine z31 ?_ | exact z34 | refine z35 rfl ?_ ?_ | refine z36 ?_ | exact z13 | exact z14 | exact z15 | exact z16 | refine z17 ?_ | refine z18 rfl ?_ | refine z19 rfl ?_ ?_ | (show lτ _ _ = some _; exact rfl) | exact z21 rfl rfl | refine z21 rfl ?_ | refine z22 ?_ | refine z24 ?_ | exact z25 | refine z26 ?_ rfl rfl ?_ | refine z23 ?_ | refine z27 ?_ rfl rfl ?_ ?_ | refine z28 ?_ rfl rfl ?_ ?_ ?_ | exact True.intro | exact z4 rfl | exact z5 | exact z6 | exact z7 | exact z8 | exact z9 | exact z10 | refine z37 ?_ | refine z38 rfl ?_ | exact z39 | exact z40 | refine z41 (xs := ?_) (ys := ?_) ?_ ?_ | refine z42 (xs := ?_) (ys := ?_) ?_ ?_ ?_ ?_ | refine z43 (xs := ?_) ?_ | refine z44 (xs := ?_) ?_ | refine z45 (x := ?_) (xs := ?_) ?_ ?_ | refine RowsAre.rep (x := ?_) (n := ?_) ?_ | (with_reducible show RowIs _ _ _; first | exact Int_row _ | exact Str_row _) | (with_reducible show RowIs _ _ _; first | exact GTxn_row _ | exact GTxn_mk _ _ _ | exact GTxnGuard_row _ | exact GTxnGuard_mk _ _ _ | exact GTxnSum_row _ | exact GTxnSum_mk _ _ _ | exact GTxnPair_row _ | exact GTxnPair_mk _ _) | with_reducible exact rfl | (refine z11 ?_; omega) | (refine z12 ?_; omega) | simp only [List.length_append, List.length_map, List.length_cons, List.length_nil, List.length_set, List.length_replicate])); (all_goals (fail_if_success (with_reducible show FZ _ _))); (all_goals (fail_if_success (with_reducible show List.contains _ _ = true))); (all_goals (fail_if_success (with_reducible show False))); (all_goals (fail_if_success (with_reducible show VSub _ _ _ _ _ _))))))))
    | ((with_reducible show BackG _ _);(first
      | ((first
      | (guard_hyp t2;refine backR 4 (i + 1) (Ent.places [.slot 1] _ (by simp only [go_sem,reduceCtorEq,Nat.reduceAdd,Nat.reduceSub,Nat.reduceMul,Nat.reduceLeDiff,Nat.reduceLT,Nat.reduceEqDiff];rfl) rfl rfl (Nat.zero_le _) ?_ ?_) ?_ ?_;rotate_left 3;(focus ((try dsimp only);omega));rotate_right 3)
      | (guard_hyp t2;refine backR 10 (i4 + 1) (Ent.places [.slot 1] _ (by simp only [go_sem,reduceCtorEq,Nat.reduceAdd,Nat.reduceSub,Nat.reduceMul,Nat.reduceLeDiff,Nat.reduceLT,Nat.reduceEqDiff];rfl) rfl rfl (Nat.zero_le _) ?_ ?_) ?_ ?_;rotate_left 3;(focus ((try dsimp only);omega));rotate_right 3)
      | (guard_hyp t2;refine backR 16 (i6 + 1) (Ent.places [.slot 1] _ (by simp only [go_sem,reduceCtorEq,Nat.reduceAdd,Nat.reduceSub,Nat.reduceMul,Nat.reduceLeDiff,Nat.reduceLT,Nat.reduceEqDiff];rfl) rfl rfl (Nat.zero_le _) ?_ ?_) ?_ ?_;rotate_left 3;(focus ((try dsimp only);omega));rotate_right 3)
      | (guard_hyp t3;refine backR 4 (?_,?_,(i + 1)) (Ent.places [.slot 5] _ (by simp only [go_sem,reduceCtorEq,Nat.reduceAdd,Nat.reduceSub,Nat.reduceMul,Nat.reduceLeDiff,Nat.reduceLT,Nat.reduceEqDiff];rfl) rfl rfl (Nat.zero_le _) ?_ ?_) ?_ ?_;rotate_left 2;rotate_left 3;(focus ((try dsimp only);omega));rotate_right 3)
      | (guard_hyp t4;refine backR 2 (i + 1) (Ent.places [] _ (by simp only [go_sem,reduceCtorEq,Nat.reduceAdd,Nat.reduceSub,Nat.reduceMul,Nat.reduceLeDiff,Nat.reduceLT,Nat.reduceEqDiff];rfl) rfl rfl (Nat.zero_le _) ?_ ?_) ?_ ?_;rotate_left 3;(focus ((try dsimp only);omega));rotate_right 3)
      | (guard_hyp t5;refine backR 4 (i + 1) (Ent.places [] _ (by simp only [go_sem,reduceCtorEq,Nat.reduceAdd,Nat.reduceSub,Nat.reduceMul,Nat.reduceLeDiff,Nat.reduceLT,Nat.reduceEqDiff];rfl) rfl rfl (Nat.zero_le _) ?_ ?_) ?_ ?_;rotate_left 3;(focus ((try dsimp only);omega));rotate_right 3)
      | (guard_hyp t6;refine backR 4 (i + 1) (Ent.places [] _ (by simp only [go_sem,reduceCtorEq,Nat.reduceAdd,Nat.reduceSub,Nat.reduceMul,Nat.reduceLeDiff,Nat.reduceLT,Nat.reduceEqDiff];rfl) rfl rfl (Nat.zero_le _) ?_ ?_) ?_ ?_;rotate_left 3;(focus ((try dsimp only);omega));rotate_right 3)
      | (guard_hyp t7;refine backR 4 (i + 1) (Ent.places [] _ (by simp only [go_sem,reduceCtorEq,Nat.reduceAdd,Nat.reduceSub,Nat.reduceMul,Nat.reduceLeDiff,Nat.reduceLT,Nat.reduceEqDiff];rfl) rfl rfl (Nat.zero_le _) ?_ ?_) ?_ ?_;rotate_left 3;(focus ((try dsimp only);omega));rotate_right 3)
      ); (focus (repeat' (first | simp only [z1, z2, z3, Nat.reduceEqDiff, Nat.reduceLT, not_false_eq_true] | exact z29 | refine z30 ?_ ?_ | exact z32 | refine z33 ?_ ?_ | refine z31 ?_ | exact z34 | refine z35 rfl ?_ ?_ | refine z36 ?_ | exact z13 | exact z14 | exact z15 | exact z16 | refine z17 ?_ | refine z18 rfl ?_ | refine z19 rfl ?_ ?_ | (show lτ _ _ = some _; exact rfl) | exact z21 rfl rfl | refine z21 rfl ?_ | refine z22 ?_ | refine z24 ?_ | exact z25 | refine z26 ?_ rfl rfl ?_ | refine z23 ?_ | refine z27 ?_ rfl rfl ?_ ?_ | refine z28 ?_ rfl rfl ?_ ?_ ?_ | exact True.intro | exact z4 rfl | exact z5 | exact z6 | exact z7 | exact z8 | exact z9 | exact z10 | refine z37 ?_ | refine z38 rfl ?_ | exact z39 | exact z40 | refine z41 (xs := ?_) (ys := ?_) ?_ ?_ | refine z42 (xs := ?_) (ys := ?_) ?_ ?_ ?_ ?_ | refine z43 (xs := ?_) ?_ | refine z44 (xs := ?_) ?_ | refine z45 (x := ?_) (xs := ?_) ?_ ?_ | refine RowsAre.rep (x := ?_) (n := ?_) ?_ | (with_reducible show RowIs _ _ _; first | exact Int_row _ | exact Str_row _) | (with_reducible show RowIs _ _ _; first | exact GTxn_row _ | exact GTxn_mk _ _ _ | exact GTxnGuard_row _ | exact GTxnGuard_mk _ _ _ | exact GTxnSum_row _ | exact GTxnSum_mk _ _ _ | exact GTxnPair_row _ | exact GTxnPair_mk _ _) | with_reducible exact rfl | (refine z11 ?_; omega) | (refine z12 ?_; omega) | simp only [List.length_append, List.length_map, List.length_cons, List.length_nil, List.length_set, List.length_replicate]))); (focus (repeat' (first | simp only [z1, z2, z3, Nat.reduceEqDiff, Nat.reduceLT, not_false_eq_true] | exact z29 | refine z30 ?_ ?_ | exact z32 | refine z33 ?_ ?_ | refine z31 ?_ | exact z34 | refine z35 rfl ?_ ?_ | refine z36 ?_ | exact z13 | exact z14 | exact z15 | exact z16 | refine z17 ?_ | refine z18 rfl ?_ | refine z19 rfl ?_ ?_ | (show lτ _ _ = some _; exact rfl) | exact z21 rfl rfl | refine z21 rfl ?_ | refine z22 ?_ | refine z24 ?_ | exact z25 | refine z26 ?_ rfl rfl ?_ | refine z23 ?_ | refine z27 ?_ rfl rfl ?_ ?_ | refine z28 ?_ rfl rfl ?_ ?_ ?_ | exact True.intro | exact z4 rfl | exact z5 | exact z6 | exact z7 | exact z8 | exact z9 | exact z10 | refine z37 ?_ | refine z38 rfl ?_ | exact z39 | exact z40 | refine z41 (xs := ?_) (ys := ?_) ?_ ?_ | refine z42 (xs := ?_) (ys := ?_) ?_ ?_ ?_ ?_ | refine z43 (xs := ?_) ?_ | refine z44 (xs := ?_) ?_ | refine z45 (x := ?_) (xs := ?_) ?_ ?_ | refine RowsAre.rep (x := ?_) (n := ?_) ?_ | (with_reducible show RowIs _ _ _; first | exact Int_row _ | exact Str_row _) | (with_reducible show RowIs _ _ _; first | exact GTxn_row _ | exact GTxn_mk _ _ _ | exact GTxnGuard_row _ | exact GTxnGuard_mk _ _ _ | exact GTxnSum_row _ | exact GTxnSum_mk _ _ _ | exact GTxnPair_row _ | exact GTxnPair_mk _ _) | with_reducible exact rfl | (refine z11 ?_; omega) | (refine z12 ?_; omega) | simp only [List.length_append, List.length_map, List.length_cons, List.length_nil, List.length_set, List.length_replicate]))))
      | ((first
      | (guard_hyp t2;refine backR 4 (i + 1) (Ent.places [.slot 1] _ (by simp only [go_sem,reduceCtorEq,Nat.reduceAdd,Nat.reduceSub,Nat.reduceMul,Nat.reduceLeDiff,Nat.reduceLT,Nat.reduceEqDiff];rfl) rfl rfl (Nat.zero_le _) ?_ ?_) ?_ ?_)
      | (guard_hyp t2;refine backR 10 (i4 + 1) (Ent.places [.slot 1] _ (by simp only [go_sem,reduceCtorEq,Nat.reduceAdd,Nat.reduceSub,Nat.reduceMul,Nat.reduceLeDiff,Nat.reduceLT,Nat.reduceEqDiff];rfl) rfl rfl (Nat.zero_le _) ?_ ?_) ?_ ?_)
      | (guard_hyp t2;refine backR 16 (i6 + 1) (Ent.places [.slot 1] _ (by simp only [go_sem,reduceCtorEq,Nat.reduceAdd,Nat.reduceSub,Nat.reduceMul,Nat.reduceLeDiff,Nat.reduceLT,Nat.reduceEqDiff];rfl) rfl rfl (Nat.zero_le _) ?_ ?_) ?_ ?_)
      | (guard_hyp t3;refine backR 4 (?_,?_,(i + 1)) (Ent.places [.slot 5] _ (by simp only [go_sem,reduceCtorEq,Nat.reduceAdd,Nat.reduceSub,Nat.reduceMul,Nat.reduceLeDiff,Nat.reduceLT,Nat.reduceEqDiff];rfl) rfl rfl (Nat.zero_le _) ?_ ?_) ?_ ?_;rotate_left 2)
      | (guard_hyp t4;refine backR 2 (i + 1) (Ent.places [] _ (by simp only [go_sem,reduceCtorEq,Nat.reduceAdd,Nat.reduceSub,Nat.reduceMul,Nat.reduceLeDiff,Nat.reduceLT,Nat.reduceEqDiff];rfl) rfl rfl (Nat.zero_le _) ?_ ?_) ?_ ?_)
      | (guard_hyp t5;refine backR 4 (i + 1) (Ent.places [] _ (by simp only [go_sem,reduceCtorEq,Nat.reduceAdd,Nat.reduceSub,Nat.reduceMul,Nat.reduceLeDiff,Nat.reduceLT,Nat.reduceEqDiff];rfl) rfl rfl (Nat.zero_le _) ?_ ?_) ?_ ?_)
      | (guard_hyp t6;refine backR 4 (i + 1) (Ent.places [] _ (by simp only [go_sem,reduceCtorEq,Nat.reduceAdd,Nat.reduceSub,Nat.reduceMul,Nat.reduceLeDiff,Nat.reduceLT,Nat.reduceEqDiff];rfl) rfl rfl (Nat.zero_le _) ?_ ?_) ?_ ?_)
      | (guard_hyp t7;refine backR 4 (i + 1) (Ent.places [] _ (by simp only [go_sem,reduceCtorEq,Nat.reduceAdd,Nat.reduceSub,Nat.reduceMul,Nat.reduceLeDiff,Nat.reduceLT,Nat.reduceEqDiff];rfl) rfl rfl (Nat.zero_le _) ?_ ?_) ?_ ?_)
      ); (focus (repeat' (first | simp only [z1, z2, z3, Nat.reduceEqDiff, Nat.reduceLT, not_false_eq_true] | exact z29 | refine z30 ?_ ?_ | exact z32 | refine z33 ?_ ?_ | refine z31 ?_ | exact z34 | refine z35 rfl ?_ ?_ | refine z36 ?_ | exact z13 | exact z14 | exact z15 | exact z16 | refine z17 ?_ | refine z18 rfl ?_ | refine z19 rfl ?_ ?_ | (show lτ _ _ = some _; exact rfl) | exact z21 rfl rfl | refine z21 rfl ?_ | refine z22 ?_ | refine z24 ?_ | exact z25 | refine z26 ?_ rfl rfl ?_ | refine z23 ?_ | refine z27 ?_ rfl rfl ?_ ?_ | refine z28 ?_ rfl rfl ?_ ?_ ?_ | exact True.intro | exact z4 rfl | exact z5 | exact z6 | exact z7 | exact z8 | exact z9 | exact z10 | refine z37 ?_ | refine z38 rfl ?_ | exact z39 | exact z40 | refine z41 (xs := ?_) (ys := ?_) ?_ ?_ | refine z42 (xs := ?_) (ys := ?_) ?_ ?_ ?_ ?_ | refine z43 (xs := ?_) ?_ | refine z44 (xs := ?_) ?_ | refine z45 (x := ?_) (xs := ?_) ?_ ?_ | refine RowsAre.rep (x := ?_) (n := ?_) ?_ | (with_reducible show RowIs _ _ _; first | exact Int_row _ | exact Str_row _) | (with_reducible show RowIs _ _ _; first | exact GTxn_row _ | exact GTxn_mk _ _ _ | exact GTxnGuard_row _ | exact GTxnGuard_mk _ _ _ | exact GTxnSum_row _ | exact GTxnSum_mk _ _ _ | exact GTxnPair_row _ | exact GTxnPair_mk _ _) | with_reducible exact rfl | (refine z11 ?_; omega) | (refine z12 ?_; omega) | simp only [List.length_append, List.length_map, List.length_cons, List.length_nil, List.length_set, List.length_replicate]))); (focus (repeat' (first | simp only [z1, z2, z3, Nat.reduceEqDiff, Nat.reduceLT, not_false_eq_true] | exact z29 | refine z30 ?_ ?_ | exact z32 | refine z33 ?_ ?_ | refine z31 ?_ | exact z34 | refine z35 rfl ?_ ?_ | refine z36 ?_ | exact z13 | exact z14 | exact z15 | exact z16 | refine z17 ?_ | refine z18 rfl ?_ | refine z19 rfl ?_ ?_ | (show lτ _ _ = some _; exact rfl) | exact z21 rfl rfl | refine z21 rfl ?_ | refine z22 ?_ | refine z24 ?_ | exact z25 | refine z26 ?_ rfl rfl ?_ | refine z23 ?_ | refine z27 ?_ rfl rfl ?_ ?_ | refine z28 ?_ rfl rfl ?_ ?_ ?_ | exact True.intro | exact z4 rfl | exact z5 | exact z6 | exact z7 | exact z8 | exact z9 | exact z10 | refine z37 ?_ | refine z38 rfl ?_ | exact z39 | exact z40 | refine z41 (xs := ?_) (ys := ?_) ?_ ?_ | refine z42 (xs := ?_) (ys := ?_) ?_ ?_ ?_ ?_ | refine z43 (xs := ?_) ?_ | refine z44 (xs := ?_) ?_ | refine z45 (x := ?_) (xs := ?_) ?_ ?_ | refine RowsAre.rep (x := ?_) (n := ?_) ?_ | (with_reducible show RowIs _ _ _; first | exact Int_row _ | exact Str_row _) | (with_reducible show RowIs _ _ _; first | exact GTxn_row _ | exact GTxn_mk _ _ _ | exact GTxnGuard_row _ | exact GTxnGuard_mk _ _ _ | exact GTxnSum_row _ | exact GTxnSum_mk _ _ _ | exact GTxnPair_row _ | exact GTxnPair_mk _ _) | with_reducible exact rfl | (refine z11 ?_; omega) | (refine z12 ?_; omega) | simp only [List.length_append, List.length_map, List.length_cons, List.length_nil, List.length_set, List.length_replicate]))); rotate_left 1; (focus ((try dsimp only); first | omega | (simp only [List.length_set, List.length_append, List.length_cons, List.length_nil]; omega))))))
    | ((with_reducible show EndK _ _ _ _ _ _ _);(first
      | ((first
      | (guard_hyp t0;refine EndK.eqv (vs := ?_) (f := fun x : Bool => .lit (.bool x)) ?_ (by first|exact .inr rfl|exact .inl rfl) ?_ ?_ ?_;rotate_left 2)
      | (guard_hyp t1;refine EndK.eqv (vs := ?_) (f := fun x : Bool => .lit (.bool x)) ?_ (by first|exact .inr rfl|exact .inl rfl) ?_ ?_ ?_;rotate_left 2)
      | (guard_hyp t2;refine EndK.eqv (vs := ?_) (f := fun x : Bool => .lit (.bool x)) ?_ (by first|exact .inr rfl|exact .inl rfl) ?_ ?_ ?_;rotate_left 2)
      | (guard_hyp t4;refine EndK.eqv (vs := ?_) (f := fun x : Int => .lit (.int .i64 x)) ?_ (by first|exact .inr rfl|exact .inl rfl) ?_ ?_ ?_;rotate_left 2)
      | (guard_hyp t5;refine EndK.eqv (vs := ?_) (f := fun x : Bool => .lit (.bool x)) ?_ (by first|exact .inr rfl|exact .inl rfl) ?_ ?_ ?_;rotate_left 2)
      | (guard_hyp t6;refine EndK.eqv (vs := ?_) (f := fun x : Bool => .lit (.bool x)) ?_ (by first|exact .inr rfl|exact .inl rfl) ?_ ?_ ?_;rotate_left 2)
      | (guard_hyp t7;refine EndK.eqv (vs := ?_) (f := fun x : Bool => .lit (.bool x)) ?_ (by first|exact .inr rfl|exact .inl rfl) ?_ ?_ ?_;rotate_left 2)
      ); (focus (simp only [go_sem, reduceCtorEq, Nat.reduceAdd, Nat.reduceSub, Nat.reduceMul, Nat.reduceLeDiff, Nat.reduceLT, Nat.reduceEqDiff]; exact rfl)); (focus (repeat' (first | simp only [z1, z2, z3, Nat.reduceEqDiff, Nat.reduceLT, not_false_eq_true] | exact z29 | refine z30 ?_ ?_ | exact z32 | refine z33 ?_ ?_ | refine z31 ?_ | exact z34 | refine z35 rfl ?_ ?_ | refine z36 ?_ | exact z13 | exact z14 | exact z15 | exact z16 | refine z17 ?_ | refine z18 rfl ?_ | refine z19 rfl ?_ ?_ | (show lτ _ _ = some _; exact rfl) | exact z21 rfl rfl | refine z21 rfl ?_ | refine z22 ?_ | refine z24 ?_ | exact z25 | refine z26 ?_ rfl rfl ?_ | refine z23 ?_ | refine z27 ?_ rfl rfl ?_ ?_ | refine z28 ?_ rfl rfl ?_ ?_ ?_ | exact True.intro | exact z4 rfl | exact z5 | exact z6 | exact z7 | exact z8 | exact z9 | exact z10 | refine z37 ?_ | refine z38 rfl ?_ | exact z39 | exact z40 | refine z41 (xs := ?_) (ys := ?_) ?_ ?_ | refine z42 (xs := ?_) (ys := ?_) ?_ ?_ ?_ ?_ | refine z43 (xs := ?_) ?_ | refine z44 (xs := ?_) ?_ | refine z45 (x := ?_) (xs := ?_) ?_ ?_ | refine RowsAre.rep (x := ?_) (n := ?_) ?_ | (with_reducible show RowIs _ _ _; first | exact Int_row _ | exact Str_row _) | (with_reducible show RowIs _ _ _; first | exact GTxn_row _ | exact GTxn_mk _ _ _ | exact GTxnGuard_row _ | exact GTxnGuard_mk _ _ _ | exact GTxnSum_row _ | exact GTxnSum_mk _ _ _ | exact GTxnPair_row _ | exact GTxnPair_mk _ _) | with_reducible exact rfl | (refine z11 ?_; omega) | (refine z12 ?_; omega) | simp only [List.length_append, List.length_map, List.length_cons, List.length_nil, List.length_set, List.length_replicate]))))
      | ((guard_hyp t3;refine EndK.eqq (p := 0) (vs := ?_) (f := fun x : (List Int) => .sl 0 1 0 x.length) (g := fun x : (List Int) => [some (.rows 1 aencInt x)]) ?_ [?_] (by first|exact .inr rfl|exact .inl rfl) ?_ ?_ ?_ (by simp) ?_ ?_ ?_;rotate_left 3);(focus (simp only [go_sem,reduceCtorEq,Nat.reduceAdd,Nat.reduceSub,Nat.reduceMul,Nat.reduceLeDiff,Nat.reduceLT,Nat.reduceEqDiff];exact rfl));rotate_left 3;(focus (repeat' (first|simp only [z1,z2,z3,Nat.reduceEqDiff,Nat.reduceLT,not_false_eq_true]|exact z29|refine z30 ?_ ?_|exact z32|refine z33 ?_ ?_|refine z31 ?_|exact z34|refine z35 rfl ?_ ?_|refine z36 ?_|exact z13|exact z14|exact z15|exact z16|refine z17 ?_|refine z18 rfl ?_|refine z20 rfl ?_ ?_|(show lτ _ _ = some _;exact rfl)|exact z21 rfl rfl|refine z21 rfl ?_|refine z22 ?_|refine z24 ?_|exact z25|refine z26 ?_ rfl rfl ?_|refine z23 ?_|refine z27 ?_ rfl rfl ?_ ?_|refine z28 ?_ rfl rfl ?_ ?_ ?_|exact True.intro|exact z4 rfl|exact z5|exact z6|exact z7|exact z8|exact z9|exact z10|refine z37 ?_|refine z38 rfl ?_|exact z39|exact z40|refine z41 (xs := ?_) (ys := ?_) ?_ ?_|refine z42 (xs := ?_) (ys := ?_) ?_ ?_ ?_ ?_|refine z43 (xs := ?_) ?_|refine z44 (xs := ?_) ?_|refine z45 (x := ?_) (xs := ?_) ?_ ?_|refine RowsAre.rep (x := ?_) (n := ?_) ?_|(with_reducible show RowIs _ _ _;first|exact Int_row _|exact Str_row _)|(with_reducible show RowIs _ _ _;first|exact GTxn_row _|exact GTxn_mk _ _ _|exact GTxnGuard_row _|exact GTxnGuard_mk _ _ _|exact GTxnSum_row _|exact GTxnSum_mk _ _ _|exact GTxnPair_row _|exact GTxnPair_mk _ _)|with_reducible exact rfl|(refine z11 ?_;omega)|(refine z12 ?_;omega)|simp only [List.length_append,List.length_map,List.length_cons,List.length_nil,List.length_set,List.length_replicate])));rotate_right 1;(focus (repeat' (first|simp only [z1,z2,z3,Nat.reduceEqDiff,Nat.reduceLT,not_false_eq_true]|exact z29|refine z30 ?_ ?_|exact z32|refine z33 ?_ ?_|refine z31 ?_|exact z34|refine z35 rfl ?_ ?_|refine z36 ?_|exact z13|exact z14|exact z15|exact z16|refine z17 ?_|refine z18 rfl ?_|refine z20 rfl ?_ ?_|(show lτ _ _ = some _;exact rfl)|exact z21 rfl rfl|refine z21 rfl ?_|refine z22 ?_|refine z24 ?_|exact z25|refine z26 ?_ rfl rfl ?_|refine z23 ?_|refine z27 ?_ rfl rfl ?_ ?_|refine z28 ?_ rfl rfl ?_ ?_ ?_|exact True.intro|exact z4 rfl|exact z5|exact z6|exact z7|exact z8|exact z9|exact z10|refine z37 ?_|refine z38 rfl ?_|exact z39|exact z40|refine z41 (xs := ?_) (ys := ?_) ?_ ?_|refine z42 (xs := ?_) (ys := ?_) ?_ ?_ ?_ ?_|refine z43 (xs := ?_) ?_|refine z44 (xs := ?_) ?_|refine z45 (x := ?_) (xs := ?_) ?_ ?_|refine RowsAre.rep (x := ?_) (n := ?_) ?_|(with_reducible show RowIs _ _ _;first|exact Int_row _|exact Str_row _)|(with_reducible show RowIs _ _ _;first|exact GTxn_row _|exact GTxn_mk _ _ _|exact GTxnGuard_row _|exact GTxnGuard_mk _ _ _|exact GTxnSum_row _|exact GTxnSum_mk _ _ _|exact GTxnPair_row _|exact GTxnPair_mk _ _)|with_reducible exact rfl|(refine z11 ?_;omega)|(refine z12 ?_;omega)|simp only [List.length_append,List.length_map,List.length_cons,List.length_nil,List.length_set,List.length_replicate])));(all_goals (try (with_reducible refine LenEq.mk ?_);try with_reducible exact rfl));(all_goals (try (with_reducible refine BoolIs.mk ?_);exact rfl)))))
    | (refine h1 _ _ ?_;clear h1 K1)
    | (with_reducible refine GTxnGuard_ex _ _ _ ?_)
    | (with_reducible refine GTxnSum_ex _ _ _ ?_)
    | (with_reducible refine GInt_ex _ ?_)
    | (with_reducible refine GTxnPair_ex _ _ ?_)
    | refine And.intro ?_ ?_
    | ((first|with_reducible show (_ : Int) ≤ _|with_reducible show (_ : Int) < _|with_reducible show (_ : Int) = _|with_reducible show (_ : Nat) ≤ _|with_reducible show (_ : Nat) < _|with_reducible show (_ : Nat) = _|with_reducible show ¬ _|with_reducible show _ ≠ _|with_reducible show False);omega)
    | (intro h;(try simp only [decide_eq_true_eq,decide_eq_false_iff_not,Int.not_lt,Int.not_le,beq_iff_eq,bne_iff_ne,beq_eq_false_iff_ne,bne_eq_false_iff_eq,ne_eq,Bool.not_eq_true',Bool.not_eq_false',Decidable.not_not] at h);(try contradiction)))
  all_goals (try clear h1); all_goals (try clear K1); all_goals (try clear hK); all_goals (try clear K); all_goals (try dsimp only); all_goals (try simp only [Bool.not_eq_false', Bool.not_eq_true', decide_eq_true_eq, decide_eq_false_iff_not] at *); all_goals (try simp only [GTxn_eta, GTxnGuard_eta, GTxnSum_eta, GTxnPair_eta] at *); all_goals (try clear sp_l1Key_c); all_goals (try clear sp_l1Val_c)
  all_goals first
    | omega
    | (simp only [List.length_cons,List.length_nil,Nat.reduceAdd];done)
    | (simp only [List.length_set,List.length_append,List.length_cons,List.length_nil,List.length_map,List.length_take,List.length_drop];omega)
    | (obtain ⟨x,_,rfl⟩ := List.mem_map.1 (by assumption);rfl)
    | (obtain ⟨x,_,rfl⟩ := List.mem_map.1 (List.mem_of_mem_take (by assumption));rfl)
    | (obtain ⟨x,_,rfl⟩ := List.mem_map.1 (List.mem_of_mem_drop (List.mem_of_mem_take (by assumption)));rfl)
    | (simp (disch := omega) only [wr_id];omega)
    | (guard_hyp t0;first|(rw [sp_l1Key];all_goals first|grind|(repeat' split) <;> first|rfl|grind))
    | (guard_hyp t1;first|(rw [sp_l1Val];all_goals first|grind|(repeat' split) <;> first|rfl|grind))
    | (guard_hyp t2;first|(rw [sp_TxnOk_K1,sp_TxnOk_L1] at hM;rw [sp_TxnOk_K1];all_goals grind)|(rw [sp_TxnOk_K1,sp_TxnOk_L1] at hM;grind)|(rw [sp_TxnOk_K2,sp_TxnOk_L2] at hM;rw [sp_TxnOk_K2];all_goals grind)|(rw [sp_TxnOk_K2,sp_TxnOk_L2] at hM;grind)|(rw [sp_TxnOk_K3,sp_TxnOk_L3] at hM;rw [sp_TxnOk_K3];all_goals grind)|(rw [sp_TxnOk_K3,sp_TxnOk_L3] at hM;grind)|(rw [sp_TxnOk];all_goals first|grind|(repeat' split) <;> first|rfl|grind))
    | (guard_hyp t3;first|(rw [sp_l1Add_K1,sp_l1Add_L1] at hM;rw [sp_l1Add_K1];all_goals grind)|(rw [sp_l1Add_K1,sp_l1Add_L1] at hM;grind)|(rw [sp_l1Add];all_goals first|grind|(repeat' split) <;> first|rfl|grind))
    | (guard_hyp t4;first|(rw [sp_l1Get_K1,sp_l1Get_L1] at hM;rw [sp_l1Get_K1];all_goals grind)|(rw [sp_l1Get_K1,sp_l1Get_L1] at hM;grind)|(rw [sp_l1Get];all_goals first|grind|(repeat' split) <;> first|rfl|grind))
    | (guard_hyp t5;first|(rw [sp_l1PairsOk_K1,sp_l1PairsOk_L1] at hM;rw [sp_l1PairsOk_K1];all_goals grind)|(rw [sp_l1PairsOk_K1,sp_l1PairsOk_L1] at hM;grind)|(rw [sp_l1PairsOk];all_goals first|grind|(repeat' split) <;> first|rfl|grind))
    | (guard_hyp t6;first|(rw [lw_lcInts_K1,lw_lcInts_L1] at hM;rw [lw_lcInts_K1];all_goals grind)|(rw [lw_lcInts_K1,lw_lcInts_L1] at hM;grind)|(rw [lw_lcInts];all_goals first|grind|(repeat' split) <;> first|rfl|grind))
    | (guard_hyp t7;first|(rw [lw_lcPairs_K1,lw_lcPairs_L1] at hM;rw [lw_lcPairs_K1];all_goals grind)|(rw [lw_lcPairs_K1,lw_lcPairs_L1] at hM;grind)|(rw [lw_lcPairs];all_goals first|grind|(repeat' split) <;> first|rfl|grind))
    | grind)
theorem sp_l1Key_c : Ssp_l1Key_c := layT31.1
theorem sp_l1Val_c : Ssp_l1Val_c := layT31.2.1
theorem sp_TxnOk_c : Ssp_TxnOk_c := layT31.2.2.1 sp_l1Key_c sp_l1Val_c
theorem sp_l1Add_c : Ssp_l1Add_c := layT31.2.2.2.1
theorem sp_l1Get_c : Ssp_l1Get_c := layT31.2.2.2.2.1
theorem sp_l1PairsOk_c : Ssp_l1PairsOk_c := layT31.2.2.2.2.2.1 sp_l1Key_c sp_l1Val_c
theorem lw_lcInts_c : Slw_lcInts_c := layT31.2.2.2.2.2.2.1
theorem lw_lcPairs_c : Slw_lcPairs_c := layT31.2.2.2.2.2.2.2
def slices_Clone_int (s : List Int) : (List Int) :=
  s
set_option maxRecDepth 10000 in
set_option maxHeartbeats 2000000 in
theorem slices_Clone_int_c (s : List Int) (hp0 : s.length ≤ 2147483648) : Does Try.prog 18 0 [.r (.rd 1 encInt s)] [] (fun vv H2 => vv = .sl 0 1 0 (slices_Clone_int s).length ∧ H2 = [some (.rows 1 aencInt (slices_Clone_int s))]) := by
  rcases s with _ | ⟨a0, l0⟩ <;> (
  refine Does.goR Try.func18 Try.ntmps18 Try.results18 rfl (Nat.zero_le _) rfl ?_
  simp only [argR, Nat.reduceAdd]
  repeat' (first
    | (refine Tri.regSeq fun K hK => RegS.run ?_)
    | (refine Tri.reg fun K hK => RegS.run ?_)
    | (refine RegS.nil (hK _ _ ?_);clear hK K)
    | (refine QuietS.nil (hK _ _ ?_);clear hK K)
    | ((first|refine RegS.stepN fun K1 h1 => ?_|refine QuietS.stepN fun K1 h1 => ?_|refine RegS.step fun K1 h1 => ?_|refine QuietS.step fun K1 h1 => ?_);simp only [go_sem,reduceCtorEq,Nat.reduceAdd,Nat.reduceSub,Nat.reduceMul,Nat.reduceLeDiff,Nat.reduceLT,Nat.reduceEqDiff])
    | (with_reducible refine GInt_ex _ ?_)
    | (refine h1 _ _ ?_;clear h1 K1)
    | refine And.intro ?_ ?_
    | omega
    | (refine Tri.cond (b := ?_) ?_ ?_ ?_;rotate_left 1;focus (simp only [ev,z1,z2,Nat.reduceEqDiff,Nat.reduceLT,not_false_eq_true];exact rfl))
    | (intro h;(try simp only [decide_eq_true_eq,decide_eq_false_iff_not,Int.not_lt,Int.not_le,beq_iff_eq,bne_iff_ne,beq_eq_false_iff_ne,bne_eq_false_iff_eq,ne_eq,Bool.not_eq_true',Bool.not_eq_false',Decidable.not_not] at h);(try contradiction);(try (exfalso;simp_all;done)))
    | (refine Tri.skip ?_;try change Tri _ _ _ _ _ _)
    | (refine Tri.exit ?_;try change Tri _ _ _ _ _ _)
    | refine Tri.ret ?_
    | refine Tri.block ?_
    | refine Tri.seq ?_
    | (refine EndK.eqq (p := 0) (vs := ?_) (f := fun x : (List Int) => .sl 0 1 0 x.length) (g := fun x : (List Int) => [some (.rows 1 aencInt x)]) ?_ [?_] (by first|exact .inr rfl|exact .inl rfl) ?_ ?_ ?_ (by simp) ?_ ?_ ?_
       rotate_left 3; (focus (simp only [go_sem, reduceCtorEq, Nat.reduceAdd, Nat.reduceSub, Nat.reduceMul, Nat.reduceLeDiff, Nat.reduceLT, Nat.reduceEqDiff]; exact rfl)); rotate_left 3; (focus (repeat' (first | simp only [z1, z2, z3, Nat.reduceEqDiff, Nat.reduceLT, not_false_eq_true] | exact z29 | refine z30 ?_ ?_ | exact z32 | refine z33 ?_ ?_ | refine z31 ?_ | exact z34 | refine z35 rfl ?_ ?_ | refine z36 ?_ | exact z13 | exact z14 | exact z15 | exact z16 | refine z17 ?_ | refine z18 rfl ?_ | refine z20 rfl ?_ ?_ | (show lτ _ _ = some _; exact rfl) | exact z21 rfl rfl | refine z21 rfl ?_ | refine z22 ?_ | refine z24 ?_ | exact z25 | refine z26 ?_ rfl rfl ?_ | refine z23 ?_ | refine z27 ?_ rfl rfl ?_ ?_ | refine z28 ?_ rfl rfl ?_ ?_ ?_ | exact True.intro | exact z4 rfl | exact z5 | exact z6 | exact z7 | exact z8 | exact z9 | exact z10 | refine z37 ?_ | refine z38 rfl ?_ | exact z39 | exact z40 | refine z41 (xs := ?_) (ys := ?_) ?_ ?_ | refine z42 (xs := ?_) (ys := ?_) ?_ ?_ ?_ ?_ | refine z43 (xs := ?_) ?_ | refine z44 (xs := ?_) ?_ | refine z45 (x := ?_) (xs := ?_) ?_ ?_ | refine RowsAre.rep (x := ?_) (n := ?_) ?_ | (with_reducible show RowIs _ _ _; first | exact Int_row _ | exact Str_row _) | with_reducible exact rfl | (refine z11 ?_; omega) | (refine z12 ?_; omega) | simp only [List.length_append, List.length_map, List.length_cons, List.length_nil, List.length_set, List.length_replicate]))); rotate_right 1; (focus (repeat' (first | simp only [z1, z2, z3, Nat.reduceEqDiff, Nat.reduceLT, not_false_eq_true] | exact z29 | refine z30 ?_ ?_ | exact z32 | refine z33 ?_ ?_ | refine z31 ?_ | exact z34 | refine z35 rfl ?_ ?_ | refine z36 ?_ | exact z13 | exact z14 | exact z15 | exact z16 | refine z17 ?_ | refine z18 rfl ?_ | refine z20 rfl ?_ ?_ | (show lτ _ _ = some _; exact rfl) | exact z21 rfl rfl | refine z21 rfl ?_ | refine z22 ?_ | refine z24 ?_ | exact z25 | refine z26 ?_ rfl rfl ?_ | refine z23 ?_ | refine z27 ?_ rfl rfl ?_ ?_ | refine z28 ?_ rfl rfl ?_ ?_ ?_ | exact True.intro | exact z4 rfl | exact z5 | exact z6 | exact z7 | exact z8 | exact z9 | exact z10 | refine z37 ?_ | refine z38 rfl ?_ | exact z39 | exact z40 | refine z41 (xs := ?_) (ys := ?_) ?_ ?_ | refine z42 (xs := ?_) (ys := ?_) ?_ ?_ ?_ ?_ | refine z43 (xs := ?_) ?_ | refine z44 (xs := ?_) ?_ | refine z45 (x := ?_) (xs := ?_) ?_ ?_ | refine RowsAre.rep (x := ?_) (n := ?_) ?_ | (with_reducible show RowIs _ _ _; first | exact Int_row _ | exact Str_row _) | with_reducible exact rfl | (refine z11 ?_; omega) | (refine z12 ?_; omega) | simp only [List.length_append, List.length_map, List.length_cons, List.length_nil, List.length_set, List.length_replicate]))); (all_goals (try (with_reducible refine LenEq.mk ?_); try with_reducible exact rfl)); (all_goals (try (with_reducible refine BoolIs.mk ?_); exact rfl))))
  all_goals (try clear h1); all_goals (try clear K1); all_goals (try clear hK); all_goals (try clear K); all_goals (try dsimp only); all_goals (try simp only [Bool.not_eq_false', Bool.not_eq_true', decide_eq_true_eq, decide_eq_false_iff_not] at *); all_goals (try simp only [] at *)
  all_goals first
    | omega
    | (simp only [List.length_cons,List.length_nil,Nat.reduceAdd];done)
    | (simp only [List.length_set,List.length_append,List.length_cons,List.length_nil,List.length_map,List.length_take,List.length_drop];omega)
    | (obtain ⟨x,_,rfl⟩ := List.mem_map.1 (by assumption);rfl)
    | (obtain ⟨x,_,rfl⟩ := List.mem_map.1 (List.mem_of_mem_take (by assumption));rfl)
    | (obtain ⟨x,_,rfl⟩ := List.mem_map.1 (List.mem_of_mem_drop (List.mem_of_mem_take (by assumption)));rfl)
    | (simp (disch := omega) only [wr_id];omega)
    | (rw [slices_Clone_int];all_goals first|grind|(repeat' split) <;> first|rfl|grind)
    | grind)
end Go.Proofs.Ytghkelfpomfadaa
end
section
/-! Plain facts on the keys of transactions. -/
namespace Go.Proofs.Ytghkelfpomfadaa
theorem l1Add_L1_len (list : List Int) (k : Int) (out : List Int) (d : Bool) (i : Nat) (hi : i ≤ list.length) :
    (sp_l1Add_L1 list k out d i).1.length + (if d = true then 0 else 0) + (if (sp_l1Add_L1 list k out d i).2 = true then 0 else 1) ≤ out.length + (list.length - i) + (if d = true then 0 else 1) := by
  fun_induction sp_l1Add_L1 list k out d i <;> simp_all <;> grind
theorem l1Add_len (list : List Int) (k : Int) : (sp_l1Add list k).length ≤ list.length + 1 := by
  have h := l1Add_L1_len list k [] false 0 (Nat.zero_le _)
  simp only [sp_l1Add, sp_l1Add_K1]
  grind
end Go.Proofs.Ytghkelfpomfadaa
end
