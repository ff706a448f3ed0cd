/- Contracts of functions of the program on plans, for lists whose lengths are bounded as stated. -/
import Derived.Test.YtlojldccjmkikaaGreatI4
import Derived.Test.YtlojldccjmkikaaGreatH6
import Derived.Test.YtlojldccjmkikaaGreatSx
set_option linter.unusedVariables false
set_option linter.unusedSimpArgs false
namespace Go.Proofs.YtlojldccjmkikaaGreat
open Go.Ae
open Go.Ae renaming getR_eq → z1, getR_ne → z2, getR_nil → z3, lF_mk → z4, cont1 → z5, cont2a → z6, cont2b → z7, cont3a → z8, cont3b → z9, cont3c → z10, wr_up → z11, wr_dn → z12
open Go.Ae.VSub renaming any' → z13, same → z14, nilRd → z15, mtRd → z16, lit → z17, ptr' → z18, sl' → z19, slNil → z20, agg' → z21, tup' → z22, fn' → z23, rpSame → z24, rpF → z25, frz → z26, frzC → z27
open Go.Ae.LSub renaming nil' → z28, cons' → z29, mkR' → z30
open Go.Ae.SSub renaming nil' → z31, cons' → z32
open Go.Ae.HTell renaming nil' → z33, some' → z34, freshRows → z35
open Go.Ae.BSub renaming cells' → z36, own → z37
open Go.Ae.RowsAre renaming map → z38, nil → z39, app → z40, spl → z41, take → z42, drop → z43, cons → z44
open Go.Ae.CallA renaming gv0 → z45, lend → z46
set_option linter.unusedSimpArgs false
set_option linter.unusedVariables false
attribute [local irreducible] wr bitsOf VSub LSub SSub HTell BSub RowIs RowsAre Ent lF mkR
def im_isSession (n : Int) : Bool :=
  (im_in n 0 3)
def im_isCall (n : Int) : Bool :=
  (im_in n 1 9999)
def im_Cmd_empty (c : GCmd) : Bool :=
  ((c.Kind == 0) || (c.Kind == 8))
def im_Cmd_inForm (c : GCmd) : Bool :=
  let called := ((im_isSession c.Session) && (im_isCall c.Call))
  if ((im_Cmd_empty c) = true) then
    ((c.Kind == (⟨c.Kind, 0, 0, 0, 0, ⟨#[]⟩⟩ : GCmd).Kind) && ((c.Session == (⟨c.Kind, 0, 0, 0, 0, ⟨#[]⟩⟩ : GCmd).Session) && ((c.Call == (⟨c.Kind, 0, 0, 0, 0, ⟨#[]⟩⟩ : GCmd).Call) && ((c.At == (⟨c.Kind, 0, 0, 0, 0, ⟨#[]⟩⟩ : GCmd).At) && ((c.To == (⟨c.Kind, 0, 0, 0, 0, ⟨#[]⟩⟩ : GCmd).To) && ((c.Text.toList == (⟨c.Kind, 0, 0, 0, 0, ⟨#[]⟩⟩ : GCmd).Text.toList) && true))))))
  else if (c.Kind = 1) then
    (((called && (c.At == 0)) && (c.To == 0)) && (decide ((c.Text.size : Int) ≤ 160)))
  else if ((im_in c.Kind 2 7) = true) then
    (((called && (c.Text.toList == (⟨#[]⟩ : ByteArray).toList)) && (im_in c.At 0 40)) && (im_in c.To 0 31))
  else 
    false
def im_PlanOk_1 (x : GPlanSeen) : Bool :=
  (((!(im_isSession x.Session)) || (!(im_isCall x.Call))) || (!(im_in x.Code (-1) 10)))
def im_PlanOk_2 (x : GPlanSeen) : Int :=
  x.Session
def im_rising_PlanSeen_f_im_PlanOk_2_L1 (list : List GPlanSeen) (i : Nat) : Fl (Bool) (Unit) :=
  if h0 : ((i : Int) < (list.length : Int)) then
      if ((im_PlanOk_2 (list.getD i default)) ≤ (im_PlanOk_2 (list.getD (wr .i64 ((i : Int) - 1)).toNat default))) then
        .ret false
      else 
        im_rising_PlanSeen_f_im_PlanOk_2_L1 list (i + 1)
  else .go ()
termination_by ((list.length : Int) - (i : Int)).toNat
decreasing_by all_goals omega
def im_rising_PlanSeen_f_im_PlanOk_2_K1 (list : List GPlanSeen) (i : Nat) : Bool :=
  match im_rising_PlanSeen_f_im_PlanOk_2_L1 list i with
  | .ret rr => rr
  | .go q =>
    true
def im_rising_PlanSeen_f_im_PlanOk_2 (list : List GPlanSeen) : Bool :=
  let i : Nat := 1
  im_rising_PlanSeen_f_im_PlanOk_2_K1 list i
def slices_IndexFunc_PlanSeen_f_im_PlanOk_1_L1 (s : List GPlanSeen) (ix1 : Nat) : Fl (Int) (Unit) :=
  if h0 : ((ix1 : Int) < (s.length : Int)) then
      let i := (ix1 : Int)
      if ((im_PlanOk_1 (s.getD i.toNat default)) = true) then
        .ret i
      else 
        slices_IndexFunc_PlanSeen_f_im_PlanOk_1_L1 s (ix1 + 1)
  else .go ()
termination_by ((s.length : Int) - (ix1 : Int)).toNat
decreasing_by all_goals omega
def slices_IndexFunc_PlanSeen_f_im_PlanOk_1_K1 (s : List GPlanSeen) (ix1 : Nat) : Int :=
  match slices_IndexFunc_PlanSeen_f_im_PlanOk_1_L1 s ix1 with
  | .ret rr => rr
  | .go q =>
    (-1)
def slices_IndexFunc_PlanSeen_f_im_PlanOk_1 (s : List GPlanSeen) : Int :=
  let ix1 : Nat := 0
  slices_IndexFunc_PlanSeen_f_im_PlanOk_1_K1 s ix1
def slices_ContainsFunc_PlanSeen_f_im_PlanOk_1 (s : List GPlanSeen) : Bool :=
  (decide ((slices_IndexFunc_PlanSeen_f_im_PlanOk_1 s) ≥ 0))
def im_PlanOk (p : GPlan) : Bool :=
  let seen := (((decide ((p.Seen.length : Int) ≤ 4)) && (im_rising_PlanSeen_f_im_PlanOk_2 p.Seen)) && (!(slices_ContainsFunc_PlanSeen_f_im_PlanOk_1 p.Seen)))
  (((((im_in p.At 0 60) && (im_TableOk p.Table)) && seen) && (im_in p.Old 1 31)) && (im_in p.New 0 31))
def im_Plan_seen_L1 (p : GPlan) (session : Int) (ix1 : Nat) : Fl (GPlanSeen × Bool) (Unit) :=
  if h0 : ((ix1 : Int) < (p.Seen.length : Int)) then
      let x := (p.Seen.getD ix1 default)
      if (x.Session = session) then
        .ret (x, true)
      else 
        im_Plan_seen_L1 p session (ix1 + 1)
  else .go ()
termination_by ((p.Seen.length : Int) - (ix1 : Int)).toNat
decreasing_by all_goals omega
def im_Plan_seen_K1 (p : GPlan) (session : Int) (ix1 : Nat) : GPlanSeen × Bool :=
  match im_Plan_seen_L1 p session ix1 with
  | .ret rr => rr
  | .go q =>
    ((⟨0, 0, 0⟩ : GPlanSeen), false)
def im_Plan_seen (p : GPlan) (session : Int) : GPlanSeen × Bool :=
  let ix1 : Nat := 0
  im_Plan_seen_K1 p session ix1
def im_Plan_past (p : GPlan) (session : Int) (call : Int) : Bool :=
  let q := (im_Plan_seen p session)
  let x := q.1
  let is_ := q.2
  (is_ && (decide (x.Call ≥ call)))
def im_Plan_group (p : GPlan) (to_ : Int) : Int × GPlan :=
  if (p.New ≠ 0) then
    (9, p)
  else if (to_ = 0) then
    (6, p)
  else if (to_ = p.Old) then
    (7, p)
  else 
    let p := { p with New := to_ }
    (0, p)
def im_Plan_nothing (p : GPlan) (c : GCmd) : Bool :=
  (((im_Cmd_empty c) || (!(im_Cmd_inForm c))) || (im_Plan_past p c.Session c.Call))
def im_Plan_do_1 (y : GPlanSeen) (session : Int) : Int :=
  (wr .i64 (y.Session - session))
def slices_BinarySearchFunc_PlanSeen_f_im_Plan_do_1_L1 (x : List GPlanSeen) (target : Int) (i : Int) (j : Int) : Int × Int :=
  if hg : 0 ≤ i ∧ j ≤ 2147483648 then
    if h0 : (i < j) then
        let h := (wr .i64 ((wr .u64 (wr .i64 (i + j))).fdiv (2 ^ (min (1 : Int).toNat 64))))
        if ((im_Plan_do_1 (x.getD h.toNat default) target) < 0) then
          let i := (wr .i64 (h + 1))
          slices_BinarySearchFunc_PlanSeen_f_im_Plan_do_1_L1 x target i j
        else 
          let j := h
          slices_BinarySearchFunc_PlanSeen_f_im_Plan_do_1_L1 x target i j
    else (i, j)
  else (i, j)
termination_by (j - i).toNat
decreasing_by all_goals (simp (disch := omega) only [wr_id, wr_u64, half_eq] at *; omega)
def slices_BinarySearchFunc_PlanSeen_f_im_Plan_do_1_K1 (x : List GPlanSeen) (target : Int) (n : Int) (i : Int) (j : Int) : Int × Bool :=
  let q := slices_BinarySearchFunc_PlanSeen_f_im_Plan_do_1_L1 x target i j
  let i := q.1
  let j := q.2
  (i, ((decide (i < n)) && ((im_Plan_do_1 (x.getD i.toNat default) target) == 0)))
def slices_BinarySearchFunc_PlanSeen_f_im_Plan_do_1 (x : List GPlanSeen) (target : Int) : Int × Bool :=
  let n := (x.length : Int)
  let q0 := 0
  let q1 := n
  let i := q0
  let j := q1
  slices_BinarySearchFunc_PlanSeen_f_im_Plan_do_1_K1 x target n i j
def Sim_isSession_c : Prop := ∀ (n : Int), Gives Tryz.prog 90 [.lit (.int .i64 n)] (.lit (.bool (im_isSession n)))
def Sim_isCall_c : Prop := ∀ (n : Int), Gives Tryz.prog 91 [.lit (.int .i64 n)] (.lit (.bool (im_isCall n)))
def Sim_Cmd_empty_c : Prop := ∀ (c : GCmd), Gives Tryz.prog 112 [.agg [.lit (.int .i64 c.Kind), .lit (.int .i64 c.Session), .lit (.int .i64 c.Call), .lit (.int .i64 c.At), .lit (.int .i64 c.To), .lit (.string c.Text)]] (.lit (.bool (im_Cmd_empty c)))
def Sim_Cmd_inForm_c : Prop := ∀ (c : GCmd), Gives Tryz.prog 69 [.agg [.lit (.int .i64 c.Kind), .lit (.int .i64 c.Session), .lit (.int .i64 c.Call), .lit (.int .i64 c.At), .lit (.int .i64 c.To), .lit (.string c.Text)]] (.lit (.bool (im_Cmd_inForm c)))
def Sim_PlanOk_1_c : Prop := ∀ (x : GPlanSeen), Gives Tryz.prog 89 [.agg [.lit (.int .i64 x.Session), .lit (.int .i64 x.Call), .lit (.int .i64 x.Code)]] (.lit (.bool (im_PlanOk_1 x)))
def Sim_PlanOk_2_c : Prop := ∀ (x : GPlanSeen), Gives Tryz.prog 93 [.agg [.lit (.int .i64 x.Session), .lit (.int .i64 x.Call), .lit (.int .i64 x.Code)]] (.lit (.int .i64 (im_PlanOk_2 x)))
def Sim_rising_PlanSeen_f_im_PlanOk_2_c : Prop := ∀ (list : List GPlanSeen) (hp0 : list.length ≤ 2147483648), Gives Tryz.prog 92 [.r (.rd 3 encGPlanSeen list), .fn 93 []] (.lit (.bool (im_rising_PlanSeen_f_im_PlanOk_2 list)))
def Sslices_IndexFunc_PlanSeen_f_im_PlanOk_1_c : Prop := ∀ (s : List GPlanSeen) (hp0 : s.length ≤ 2147483648), Gives Tryz.prog 121 [.r (.rd 3 encGPlanSeen s), .fn 89 []] (.lit (.int .i64 (slices_IndexFunc_PlanSeen_f_im_PlanOk_1 s)))
def Sslices_ContainsFunc_PlanSeen_f_im_PlanOk_1_c : Prop := ∀ (s : List GPlanSeen) (hp0 : s.length ≤ 2147483648), Gives Tryz.prog 94 [.r (.rd 3 encGPlanSeen s), .fn 89 []] (.lit (.bool (slices_ContainsFunc_PlanSeen_f_im_PlanOk_1 s)))
def Sim_PlanOk_c : Prop := ∀ (p : GPlan) (hp0 : p.Table.Ranges.length ≤ 2147483648) (hp1 : p.Seen.length ≤ 2147483648), Gives Tryz.prog 49 [.agg [.lit (.int .i64 p.At), .lit (.int .i64 p.Table.Epoch), .lit (.int .i64 p.Table.Members), .r (.rd 3 encGTableRange p.Table.Ranges), .r (.rd 3 encGPlanSeen p.Seen), .lit (.int .i64 p.Old), .lit (.int .i64 p.New)]] (.lit (.bool (im_PlanOk p)))
def Sim_Plan_seen_c : Prop := ∀ (p : GPlan) (session : Int) (hp0 : p.Table.Ranges.length ≤ 2147483648) (hp1 : p.Seen.length ≤ 2147483648), Gives Tryz.prog 143 [.agg [.lit (.int .i64 p.At), .lit (.int .i64 p.Table.Epoch), .lit (.int .i64 p.Table.Members), .r (.rd 3 encGTableRange p.Table.Ranges), .r (.rd 3 encGPlanSeen p.Seen), .lit (.int .i64 p.Old), .lit (.int .i64 p.New)], .lit (.int .i64 session)] (.tup [.agg [.lit (.int .i64 (im_Plan_seen p session).1.Session), .lit (.int .i64 (im_Plan_seen p session).1.Call), .lit (.int .i64 (im_Plan_seen p session).1.Code)], .lit (.bool (im_Plan_seen p session).2)])
def Sim_Plan_past_c : Prop := ∀ (p : GPlan) (session : Int) (call : Int) (hp0 : p.Table.Ranges.length ≤ 2147483648) (hp1 : p.Seen.length ≤ 2147483648), Gives Tryz.prog 125 [.agg [.lit (.int .i64 p.At), .lit (.int .i64 p.Table.Epoch), .lit (.int .i64 p.Table.Members), .r (.rd 3 encGTableRange p.Table.Ranges), .r (.rd 3 encGPlanSeen p.Seen), .lit (.int .i64 p.Old), .lit (.int .i64 p.New)], .lit (.int .i64 session), .lit (.int .i64 call)] (.lit (.bool (im_Plan_past p session call)))
def Sim_Plan_group_c : Prop := ∀ (p : GPlan) (to_ : Int) (hp0 : p.Table.Ranges.length ≤ 2147483648) (hp1 : p.Seen.length ≤ 2147483648), Does Tryz.prog 131 1 [.ptr 0 7 0 0, .lit (.int .i64 to_)] [some (.cells [.lit (.int .i64 p.At), .lit (.int .i64 p.Table.Epoch), .lit (.int .i64 p.Table.Members), .sl 1 3 0 p.Table.Ranges.length, .sl 2 3 0 p.Seen.length, .lit (.int .i64 p.Old), .lit (.int .i64 p.New)]), some (.rows 3 (fun q => (encGTableRange q).map AV.r) p.Table.Ranges), some (.rows 3 (fun q => (encGPlanSeen q).map AV.r) p.Seen)] (fun vv H2 => vv = .lit (.int .i64 (im_Plan_group p to_).1) ∧ H2 = [some (.cells [.lit (.int .i64 (im_Plan_group p to_).2.At), .lit (.int .i64 (im_Plan_group p to_).2.Table.Epoch), .lit (.int .i64 (im_Plan_group p to_).2.Table.Members), .sl 1 3 0 (im_Plan_group p to_).2.Table.Ranges.length, .sl 2 3 0 (im_Plan_group p to_).2.Seen.length, .lit (.int .i64 (im_Plan_group p to_).2.Old), .lit (.int .i64 (im_Plan_group p to_).2.New)]), some (.rows 3 (fun q => (encGTableRange q).map AV.r) (im_Plan_group p to_).2.Table.Ranges), some (.rows 3 (fun q => (encGPlanSeen q).map AV.r) (im_Plan_group p to_).2.Seen)])
def Sim_Plan_nothing_c : Prop := ∀ (p : GPlan) (c : GCmd) (hp0 : p.Table.Ranges.length ≤ 2147483648) (hp1 : p.Seen.length ≤ 2147483648), Gives Tryz.prog 97 [.agg [.lit (.int .i64 p.At), .lit (.int .i64 p.Table.Epoch), .lit (.int .i64 p.Table.Members), .r (.rd 3 encGTableRange p.Table.Ranges), .r (.rd 3 encGPlanSeen p.Seen), .lit (.int .i64 p.Old), .lit (.int .i64 p.New)], .agg [.lit (.int .i64 c.Kind), .lit (.int .i64 c.Session), .lit (.int .i64 c.Call), .lit (.int .i64 c.At), .lit (.int .i64 c.To), .lit (.string c.Text)]] (.lit (.bool (im_Plan_nothing p c)))
def Sim_Plan_do_1_c : Prop := ∀ (y : GPlanSeen) (session : Int), Gives Tryz.prog 100 [.agg [.lit (.int .i64 y.Session), .lit (.int .i64 y.Call), .lit (.int .i64 y.Code)], .lit (.int .i64 session)] (.lit (.int .i64 (im_Plan_do_1 y session)))
def Sslices_BinarySearchFunc_PlanSeen_f_im_Plan_do_1_c : Prop := ∀ (x : List GPlanSeen) (target : Int) (hp0 : x.length ≤ 2147483648), Gives Tryz.prog 99 [.r (.rd 3 encGPlanSeen x), .lit (.int .i64 target), .fn 100 []] (.tup [.lit (.int .i64 (slices_BinarySearchFunc_PlanSeen_f_im_Plan_do_1 x target).1), .lit (.bool (slices_BinarySearchFunc_PlanSeen_f_im_Plan_do_1 x target).2)])
set_option maxRecDepth 10000 in
set_option maxHeartbeats 32000000 in
theorem layH21 : (Sim_isSession_c) ∧ (Sim_isCall_c) ∧ (Sim_Cmd_empty_c) ∧ (Sim_isSession_c → Sim_isCall_c → Sim_Cmd_empty_c → Sim_Cmd_inForm_c) ∧ (Sim_isSession_c → Sim_isCall_c → Sim_PlanOk_1_c) ∧ (Sim_PlanOk_2_c) ∧ (Sim_PlanOk_2_c → Sim_rising_PlanSeen_f_im_PlanOk_2_c) ∧ (Sim_PlanOk_1_c → Sslices_IndexFunc_PlanSeen_f_im_PlanOk_1_c) ∧ (Sslices_IndexFunc_PlanSeen_f_im_PlanOk_1_c → Sslices_ContainsFunc_PlanSeen_f_im_PlanOk_1_c) ∧ (Sim_rising_PlanSeen_f_im_PlanOk_2_c → Sslices_ContainsFunc_PlanSeen_f_im_PlanOk_1_c → Sim_PlanOk_c) ∧ (Sim_Plan_seen_c) ∧ (Sim_Plan_seen_c → Sim_Plan_past_c) ∧ (Sim_Plan_group_c) ∧ (Sim_Cmd_empty_c → Sim_Cmd_inForm_c → Sim_Plan_past_c → Sim_Plan_nothing_c) ∧ (Sim_Plan_do_1_c) ∧ (Sim_Plan_do_1_c → Sslices_BinarySearchFunc_PlanSeen_f_im_Plan_do_1_c) := by
  refine ⟨fun n => have t0 := tg 0; Does.goR Tryz.func90 Tryz.ntmps90 Tryz.results90 rfl (Nat.zero_le _) rfl ?_,
    fun n => have t1 := tg 1; Does.goR Tryz.func91 Tryz.ntmps91 Tryz.results91 rfl (Nat.zero_le _) rfl ?_,
    fun c => have t2 := tg 2; Does.goR Tryz.func112 Tryz.ntmps112 Tryz.results112 rfl (Nat.zero_le _) rfl ?_,
    fun im_isSession_c im_isCall_c im_Cmd_empty_c c => have t3 := tg 3; Does.goR Tryz.func69 Tryz.ntmps69 Tryz.results69 rfl (Nat.zero_le _) rfl ?_,
    fun im_isSession_c im_isCall_c x => have t4 := tg 4; Does.goR Tryz.func89 Tryz.ntmps89 Tryz.results89 rfl (Nat.zero_le _) rfl ?_,
    fun x => have t5 := tg 5; Does.goR Tryz.func93 Tryz.ntmps93 Tryz.results93 rfl (Nat.zero_le _) rfl ?_,
    fun im_PlanOk_2_c list hp0 => have t6 := tg 6; Does.goR Tryz.func92 Tryz.ntmps92 Tryz.results92 rfl (Nat.zero_le _) rfl ?_,
    fun im_PlanOk_1_c s hp0 => have t7 := tg 7; Does.goR Tryz.func121 Tryz.ntmps121 Tryz.results121 rfl (Nat.zero_le _) rfl ?_,
    fun slices_IndexFunc_PlanSeen_f_im_PlanOk_1_c s hp0 => have t8 := tg 8; Does.goR Tryz.func94 Tryz.ntmps94 Tryz.results94 rfl (Nat.zero_le _) rfl ?_,
    fun im_rising_PlanSeen_f_im_PlanOk_2_c slices_ContainsFunc_PlanSeen_f_im_PlanOk_1_c p hp0 hp1 => have t9 := tg 9; Does.goR Tryz.func49 Tryz.ntmps49 Tryz.results49 rfl (Nat.zero_le _) rfl ?_,
    fun p session hp0 hp1 => have t10 := tg 10; Does.goR Tryz.func143 Tryz.ntmps143 Tryz.results143 rfl (Nat.zero_le _) rfl ?_,
    fun im_Plan_seen_c p session call hp0 hp1 => have t11 := tg 11; Does.goR Tryz.func125 Tryz.ntmps125 Tryz.results125 rfl (Nat.zero_le _) rfl ?_,
    fun p to_ hp0 hp1 => have t12 := tg 12; Does.goR Tryz.func131 Tryz.ntmps131 Tryz.results131 rfl (by simp) rfl ?_,
    fun im_Cmd_empty_c im_Cmd_inForm_c im_Plan_past_c p c hp0 hp1 => have t13 := tg 13; Does.goR Tryz.func97 Tryz.ntmps97 Tryz.results97 rfl (Nat.zero_le _) rfl ?_,
    fun y session => have t14 := tg 14; Does.goR Tryz.func100 Tryz.ntmps100 Tryz.results100 rfl (Nat.zero_le _) rfl ?_,
    fun im_Plan_do_1_c x target hp0 => have t15 := tg 15; Does.goR Tryz.func99 Tryz.ntmps99 Tryz.results99 rfl (Nat.zero_le _) rfl ?_⟩
  all_goals (
  simp only [argR, Nat.reduceAdd]
  repeat' (first
    | (refine Tri.regSeq fun K hK => RegS.run ?_)
    | (refine Tri.reg fun K hK => RegS.run ?_)
    | (guard_hyp t6;(first|(refine Tri.heavySeqN 4 rfl mixedP [0] [] [(0,0),(1,0),(2,0),(3,0),(6,0),(7,0),(8,0),(9,0),(10,0),(4,1),(11,1),(5,2),(12,2),(13,0)] (by kernel_rfl) fun K hK => ?_;simp only [ballOf,ballX,cellIds,Heap.at,List.getD_cons_zero,List.getD_cons_succ,List.nil_append,List.cons_append,idOf,z1,z2,Nat.reduceEqDiff,Nat.reduceLT,not_false_eq_true])|(refine Tri.heavyN 4 rfl mixedP [0] [] [(0,0),(1,0),(2,0),(3,0),(6,0),(7,0),(8,0),(9,0),(10,0),(4,1),(11,1),(5,2),(12,2),(13,0)] (by kernel_rfl) fun K hK => ?_;simp only [ballOf,ballX,cellIds,Heap.at,List.getD_cons_zero,List.getD_cons_succ,List.nil_append,List.cons_append,idOf,z1,z2,Nat.reduceEqDiff,Nat.reduceLT,not_false_eq_true]) ))
    | (refine RegS.nil (hK _ _ ?_);clear hK K)
    | (refine QuietS.nil (hK _ _ ?_);clear hK K)
    | ((first|refine RegS.step fun K1 h1 => ?_|refine QuietS.step fun K1 h1 => ?_);simp only [go_sem,reduceCtorEq,Nat.reduceAdd,Nat.reduceSub,Nat.reduceMul,Nat.reduceLeDiff,Nat.reduceLT,Nat.reduceEqDiff])
    | (refine DrawS.nil (hK _ _ ?_);clear hK K)
    | (refine DrawS.step fun K1 h1 => ?_;simp only [go_sem,reduceCtorEq,Nat.reduceAdd,Nat.reduceSub,Nat.reduceMul,Nat.reduceLeDiff,Nat.reduceLT,Nat.reduceEqDiff])
    | (with_reducible refine GPlanSeen_ex _ _ _ ?_)
    | (with_reducible refine GTableRange_ex _ _ _ ?_)
    | (refine h1 _ _ ?_;clear h1 K1)
    | refine And.intro ?_ ?_
    | ((first
      | (refine z45 (im_in_c ?_ ?_ ?_) ?_ ?_;rotate_left 3)
      | (refine z45 (im_isSession_c ?_) ?_ ?_;rotate_left 1)
      | (refine z45 (im_isCall_c ?_) ?_ ?_;rotate_left 1)
      | (refine z45 (im_Cmd_empty_c ⟨?_,?_,?_,?_,?_,?_⟩) ?_ ?_;rotate_left 6)
      | (refine z45 (im_PlanOk_2_c ⟨?_,?_,?_⟩) ?_ ?_;rotate_left 3)
      | (refine z45 (im_PlanOk_1_c ⟨?_,?_,?_⟩) ?_ ?_;rotate_left 3)
      | (refine z45 (slices_IndexFunc_PlanSeen_f_im_PlanOk_1_c ?_ ?_) ?_ ?_;rotate_left 2)
      | (refine z45 (im_TableOk_c ⟨?_,?_,?_⟩ ?_) ?_ ?_;rotate_left 4)
      | (refine z45 (im_rising_PlanSeen_f_im_PlanOk_2_c ?_ ?_) ?_ ?_;rotate_left 2)
      | (refine z45 (slices_ContainsFunc_PlanSeen_f_im_PlanOk_1_c ?_ ?_) ?_ ?_;rotate_left 2)
      | (refine z45 (im_Plan_seen_c ⟨?_,⟨?_,?_,?_⟩,?_,?_,?_⟩ ?_ ?_ ?_) ?_ ?_;rotate_left 10)
      | (refine z45 (im_Cmd_inForm_c ⟨?_,?_,?_,?_,?_,?_⟩) ?_ ?_;rotate_left 6)
      | (refine z45 (im_Plan_past_c ⟨?_,⟨?_,?_,?_⟩,?_,?_,?_⟩ ?_ ?_ ?_ ?_) ?_ ?_;rotate_left 11)
      | (refine z45 (im_Plan_do_1_c ⟨?_,?_,?_⟩ ?_) ?_ ?_;rotate_left 4)
      ); (focus ((repeat' (first | simp only [z1, z2, z3, Nat.reduceEqDiff, Nat.reduceLT, not_false_eq_true] | exact z28 | refine z29 ?_ ?_ | exact z31 | refine z32 ?_ ?_ | refine z30 ?_ | exact z33 | refine z34 rfl ?_ ?_ | refine z35 ?_ | exact z13 | exact z14 | exact z15 | exact z16 | refine z17 ?_ | refine z18 rfl ?_ | refine z19 rfl ?_ ?_ | (show lτ _ _ = some _; exact rfl) | exact z20 rfl rfl | refine z20 rfl ?_ | refine z21 ?_ | refine z23 ?_ | exact z24 | refine z25 ?_ rfl rfl ?_ | refine z22 ?_ | refine z26 ?_ rfl rfl ?_ ?_ | refine z27 ?_ rfl rfl ?_ ?_ ?_ | exact True.intro | exact z4 rfl | exact z5 | exact z6 | exact z7 | exact z8 | exact z9 | exact z10 | refine z36 ?_ | refine z37 rfl ?_ | exact z38 | exact z39 | refine z40 (xs := ?_) (ys := ?_) ?_ ?_ | refine z41 (xs := ?_) (ys := ?_) ?_ ?_ ?_ ?_ | refine z42 (xs := ?_) ?_ | refine z43 (xs := ?_) ?_ | refine z44 (x := ?_) (xs := ?_) ?_ ?_ | refine RowsAre.rep (x := ?_) (n := ?_) ?_ | (with_reducible show RowIs _ _ _; first | exact GCmd_row _ | exact GCmd_mk _ _ _ _ _ _ | exact GPlanSeen_row _ | exact GPlanSeen_mk _ _ _ | exact GTable_row _ | exact GTable_mk _ _ _ | exact GTableRange_row _ | exact GTableRange_mk _ _ _ | exact GPlan_row _ | exact GPlan_mk _ _ _ _ _ _ _) | with_reducible exact rfl | (refine z11 ?_; omega) | (refine z12 ?_; omega) | simp only [List.length_append, List.length_map, List.length_cons, List.length_nil, List.length_set, List.length_replicate])); (all_goals (fail_if_success (with_reducible show FZ _ _))); (all_goals (fail_if_success (with_reducible show List.contains _ _ = true))); (all_goals (fail_if_success (with_reducible show False))); (all_goals (fail_if_success (with_reducible show VSub _ _ _ _ _ _))))))
    | ((first
      | (refine CallL.gv0 (im_in_c ?_ ?_ ?_) ?_ ?_;rotate_left 3)
      | (refine CallL.gv0 (im_isSession_c ?_) ?_ ?_;rotate_left 1)
      | (refine CallL.gv0 (im_isCall_c ?_) ?_ ?_;rotate_left 1)
      | (refine CallL.gv0 (im_Cmd_empty_c ⟨?_,?_,?_,?_,?_,?_⟩) ?_ ?_;rotate_left 6)
      | (refine CallL.gv0 (im_PlanOk_2_c ⟨?_,?_,?_⟩) ?_ ?_;rotate_left 3)
      | (refine CallL.gv0 (im_PlanOk_1_c ⟨?_,?_,?_⟩) ?_ ?_;rotate_left 3)
      | (refine CallL.gv0 (slices_IndexFunc_PlanSeen_f_im_PlanOk_1_c ?_ ?_) ?_ ?_;rotate_left 2)
      | (refine CallL.gv0 (im_TableOk_c ⟨?_,?_,?_⟩ ?_) ?_ ?_;rotate_left 4)
      | (refine CallL.gv0 (im_rising_PlanSeen_f_im_PlanOk_2_c ?_ ?_) ?_ ?_;rotate_left 2)
      | (refine CallL.gv0 (slices_ContainsFunc_PlanSeen_f_im_PlanOk_1_c ?_ ?_) ?_ ?_;rotate_left 2)
      | (refine CallL.gv0 (im_Plan_seen_c ⟨?_,⟨?_,?_,?_⟩,?_,?_,?_⟩ ?_ ?_ ?_) ?_ ?_;rotate_left 10)
      | (refine CallL.gv0 (im_Cmd_inForm_c ⟨?_,?_,?_,?_,?_,?_⟩) ?_ ?_;rotate_left 6)
      | (refine CallL.gv0 (im_Plan_past_c ⟨?_,⟨?_,?_,?_⟩,?_,?_,?_⟩ ?_ ?_ ?_ ?_) ?_ ?_;rotate_left 11)
      | (refine CallL.gv0 (im_Plan_do_1_c ⟨?_,?_,?_⟩ ?_) ?_ ?_;rotate_left 4)
      ); (focus ((repeat' (first | simp only [z1, z2, z3, Nat.reduceEqDiff, Nat.reduceLT, not_false_eq_true] | exact z28 | refine z29 ?_ ?_ | exact z31 | refine z32 ?_ ?_ | refine z30 ?_ | exact z33 | refine z34 rfl ?_ ?_ | refine z35 ?_ | exact z13 | exact z14 | exact z15 | exact z16 | refine z17 ?_ | refine z18 rfl ?_ | refine z19 rfl ?_ ?_ | (show lτ _ _ = some _; exact rfl) | exact z20 rfl rfl | refine z20 rfl ?_ | refine z21 ?_ | refine z23 ?_ | exact z24 | refine z25 ?_ rfl rfl ?_ | refine z22 ?_ | refine z26 ?_ rfl rfl ?_ ?_ | refine z27 ?_ rfl rfl ?_ ?_ ?_ | exact True.intro | exact z4 rfl | exact z5 | exact z6 | exact z7 | exact z8 | exact z9 | exact z10 | refine z36 ?_ | refine z37 rfl ?_ | exact z38 | exact z39 | refine z40 (xs := ?_) (ys := ?_) ?_ ?_ | refine z41 (xs := ?_) (ys := ?_) ?_ ?_ ?_ ?_ | refine z42 (xs := ?_) ?_ | refine z43 (xs := ?_) ?_ | refine z44 (x := ?_) (xs := ?_) ?_ ?_ | refine RowsAre.rep (x := ?_) (n := ?_) ?_ | (with_reducible show RowIs _ _ _; first | exact GCmd_row _ | exact GCmd_mk _ _ _ _ _ _ | exact GPlanSeen_row _ | exact GPlanSeen_mk _ _ _ | exact GTable_row _ | exact GTable_mk _ _ _ | exact GTableRange_row _ | exact GTableRange_mk _ _ _ | exact GPlan_row _ | exact GPlan_mk _ _ _ _ _ _ _) | with_reducible exact rfl | (refine z11 ?_; omega) | (refine z12 ?_; omega) | simp only [List.length_append, List.length_map, List.length_cons, List.length_nil, List.length_set, List.length_replicate])); (all_goals (fail_if_success (with_reducible show FZ _ _))); (all_goals (fail_if_success (with_reducible show List.contains _ _ = true))); (all_goals (fail_if_success (with_reducible show False))); (all_goals (fail_if_success (with_reducible show VSub _ _ _ _ _ _))))))
    | ((first
      | (refine z46 (im_in_c ?_ ?_ ?_) rfl ?_ ?_;rotate_left 3)
      | (refine z46 (im_isSession_c ?_) rfl ?_ ?_;rotate_left 1)
      | (refine z46 (im_isCall_c ?_) rfl ?_ ?_;rotate_left 1)
      | (refine z46 (im_Cmd_empty_c ⟨?_,?_,?_,?_,?_,?_⟩) rfl ?_ ?_;rotate_left 6)
      | (refine z46 (im_PlanOk_2_c ⟨?_,?_,?_⟩) rfl ?_ ?_;rotate_left 3)
      | (refine z46 (im_PlanOk_1_c ⟨?_,?_,?_⟩) rfl ?_ ?_;rotate_left 3)
      | (refine z46 (slices_IndexFunc_PlanSeen_f_im_PlanOk_1_c ?_ ?_) rfl ?_ ?_;rotate_left 2)
      | (refine z46 (im_TableOk_c ⟨?_,?_,?_⟩ ?_) rfl ?_ ?_;rotate_left 4)
      | (refine z46 (im_rising_PlanSeen_f_im_PlanOk_2_c ?_ ?_) rfl ?_ ?_;rotate_left 2)
      | (refine z46 (slices_ContainsFunc_PlanSeen_f_im_PlanOk_1_c ?_ ?_) rfl ?_ ?_;rotate_left 2)
      | (refine z46 (im_Plan_seen_c ⟨?_,⟨?_,?_,?_⟩,?_,?_,?_⟩ ?_ ?_ ?_) rfl ?_ ?_;rotate_left 10)
      | (refine z46 (im_Cmd_inForm_c ⟨?_,?_,?_,?_,?_,?_⟩) rfl ?_ ?_;rotate_left 6)
      | (refine z46 (im_Plan_past_c ⟨?_,⟨?_,?_,?_⟩,?_,?_,?_⟩ ?_ ?_ ?_ ?_) rfl ?_ ?_;rotate_left 11)
      | (refine z46 (im_Plan_do_1_c ⟨?_,?_,?_⟩ ?_) rfl ?_ ?_;rotate_left 4)
      ); (focus ((repeat' (first | simp only [z1, z2, z3, Nat.reduceEqDiff, Nat.reduceLT, not_false_eq_true] | exact z28 | refine z29 ?_ ?_ | exact z31 | refine z32 ?_ ?_ | refine z30 ?_ | exact z33 | refine z34 rfl ?_ ?_ | refine z35 ?_ | exact z13 | exact z14 | exact z15 | exact z16 | refine z17 ?_ | refine z18 rfl ?_ | refine z19 rfl ?_ ?_ | (show lτ _ _ = some _; exact rfl) | exact z20 rfl rfl | refine z20 rfl ?_ | refine z21 ?_ | refine z23 ?_ | exact z24 | refine z25 ?_ rfl rfl ?_ | refine z22 ?_ | refine z26 ?_ rfl rfl ?_ ?_ | refine z27 ?_ rfl rfl ?_ ?_ ?_ | exact True.intro | exact z4 rfl | exact z5 | exact z6 | exact z7 | exact z8 | exact z9 | exact z10 | refine z36 ?_ | refine z37 rfl ?_ | exact z38 | exact z39 | refine z40 (xs := ?_) (ys := ?_) ?_ ?_ | refine z41 (xs := ?_) (ys := ?_) ?_ ?_ ?_ ?_ | refine z42 (xs := ?_) ?_ | refine z43 (xs := ?_) ?_ | refine z44 (x := ?_) (xs := ?_) ?_ ?_ | refine RowsAre.rep (x := ?_) (n := ?_) ?_ | (with_reducible show RowIs _ _ _; first | exact GCmd_row _ | exact GCmd_mk _ _ _ _ _ _ | exact GPlanSeen_row _ | exact GPlanSeen_mk _ _ _ | exact GTable_row _ | exact GTable_mk _ _ _ | exact GTableRange_row _ | exact GTableRange_mk _ _ _ | exact GPlan_row _ | exact GPlan_mk _ _ _ _ _ _ _) | with_reducible exact rfl | (refine z11 ?_; omega) | (refine z12 ?_; omega) | simp only [List.length_append, List.length_map, List.length_cons, List.length_nil, List.length_set, List.length_replicate])); (all_goals (fail_if_success (with_reducible show FZ _ _))); (all_goals (fail_if_success (with_reducible show List.contains _ _ = true))); (all_goals (fail_if_success (with_reducible show False))); (all_goals (fail_if_success (with_reducible show VSub _ _ _ _ _ _))))))
    | omega
    | (refine Tri.cond (b := ?_) ?_ ?_ ?_;rotate_left 1;focus (simp only [ev,z1,z2,Nat.reduceEqDiff,Nat.reduceLT,not_false_eq_true];exact rfl))
    | (intro h;(try simp only [decide_eq_true_eq,decide_eq_false_iff_not,Int.not_lt,Int.not_le,beq_iff_eq,bne_iff_ne,beq_eq_false_iff_ne,bne_eq_false_iff_eq,ne_eq,Bool.not_eq_true',Bool.not_eq_false',Decidable.not_not] at h);(try contradiction))
    | (refine Tri.skip ?_;try change Tri _ _ _ _ _ _)
    | (refine Tri.exit ?_;try change Tri _ _ _ _ _ _)
    | refine Tri.ret ?_
    | refine Tri.block ?_
    | refine Tri.seq ?_
    | ((first
      | (guard_hyp t6;refine Tri.loopN (ι := Nat) 2 rfl (fun j => mkR 26 [(0,.r (.rd 3 encGPlanSeen list)),(1,.fn 93 []),(5,.lit (.int .i64 (j : Int)))]) (fun j => []) (fun j => im_rising_PlanSeen_f_im_PlanOk_2_K1 list j = im_rising_PlanSeen_f_im_PlanOk_2 list ∧ ((j : Int) ≤ (list.length : Int) ∨ j = 1) ∧ 1 ≤ j) (fun j => ((list.length : Int) - (j : Int)).toNat) 1 (Ent.places [] _ (by simp only [go_sem,reduceCtorEq,Nat.reduceAdd,Nat.reduceSub,Nat.reduceMul,Nat.reduceLeDiff,Nat.reduceLT,Nat.reduceEqDiff];rfl) rfl rfl (Nat.zero_le _) ?_ ?_) ?_ ?_;rotate_left 3;(focus (rintro i ⟨hM,hI⟩;(try dsimp only at hM hI)));rotate_right 3)
      | (guard_hyp t7;refine Tri.loopN (ι := Nat) 2 rfl (fun j => mkR 19 [(0,.r (.rd 3 encGPlanSeen s)),(1,.fn 89 []),(6,.r (.rd 3 encGPlanSeen s)),(7,.lit (.int .i64 (s.length : Int))),(8,.lit (.int .i64 (j : Int)))]) (fun j => []) (fun j => slices_IndexFunc_PlanSeen_f_im_PlanOk_1_K1 s j = slices_IndexFunc_PlanSeen_f_im_PlanOk_1 s ∧ (j : Int) ≤ (s.length : Int)) (fun j => ((s.length : Int) - (j : Int)).toNat) 0 (Ent.places [] _ (by simp only [go_sem,reduceCtorEq,Nat.reduceAdd,Nat.reduceSub,Nat.reduceMul,Nat.reduceLeDiff,Nat.reduceLT,Nat.reduceEqDiff];rfl) rfl rfl (Nat.zero_le _) ?_ ?_) ?_ ?_;rotate_left 3;(focus (rintro ix1 ⟨hM,hI⟩;(try dsimp only at hM hI)));rotate_right 3)
      | (guard_hyp t10;refine Tri.loopN (ι := Nat) 2 rfl (fun j => mkR 22 [(1,.lit (.int .i64 session)),(2,.ptr 0 7 0 0),(4,.ptr 1 3 0 0),(9,.r (.rd 3 encGPlanSeen p.Seen)),(10,.lit (.int .i64 (p.Seen.length : Int))),(11,.lit (.int .i64 (j : Int)))]) (fun j => [some (.cells [.lit (.int .i64 p.At),.lit (.int .i64 p.Table.Epoch),.lit (.int .i64 p.Table.Members),.r (.rd 3 encGTableRange p.Table.Ranges),.r (.rd 3 encGPlanSeen p.Seen),.lit (.int .i64 p.Old),.lit (.int .i64 p.New)]),some (.cells [.any,.any,.any])]) (fun j => im_Plan_seen_K1 p session j = im_Plan_seen p session ∧ (j : Int) ≤ (p.Seen.length : Int)) (fun j => ((p.Seen.length : Int) - (j : Int)).toNat) 0 (Ent.places [.slot 2,.slot 4] _ (by simp only [go_sem,reduceCtorEq,Nat.reduceAdd,Nat.reduceSub,Nat.reduceMul,Nat.reduceLeDiff,Nat.reduceLT,Nat.reduceEqDiff];rfl) rfl rfl (Nat.zero_le _) ?_ ?_) ?_ ?_;rotate_left 3;(focus (rintro ix1 ⟨hM,hI⟩;(try dsimp only at hM hI)));rotate_right 3)
      | (guard_hyp t15;refine Tri.loopN (ι := Int × Int × Int) 3 rfl (fun j => mkR 49 [(0,.r (.rd 3 encGPlanSeen x)),(1,.lit (.int .i64 target)),(2,.fn 100 []),(8,.lit (.int .i64 j.1)),(9,.lit (.int .i64 j.2.1)),(10,.lit (.int .i64 j.2.2))]) (fun j => []) (fun j => slices_BinarySearchFunc_PlanSeen_f_im_Plan_do_1_K1 x target j.1 j.2.1 j.2.2 = slices_BinarySearchFunc_PlanSeen_f_im_Plan_do_1 x target ∧ 0 ≤ j.2.1 ∧ j.2.1 ≤ j.2.2 ∧ j.2.2 ≤ (x.length : Int) ∧ j.1 = (x.length : Int)) (fun j => (j.2.2 - j.2.1).toNat) (?_,?_,?_) (Ent.places [] _ (by simp only [go_sem,reduceCtorEq,Nat.reduceAdd,Nat.reduceSub,Nat.reduceMul,Nat.reduceLeDiff,Nat.reduceLT,Nat.reduceEqDiff];rfl) rfl rfl (Nat.zero_le _) ?_ ?_) ?_ ?_;rotate_left 6;(focus (rintro ⟨n,i,j⟩ ⟨hM,hI⟩;(try dsimp only at hM hI)));rotate_right 3)
      ); (focus (repeat' (first | simp only [z1, z2, z3, Nat.reduceEqDiff, Nat.reduceLT, not_false_eq_true] | exact z28 | refine z29 ?_ ?_ | exact z31 | refine z32 ?_ ?_ | refine z30 ?_ | exact z33 | refine z34 rfl ?_ ?_ | refine z35 ?_ | exact z13 | exact z14 | exact z15 | exact z16 | refine z17 ?_ | refine z18 rfl ?_ | refine z19 rfl ?_ ?_ | (show lτ _ _ = some _; exact rfl) | exact z20 rfl rfl | refine z20 rfl ?_ | refine z21 ?_ | refine z23 ?_ | exact z24 | refine z25 ?_ rfl rfl ?_ | refine z22 ?_ | refine z26 ?_ rfl rfl ?_ ?_ | refine z27 ?_ rfl rfl ?_ ?_ ?_ | exact True.intro | exact z4 rfl | exact z5 | exact z6 | exact z7 | exact z8 | exact z9 | exact z10 | refine z36 ?_ | refine z37 rfl ?_ | exact z38 | exact z39 | refine z40 (xs := ?_) (ys := ?_) ?_ ?_ | refine z41 (xs := ?_) (ys := ?_) ?_ ?_ ?_ ?_ | refine z42 (xs := ?_) ?_ | refine z43 (xs := ?_) ?_ | refine z44 (x := ?_) (xs := ?_) ?_ ?_ | refine RowsAre.rep (x := ?_) (n := ?_) ?_ | (with_reducible show RowIs _ _ _; first | exact GCmd_row _ | exact GCmd_mk _ _ _ _ _ _ | exact GPlanSeen_row _ | exact GPlanSeen_mk _ _ _ | exact GTable_row _ | exact GTable_mk _ _ _ | exact GTableRange_row _ | exact GTableRange_mk _ _ _ | exact GPlan_row _ | exact GPlan_mk _ _ _ _ _ _ _) | with_reducible exact rfl | (refine z11 ?_; omega) | (refine z12 ?_; omega) | simp only [List.length_append, List.length_map, List.length_cons, List.length_nil, List.length_set, List.length_replicate]))); (focus (repeat' (first | simp only [z1, z2, z3, Nat.reduceEqDiff, Nat.reduceLT, not_false_eq_true] | exact z28 | refine z29 ?_ ?_ | exact z31 | refine z32 ?_ ?_ | refine z30 ?_ | exact z33 | refine z34 rfl ?_ ?_ | refine z35 ?_ | exact z13 | exact z14 | exact z15 | exact z16 | refine z17 ?_ | refine z18 rfl ?_ | refine z19 rfl ?_ ?_ | (show lτ _ _ = some _; exact rfl) | exact z20 rfl rfl | refine z20 rfl ?_ | refine z21 ?_ | refine z23 ?_ | exact z24 | refine z25 ?_ rfl rfl ?_ | refine z22 ?_ | refine z26 ?_ rfl rfl ?_ ?_ | refine z27 ?_ rfl rfl ?_ ?_ ?_ | exact True.intro | exact z4 rfl | exact z5 | exact z6 | exact z7 | exact z8 | exact z9 | exact z10 | refine z36 ?_ | refine z37 rfl ?_ | exact z38 | exact z39 | refine z40 (xs := ?_) (ys := ?_) ?_ ?_ | refine z41 (xs := ?_) (ys := ?_) ?_ ?_ ?_ ?_ | refine z42 (xs := ?_) ?_ | refine z43 (xs := ?_) ?_ | refine z44 (x := ?_) (xs := ?_) ?_ ?_ | refine RowsAre.rep (x := ?_) (n := ?_) ?_ | (with_reducible show RowIs _ _ _; first | exact GCmd_row _ | exact GCmd_mk _ _ _ _ _ _ | exact GPlanSeen_row _ | exact GPlanSeen_mk _ _ _ | exact GTable_row _ | exact GTable_mk _ _ _ | exact GTableRange_row _ | exact GTableRange_mk _ _ _ | exact GPlan_row _ | exact GPlan_mk _ _ _ _ _ _ _) | with_reducible exact rfl | (refine z11 ?_; omega) | (refine z12 ?_; omega) | simp only [List.length_append, List.length_map, List.length_cons, List.length_nil, List.length_set, List.length_replicate]))); rotate_left 1)
    | ((first
      | (guard_hyp t6;refine backK (i + 1) (Ent.places [] _ (by simp only [go_sem,reduceCtorEq,Nat.reduceAdd,Nat.reduceSub,Nat.reduceMul,Nat.reduceLeDiff,Nat.reduceLT,Nat.reduceEqDiff];rfl) rfl rfl (Nat.zero_le _) ?_ ?_) ?_ ?_;rotate_left 3;(focus ((try dsimp only);omega));rotate_right 3)
      | (guard_hyp t7;refine backK (ix1 + 1) (Ent.places [] _ (by simp only [go_sem,reduceCtorEq,Nat.reduceAdd,Nat.reduceSub,Nat.reduceMul,Nat.reduceLeDiff,Nat.reduceLT,Nat.reduceEqDiff];rfl) rfl rfl (Nat.zero_le _) ?_ ?_) ?_ ?_;rotate_left 3;(focus ((try dsimp only);omega));rotate_right 3)
      | (guard_hyp t10;refine backK (ix1 + 1) (Ent.places [.slot 2,.slot 4] _ (by simp only [go_sem,reduceCtorEq,Nat.reduceAdd,Nat.reduceSub,Nat.reduceMul,Nat.reduceLeDiff,Nat.reduceLT,Nat.reduceEqDiff];rfl) rfl rfl (Nat.zero_le _) ?_ ?_) ?_ ?_;rotate_left 3;(focus ((try dsimp only);omega));rotate_right 3)
      | (guard_hyp t15;refine backK (?_,?_,?_) (Ent.places [] _ (by simp only [go_sem,reduceCtorEq,Nat.reduceAdd,Nat.reduceSub,Nat.reduceMul,Nat.reduceLeDiff,Nat.reduceLT,Nat.reduceEqDiff];rfl) rfl rfl (Nat.zero_le _) ?_ ?_) ?_ ?_;rotate_left 3;rotate_left 3;(focus ((try dsimp only);omega));rotate_right 3)
      ); (focus (repeat' (first | simp only [z1, z2, z3, Nat.reduceEqDiff, Nat.reduceLT, not_false_eq_true] | exact z28 | refine z29 ?_ ?_ | exact z31 | refine z32 ?_ ?_ | refine z30 ?_ | exact z33 | refine z34 rfl ?_ ?_ | refine z35 ?_ | exact z13 | exact z14 | exact z15 | exact z16 | refine z17 ?_ | refine z18 rfl ?_ | refine z19 rfl ?_ ?_ | (show lτ _ _ = some _; exact rfl) | exact z20 rfl rfl | refine z20 rfl ?_ | refine z21 ?_ | refine z23 ?_ | exact z24 | refine z25 ?_ rfl rfl ?_ | refine z22 ?_ | refine z26 ?_ rfl rfl ?_ ?_ | refine z27 ?_ rfl rfl ?_ ?_ ?_ | exact True.intro | exact z4 rfl | exact z5 | exact z6 | exact z7 | exact z8 | exact z9 | exact z10 | refine z36 ?_ | refine z37 rfl ?_ | exact z38 | exact z39 | refine z40 (xs := ?_) (ys := ?_) ?_ ?_ | refine z41 (xs := ?_) (ys := ?_) ?_ ?_ ?_ ?_ | refine z42 (xs := ?_) ?_ | refine z43 (xs := ?_) ?_ | refine z44 (x := ?_) (xs := ?_) ?_ ?_ | refine RowsAre.rep (x := ?_) (n := ?_) ?_ | (with_reducible show RowIs _ _ _; first | exact GCmd_row _ | exact GCmd_mk _ _ _ _ _ _ | exact GPlanSeen_row _ | exact GPlanSeen_mk _ _ _ | exact GTable_row _ | exact GTable_mk _ _ _ | exact GTableRange_row _ | exact GTableRange_mk _ _ _ | exact GPlan_row _ | exact GPlan_mk _ _ _ _ _ _ _) | with_reducible exact rfl | (refine z11 ?_; omega) | (refine z12 ?_; omega) | simp only [List.length_append, List.length_map, List.length_cons, List.length_nil, List.length_set, List.length_replicate]))); (focus (repeat' (first | simp only [z1, z2, z3, Nat.reduceEqDiff, Nat.reduceLT, not_false_eq_true] | exact z28 | refine z29 ?_ ?_ | exact z31 | refine z32 ?_ ?_ | refine z30 ?_ | exact z33 | refine z34 rfl ?_ ?_ | refine z35 ?_ | exact z13 | exact z14 | exact z15 | exact z16 | refine z17 ?_ | refine z18 rfl ?_ | refine z19 rfl ?_ ?_ | (show lτ _ _ = some _; exact rfl) | exact z20 rfl rfl | refine z20 rfl ?_ | refine z21 ?_ | refine z23 ?_ | exact z24 | refine z25 ?_ rfl rfl ?_ | refine z22 ?_ | refine z26 ?_ rfl rfl ?_ ?_ | refine z27 ?_ rfl rfl ?_ ?_ ?_ | exact True.intro | exact z4 rfl | exact z5 | exact z6 | exact z7 | exact z8 | exact z9 | exact z10 | refine z36 ?_ | refine z37 rfl ?_ | exact z38 | exact z39 | refine z40 (xs := ?_) (ys := ?_) ?_ ?_ | refine z41 (xs := ?_) (ys := ?_) ?_ ?_ ?_ ?_ | refine z42 (xs := ?_) ?_ | refine z43 (xs := ?_) ?_ | refine z44 (x := ?_) (xs := ?_) ?_ ?_ | refine RowsAre.rep (x := ?_) (n := ?_) ?_ | (with_reducible show RowIs _ _ _; first | exact GCmd_row _ | exact GCmd_mk _ _ _ _ _ _ | exact GPlanSeen_row _ | exact GPlanSeen_mk _ _ _ | exact GTable_row _ | exact GTable_mk _ _ _ | exact GTableRange_row _ | exact GTableRange_mk _ _ _ | exact GPlan_row _ | exact GPlan_mk _ _ _ _ _ _ _) | with_reducible exact rfl | (refine z11 ?_; omega) | (refine z12 ?_; omega) | simp only [List.length_append, List.length_map, List.length_cons, List.length_nil, List.length_set, List.length_replicate]))))
    | ((first
      | (guard_hyp t6;refine backK (i + 1) (Ent.places [] _ (by simp only [go_sem,reduceCtorEq,Nat.reduceAdd,Nat.reduceSub,Nat.reduceMul,Nat.reduceLeDiff,Nat.reduceLT,Nat.reduceEqDiff];rfl) rfl rfl (Nat.zero_le _) ?_ ?_) ?_ ?_)
      | (guard_hyp t7;refine backK (ix1 + 1) (Ent.places [] _ (by simp only [go_sem,reduceCtorEq,Nat.reduceAdd,Nat.reduceSub,Nat.reduceMul,Nat.reduceLeDiff,Nat.reduceLT,Nat.reduceEqDiff];rfl) rfl rfl (Nat.zero_le _) ?_ ?_) ?_ ?_)
      | (guard_hyp t10;refine backK (ix1 + 1) (Ent.places [.slot 2,.slot 4] _ (by simp only [go_sem,reduceCtorEq,Nat.reduceAdd,Nat.reduceSub,Nat.reduceMul,Nat.reduceLeDiff,Nat.reduceLT,Nat.reduceEqDiff];rfl) rfl rfl (Nat.zero_le _) ?_ ?_) ?_ ?_)
      | (guard_hyp t15;refine backK (?_,?_,?_) (Ent.places [] _ (by simp only [go_sem,reduceCtorEq,Nat.reduceAdd,Nat.reduceSub,Nat.reduceMul,Nat.reduceLeDiff,Nat.reduceLT,Nat.reduceEqDiff];rfl) rfl rfl (Nat.zero_le _) ?_ ?_) ?_ ?_;rotate_left 3)
      ); (focus (repeat' (first | simp only [z1, z2, z3, Nat.reduceEqDiff, Nat.reduceLT, not_false_eq_true] | exact z28 | refine z29 ?_ ?_ | exact z31 | refine z32 ?_ ?_ | refine z30 ?_ | exact z33 | refine z34 rfl ?_ ?_ | refine z35 ?_ | exact z13 | exact z14 | exact z15 | exact z16 | refine z17 ?_ | refine z18 rfl ?_ | refine z19 rfl ?_ ?_ | (show lτ _ _ = some _; exact rfl) | exact z20 rfl rfl | refine z20 rfl ?_ | refine z21 ?_ | refine z23 ?_ | exact z24 | refine z25 ?_ rfl rfl ?_ | refine z22 ?_ | refine z26 ?_ rfl rfl ?_ ?_ | refine z27 ?_ rfl rfl ?_ ?_ ?_ | exact True.intro | exact z4 rfl | exact z5 | exact z6 | exact z7 | exact z8 | exact z9 | exact z10 | refine z36 ?_ | refine z37 rfl ?_ | exact z38 | exact z39 | refine z40 (xs := ?_) (ys := ?_) ?_ ?_ | refine z41 (xs := ?_) (ys := ?_) ?_ ?_ ?_ ?_ | refine z42 (xs := ?_) ?_ | refine z43 (xs := ?_) ?_ | refine z44 (x := ?_) (xs := ?_) ?_ ?_ | refine RowsAre.rep (x := ?_) (n := ?_) ?_ | (with_reducible show RowIs _ _ _; first | exact GCmd_row _ | exact GCmd_mk _ _ _ _ _ _ | exact GPlanSeen_row _ | exact GPlanSeen_mk _ _ _ | exact GTable_row _ | exact GTable_mk _ _ _ | exact GTableRange_row _ | exact GTableRange_mk _ _ _ | exact GPlan_row _ | exact GPlan_mk _ _ _ _ _ _ _) | with_reducible exact rfl | (refine z11 ?_; omega) | (refine z12 ?_; omega) | simp only [List.length_append, List.length_map, List.length_cons, List.length_nil, List.length_set, List.length_replicate]))); (focus (repeat' (first | simp only [z1, z2, z3, Nat.reduceEqDiff, Nat.reduceLT, not_false_eq_true] | exact z28 | refine z29 ?_ ?_ | exact z31 | refine z32 ?_ ?_ | refine z30 ?_ | exact z33 | refine z34 rfl ?_ ?_ | refine z35 ?_ | exact z13 | exact z14 | exact z15 | exact z16 | refine z17 ?_ | refine z18 rfl ?_ | refine z19 rfl ?_ ?_ | (show lτ _ _ = some _; exact rfl) | exact z20 rfl rfl | refine z20 rfl ?_ | refine z21 ?_ | refine z23 ?_ | exact z24 | refine z25 ?_ rfl rfl ?_ | refine z22 ?_ | refine z26 ?_ rfl rfl ?_ ?_ | refine z27 ?_ rfl rfl ?_ ?_ ?_ | exact True.intro | exact z4 rfl | exact z5 | exact z6 | exact z7 | exact z8 | exact z9 | exact z10 | refine z36 ?_ | refine z37 rfl ?_ | exact z38 | exact z39 | refine z40 (xs := ?_) (ys := ?_) ?_ ?_ | refine z41 (xs := ?_) (ys := ?_) ?_ ?_ ?_ ?_ | refine z42 (xs := ?_) ?_ | refine z43 (xs := ?_) ?_ | refine z44 (x := ?_) (xs := ?_) ?_ ?_ | refine RowsAre.rep (x := ?_) (n := ?_) ?_ | (with_reducible show RowIs _ _ _; first | exact GCmd_row _ | exact GCmd_mk _ _ _ _ _ _ | exact GPlanSeen_row _ | exact GPlanSeen_mk _ _ _ | exact GTable_row _ | exact GTable_mk _ _ _ | exact GTableRange_row _ | exact GTableRange_mk _ _ _ | exact GPlan_row _ | exact GPlan_mk _ _ _ _ _ _ _) | with_reducible exact rfl | (refine z11 ?_; omega) | (refine z12 ?_; omega) | simp only [List.length_append, List.length_map, List.length_cons, List.length_nil, List.length_set, List.length_replicate]))); rotate_left 1; (focus ((try dsimp only); first | omega | (simp only [List.length_set, List.length_append, List.length_cons, List.length_nil]; omega))))
    | ((guard_hyp t15;refine backK (?_,?_,?_) (Ent.places [] _ (by simp only [go_sem,reduceCtorEq,Nat.reduceAdd,Nat.reduceSub,Nat.reduceMul,Nat.reduceLeDiff,Nat.reduceLT,Nat.reduceEqDiff];rfl) rfl rfl (Nat.zero_le _) ?_ ?_) ?_ ?_;rotate_left 3);(focus (repeat' (first|simp only [z1,z2,z3,Nat.reduceEqDiff,Nat.reduceLT,not_false_eq_true]|exact z28|refine z29 ?_ ?_|exact z31|refine z32 ?_ ?_|refine z30 ?_|exact z33|refine z34 rfl ?_ ?_|refine z35 ?_|exact z13|exact z14|exact z15|exact z16|refine z17 ?_|refine z18 rfl ?_|refine z19 rfl ?_ ?_|(show lτ _ _ = some _;exact rfl)|exact z20 rfl rfl|refine z20 rfl ?_|refine z21 ?_|refine z23 ?_|exact z24|refine z25 ?_ rfl rfl ?_|refine z22 ?_|refine z26 ?_ rfl rfl ?_ ?_|refine z27 ?_ rfl rfl ?_ ?_ ?_|exact True.intro|exact z4 rfl|exact z5|exact z6|exact z7|exact z8|exact z9|exact z10|refine z36 ?_|refine z37 rfl ?_|exact z38|exact z39|refine z40 (xs := ?_) (ys := ?_) ?_ ?_|refine z41 (xs := ?_) (ys := ?_) ?_ ?_ ?_ ?_|refine z42 (xs := ?_) ?_|refine z43 (xs := ?_) ?_|refine z44 (x := ?_) (xs := ?_) ?_ ?_|refine RowsAre.rep (x := ?_) (n := ?_) ?_|(with_reducible show RowIs _ _ _;first|exact GCmd_row _|exact GCmd_mk _ _ _ _ _ _|exact GPlanSeen_row _|exact GPlanSeen_mk _ _ _|exact GTable_row _|exact GTable_mk _ _ _|exact GTableRange_row _|exact GTableRange_mk _ _ _|exact GPlan_row _|exact GPlan_mk _ _ _ _ _ _ _)|with_reducible exact rfl|(refine z11 ?_;omega)|(refine z12 ?_;omega)|simp only [List.length_append,List.length_map,List.length_cons,List.length_nil,List.length_set,List.length_replicate])));(focus (repeat' (first|simp only [z1,z2,z3,Nat.reduceEqDiff,Nat.reduceLT,not_false_eq_true]|exact z28|refine z29 ?_ ?_|exact z31|refine z32 ?_ ?_|refine z30 ?_|exact z33|refine z34 rfl ?_ ?_|refine z35 ?_|exact z13|exact z14|exact z15|exact z16|refine z17 ?_|refine z18 rfl ?_|refine z19 rfl ?_ ?_|(show lτ _ _ = some _;exact rfl)|exact z20 rfl rfl|refine z20 rfl ?_|refine z21 ?_|refine z23 ?_|exact z24|refine z25 ?_ rfl rfl ?_|refine z22 ?_|refine z26 ?_ rfl rfl ?_ ?_|refine z27 ?_ rfl rfl ?_ ?_ ?_|exact True.intro|exact z4 rfl|exact z5|exact z6|exact z7|exact z8|exact z9|exact z10|refine z36 ?_|refine z37 rfl ?_|exact z38|exact z39|refine z40 (xs := ?_) (ys := ?_) ?_ ?_|refine z41 (xs := ?_) (ys := ?_) ?_ ?_ ?_ ?_|refine z42 (xs := ?_) ?_|refine z43 (xs := ?_) ?_|refine z44 (x := ?_) (xs := ?_) ?_ ?_|refine RowsAre.rep (x := ?_) (n := ?_) ?_|(with_reducible show RowIs _ _ _;first|exact GCmd_row _|exact GCmd_mk _ _ _ _ _ _|exact GPlanSeen_row _|exact GPlanSeen_mk _ _ _|exact GTable_row _|exact GTable_mk _ _ _|exact GTableRange_row _|exact GTableRange_mk _ _ _|exact GPlan_row _|exact GPlan_mk _ _ _ _ _ _ _)|with_reducible exact rfl|(refine z11 ?_;omega)|(refine z12 ?_;omega)|simp only [List.length_append,List.length_map,List.length_cons,List.length_nil,List.length_set,List.length_replicate])));rotate_left 1)
    | ((first
      | (guard_hyp t0;refine EndK.eqv (vs := ?_) (f := fun x : Bool => .lit (.bool x)) ?_ (by first|exact .inr rfl|exact .inl rfl) ?_ ?_ ?_;rotate_left 2)
      | (guard_hyp t1;refine EndK.eqv (vs := ?_) (f := fun x : Bool => .lit (.bool x)) ?_ (by first|exact .inr rfl|exact .inl rfl) ?_ ?_ ?_;rotate_left 2)
      | (guard_hyp t2;refine EndK.eqv (vs := ?_) (f := fun x : Bool => .lit (.bool x)) ?_ (by first|exact .inr rfl|exact .inl rfl) ?_ ?_ ?_;rotate_left 2)
      | (guard_hyp t3;refine EndK.eqv (vs := ?_) (f := fun x : Bool => .lit (.bool x)) ?_ (by first|exact .inr rfl|exact .inl rfl) ?_ ?_ ?_;rotate_left 2)
      | (guard_hyp t4;refine EndK.eqv (vs := ?_) (f := fun x : Bool => .lit (.bool x)) ?_ (by first|exact .inr rfl|exact .inl rfl) ?_ ?_ ?_;rotate_left 2)
      | (guard_hyp t5;refine EndK.eqv (vs := ?_) (f := fun x : Int => .lit (.int .i64 x)) ?_ (by first|exact .inr rfl|exact .inl rfl) ?_ ?_ ?_;rotate_left 2)
      | (guard_hyp t6;refine EndK.eqv (vs := ?_) (f := fun x : Bool => .lit (.bool x)) ?_ (by first|exact .inr rfl|exact .inl rfl) ?_ ?_ ?_;rotate_left 2)
      | (guard_hyp t7;refine EndK.eqv (vs := ?_) (f := fun x : Int => .lit (.int .i64 x)) ?_ (by first|exact .inr rfl|exact .inl rfl) ?_ ?_ ?_;rotate_left 2)
      | (guard_hyp t8;refine EndK.eqv (vs := ?_) (f := fun x : Bool => .lit (.bool x)) ?_ (by first|exact .inr rfl|exact .inl rfl) ?_ ?_ ?_;rotate_left 2)
      | (guard_hyp t9;refine EndK.eqv (vs := ?_) (f := fun x : Bool => .lit (.bool x)) ?_ (by first|exact .inr rfl|exact .inl rfl) ?_ ?_ ?_;rotate_left 2)
      | (guard_hyp t10;refine EndK.eqv (vs := ?_) (f := fun x : GPlanSeen × Bool => .tup [.agg [.lit (.int .i64 x.1.Session),.lit (.int .i64 x.1.Call),.lit (.int .i64 x.1.Code)],.lit (.bool x.2)]) (⟨?_,?_,?_⟩,?_) (by first|exact .inr rfl|exact .inl rfl) ?_ ?_ ?_;rotate_left 5)
      | (guard_hyp t11;refine EndK.eqv (vs := ?_) (f := fun x : Bool => .lit (.bool x)) ?_ (by first|exact .inr rfl|exact .inl rfl) ?_ ?_ ?_;rotate_left 2)
      | (guard_hyp t13;refine EndK.eqv (vs := ?_) (f := fun x : Bool => .lit (.bool x)) ?_ (by first|exact .inr rfl|exact .inl rfl) ?_ ?_ ?_;rotate_left 2)
      | (guard_hyp t14;refine EndK.eqv (vs := ?_) (f := fun x : Int => .lit (.int .i64 x)) ?_ (by first|exact .inr rfl|exact .inl rfl) ?_ ?_ ?_;rotate_left 2)
      | (guard_hyp t15;refine EndK.eqv (vs := ?_) (f := fun x : Int × Bool => .tup [.lit (.int .i64 x.1),.lit (.bool x.2)]) (?_,?_) (by first|exact .inr rfl|exact .inl rfl) ?_ ?_ ?_;rotate_left 3)
      ); (focus (simp only [go_sem, reduceCtorEq, Nat.reduceAdd, Nat.reduceSub, Nat.reduceMul, Nat.reduceLeDiff, Nat.reduceLT, Nat.reduceEqDiff]; exact rfl)); (focus (repeat' (first | simp only [z1, z2, z3, Nat.reduceEqDiff, Nat.reduceLT, not_false_eq_true] | exact z28 | refine z29 ?_ ?_ | exact z31 | refine z32 ?_ ?_ | refine z30 ?_ | exact z33 | refine z34 rfl ?_ ?_ | refine z35 ?_ | exact z13 | exact z14 | exact z15 | exact z16 | refine z17 ?_ | refine z18 rfl ?_ | refine z19 rfl ?_ ?_ | (show lτ _ _ = some _; exact rfl) | exact z20 rfl rfl | refine z20 rfl ?_ | refine z21 ?_ | refine z23 ?_ | exact z24 | refine z25 ?_ rfl rfl ?_ | refine z22 ?_ | refine z26 ?_ rfl rfl ?_ ?_ | refine z27 ?_ rfl rfl ?_ ?_ ?_ | exact True.intro | exact z4 rfl | exact z5 | exact z6 | exact z7 | exact z8 | exact z9 | exact z10 | refine z36 ?_ | refine z37 rfl ?_ | exact z38 | exact z39 | refine z40 (xs := ?_) (ys := ?_) ?_ ?_ | refine z41 (xs := ?_) (ys := ?_) ?_ ?_ ?_ ?_ | refine z42 (xs := ?_) ?_ | refine z43 (xs := ?_) ?_ | refine z44 (x := ?_) (xs := ?_) ?_ ?_ | refine RowsAre.rep (x := ?_) (n := ?_) ?_ | (with_reducible show RowIs _ _ _; first | exact GCmd_row _ | exact GCmd_mk _ _ _ _ _ _ | exact GPlanSeen_row _ | exact GPlanSeen_mk _ _ _ | exact GTable_row _ | exact GTable_mk _ _ _ | exact GTableRange_row _ | exact GTableRange_mk _ _ _ | exact GPlan_row _ | exact GPlan_mk _ _ _ _ _ _ _) | with_reducible exact rfl | (refine z11 ?_; omega) | (refine z12 ?_; omega) | simp only [List.length_append, List.length_map, List.length_cons, List.length_nil, List.length_set, List.length_replicate]))))
    | ((guard_hyp t12;refine EndK.eqq (p := 1) (vs := ?_) (f := fun x : Int × GPlan => .lit (.int .i64 x.1)) (g := fun x : Int × GPlan => [some (.cells [.lit (.int .i64 x.2.At),.lit (.int .i64 x.2.Table.Epoch),.lit (.int .i64 x.2.Table.Members),.sl 1 3 0 x.2.Table.Ranges.length,.sl 2 3 0 x.2.Seen.length,.lit (.int .i64 x.2.Old),.lit (.int .i64 x.2.New)]),some (.rows 3 (fun q => (encGTableRange q).map AV.r) x.2.Table.Ranges),some (.rows 3 (fun q => (encGPlanSeen q).map AV.r) x.2.Seen)]) (?_,⟨?_,⟨?_,?_,?_⟩,?_,?_,?_⟩) [some 0,?_,?_] (by first|exact .inr rfl|exact .inl rfl) ?_ ?_ ?_ (by simp) ?_ ?_ ?_;rotate_left 11);(focus (simp only [go_sem,reduceCtorEq,Nat.reduceAdd,Nat.reduceSub,Nat.reduceMul,Nat.reduceLeDiff,Nat.reduceLT,Nat.reduceEqDiff];exact rfl));rotate_left 3;(focus (repeat' (first|simp only [z1,z2,z3,Nat.reduceEqDiff,Nat.reduceLT,not_false_eq_true]|exact z28|refine z29 ?_ ?_|exact z31|refine z32 ?_ ?_|refine z30 ?_|exact z33|refine z34 rfl ?_ ?_|refine z35 ?_|exact z13|exact z14|exact z15|exact z16|refine z17 ?_|refine z18 rfl ?_|refine VSub.slD rfl ?_ ?_|(show lτ _ _ = some _;exact rfl)|exact z20 rfl rfl|refine z20 rfl ?_|refine z21 ?_|refine z23 ?_|exact z24|refine z25 ?_ rfl rfl ?_|refine z22 ?_|refine z26 ?_ rfl rfl ?_ ?_|refine z27 ?_ rfl rfl ?_ ?_ ?_|exact True.intro|exact z4 rfl|exact z5|exact z6|exact z7|exact z8|exact z9|exact z10|refine z36 ?_|refine z37 rfl ?_|exact z38|exact z39|refine z40 (xs := ?_) (ys := ?_) ?_ ?_|refine z41 (xs := ?_) (ys := ?_) ?_ ?_ ?_ ?_|refine z42 (xs := ?_) ?_|refine z43 (xs := ?_) ?_|refine z44 (x := ?_) (xs := ?_) ?_ ?_|refine RowsAre.rep (x := ?_) (n := ?_) ?_|(with_reducible show RowIs _ _ _;first|exact GCmd_row _|exact GCmd_mk _ _ _ _ _ _|exact GPlanSeen_row _|exact GPlanSeen_mk _ _ _|exact GTable_row _|exact GTable_mk _ _ _|exact GTableRange_row _|exact GTableRange_mk _ _ _|exact GPlan_row _|exact GPlan_mk _ _ _ _ _ _ _)|with_reducible exact rfl|(refine z11 ?_;omega)|(refine z12 ?_;omega)|simp only [List.length_append,List.length_map,List.length_cons,List.length_nil,List.length_set,List.length_replicate])));rotate_right 1;(focus (repeat' (first|simp only [z1,z2,z3,Nat.reduceEqDiff,Nat.reduceLT,not_false_eq_true]|exact z28|refine z29 ?_ ?_|exact z31|refine z32 ?_ ?_|refine z30 ?_|exact z33|refine z34 rfl ?_ ?_|refine z35 ?_|exact z13|exact z14|exact z15|exact z16|refine z17 ?_|refine z18 rfl ?_|refine VSub.slD rfl ?_ ?_|(show lτ _ _ = some _;exact rfl)|exact z20 rfl rfl|refine z20 rfl ?_|refine z21 ?_|refine z23 ?_|exact z24|refine z25 ?_ rfl rfl ?_|refine z22 ?_|refine z26 ?_ rfl rfl ?_ ?_|refine z27 ?_ rfl rfl ?_ ?_ ?_|exact True.intro|exact z4 rfl|exact z5|exact z6|exact z7|exact z8|exact z9|exact z10|refine z36 ?_|refine z37 rfl ?_|exact z38|exact z39|refine z40 (xs := ?_) (ys := ?_) ?_ ?_|refine z41 (xs := ?_) (ys := ?_) ?_ ?_ ?_ ?_|refine z42 (xs := ?_) ?_|refine z43 (xs := ?_) ?_|refine z44 (x := ?_) (xs := ?_) ?_ ?_|refine RowsAre.rep (x := ?_) (n := ?_) ?_|(with_reducible show RowIs _ _ _;first|exact GCmd_row _|exact GCmd_mk _ _ _ _ _ _|exact GPlanSeen_row _|exact GPlanSeen_mk _ _ _|exact GTable_row _|exact GTable_mk _ _ _|exact GTableRange_row _|exact GTableRange_mk _ _ _|exact GPlan_row _|exact GPlan_mk _ _ _ _ _ _ _)|with_reducible exact rfl|(refine z11 ?_;omega)|(refine z12 ?_;omega)|simp only [List.length_append,List.length_map,List.length_cons,List.length_nil,List.length_set,List.length_replicate])));(all_goals (try (with_reducible refine LenEq.mk ?_);try with_reducible exact rfl));(all_goals (try (with_reducible refine BoolIs.mk ?_);exact rfl))))
  all_goals (try clear h1); all_goals (try clear K1); all_goals (try clear hK); all_goals (try clear K); all_goals (try dsimp only); all_goals (try simp only [Bool.not_eq_false', Bool.not_eq_true', decide_eq_true_eq, decide_eq_false_iff_not] at *); all_goals (try simp only [GCmd_eta, GPlanSeen_eta, GTable_eta, GTableRange_eta, GPlan_eta] at *); all_goals (try clear im_isSession_c); all_goals (try clear im_isCall_c); all_goals (try clear im_Cmd_empty_c); all_goals (try clear im_PlanOk_2_c); all_goals (try clear im_PlanOk_1_c); all_goals (try clear slices_IndexFunc_PlanSeen_f_im_PlanOk_1_c); all_goals (try clear im_rising_PlanSeen_f_im_PlanOk_2_c); all_goals (try clear slices_ContainsFunc_PlanSeen_f_im_PlanOk_1_c); all_goals (try clear im_Plan_seen_c); all_goals (try clear im_Cmd_inForm_c); all_goals (try clear im_Plan_past_c); all_goals (try clear im_Plan_do_1_c)
  all_goals first
    | omega
    | (guard_hyp t15;first|((simp (disch := omega) only [wr_id,wr_u64,half_eq] at *;omega))|((simp (disch := omega) only [wr_id,wr_u64,half_eq];done))|(((try simp (disch := omega) only [wr_id,wr_u64,half_eq]);have e : slices_BinarySearchFunc_PlanSeen_f_im_Plan_do_1_L1 x target i j = slices_BinarySearchFunc_PlanSeen_f_im_Plan_do_1_L1 x target ((i + j) / 2 + 1) j := (by rw [slices_BinarySearchFunc_PlanSeen_f_im_Plan_do_1_L1,dif_pos (by omega),dif_pos (by omega)];simp (disch := omega) only [wr_id,wr_u64,half_eq] at h ⊢;rw [if_pos h]);rw [← hM,slices_BinarySearchFunc_PlanSeen_f_im_Plan_do_1_K1,slices_BinarySearchFunc_PlanSeen_f_im_Plan_do_1_K1,e]))|(((try simp (disch := omega) only [wr_id,wr_u64,half_eq]);have e : slices_BinarySearchFunc_PlanSeen_f_im_Plan_do_1_L1 x target i j = slices_BinarySearchFunc_PlanSeen_f_im_Plan_do_1_L1 x target i ((i + j) / 2) := (by rw [slices_BinarySearchFunc_PlanSeen_f_im_Plan_do_1_L1,dif_pos (by omega),dif_pos (by omega)];simp (disch := omega) only [wr_id,wr_u64,half_eq] at h ⊢;rw [if_neg (by omega)]);rw [← hM,slices_BinarySearchFunc_PlanSeen_f_im_Plan_do_1_K1,slices_BinarySearchFunc_PlanSeen_f_im_Plan_do_1_K1,e])))
    | (simp only [List.length_cons,List.length_nil,Nat.reduceAdd];done)
    | (simp only [List.length_set,List.length_append,List.length_cons,List.length_nil,List.length_map,List.length_take,List.length_drop];omega)
    | (obtain ⟨x,_,rfl⟩ := List.mem_map.1 (by assumption);rfl)
    | (obtain ⟨x,_,rfl⟩ := List.mem_map.1 (List.mem_of_mem_take (by assumption));rfl)
    | (obtain ⟨x,_,rfl⟩ := List.mem_map.1 (List.mem_of_mem_drop (List.mem_of_mem_take (by assumption)));rfl)
    | (simp (disch := omega) only [wr_id];omega)
    | (guard_hyp t0;first|(rw [im_isSession];all_goals first|grind|(repeat' split) <;> first|rfl|grind))
    | (guard_hyp t1;first|(rw [im_isCall];all_goals first|grind|(repeat' split) <;> first|rfl|grind))
    | (guard_hyp t2;first|(rw [im_Cmd_empty];all_goals first|grind|(repeat' split) <;> first|rfl|grind))
    | (guard_hyp t3;first|(rw [im_Cmd_inForm];all_goals first|grind|(repeat' split) <;> first|rfl|grind))
    | (guard_hyp t4;first|(rw [im_PlanOk_1];all_goals first|grind|(repeat' split) <;> first|rfl|grind))
    | (guard_hyp t5;first|(rw [im_PlanOk_2];all_goals first|grind|(repeat' split) <;> first|rfl|grind))
    | (guard_hyp t6;first|(rw [im_rising_PlanSeen_f_im_PlanOk_2_K1,im_rising_PlanSeen_f_im_PlanOk_2_L1] at hM;rw [im_rising_PlanSeen_f_im_PlanOk_2_K1];all_goals grind)|(rw [im_rising_PlanSeen_f_im_PlanOk_2_K1,im_rising_PlanSeen_f_im_PlanOk_2_L1] at hM;grind)|(rw [im_rising_PlanSeen_f_im_PlanOk_2];all_goals first|grind|(repeat' split) <;> first|rfl|grind))
    | (guard_hyp t7;first|(rw [slices_IndexFunc_PlanSeen_f_im_PlanOk_1_K1,slices_IndexFunc_PlanSeen_f_im_PlanOk_1_L1] at hM;rw [slices_IndexFunc_PlanSeen_f_im_PlanOk_1_K1];all_goals grind)|(rw [slices_IndexFunc_PlanSeen_f_im_PlanOk_1_K1,slices_IndexFunc_PlanSeen_f_im_PlanOk_1_L1] at hM;grind)|(rw [slices_IndexFunc_PlanSeen_f_im_PlanOk_1];all_goals first|grind|(repeat' split) <;> first|rfl|grind))
    | (guard_hyp t8;first|(rw [slices_ContainsFunc_PlanSeen_f_im_PlanOk_1];all_goals first|grind|(repeat' split) <;> first|rfl|grind))
    | (guard_hyp t9;first|(rw [im_PlanOk];all_goals first|grind|(repeat' split) <;> first|rfl|grind))
    | (guard_hyp t10;first|(rw [im_Plan_seen_K1,im_Plan_seen_L1] at hM;rw [im_Plan_seen_K1];all_goals grind)|(rw [im_Plan_seen_K1,im_Plan_seen_L1] at hM;grind)|(rw [im_Plan_seen];all_goals first|grind|(repeat' split) <;> first|rfl|grind))
    | (guard_hyp t11;first|(rw [im_Plan_past];all_goals first|grind|(repeat' split) <;> first|rfl|grind))
    | (guard_hyp t12;first|(rw [im_Plan_group];all_goals first|grind|(repeat' split) <;> first|rfl|grind))
    | (guard_hyp t13;first|(rw [im_Plan_nothing];all_goals first|grind|(repeat' split) <;> first|rfl|grind))
    | (guard_hyp t14;first|(rw [im_Plan_do_1];all_goals first|grind|(repeat' split) <;> first|rfl|grind))
    | (guard_hyp t15;first|((try simp (disch := omega) only [wr_id,wr_u64,half_eq]);have e : slices_BinarySearchFunc_PlanSeen_f_im_Plan_do_1_L1 x target i j = slices_BinarySearchFunc_PlanSeen_f_im_Plan_do_1_L1 x target ((i + j) / 2 + 1) j := (by rw [slices_BinarySearchFunc_PlanSeen_f_im_Plan_do_1_L1,dif_pos (by omega),dif_pos (by omega)];simp (disch := omega) only [wr_id,wr_u64,half_eq] at h ⊢;rw [if_pos h]);rw [← hM,slices_BinarySearchFunc_PlanSeen_f_im_Plan_do_1_K1,slices_BinarySearchFunc_PlanSeen_f_im_Plan_do_1_K1,e])|((try simp (disch := omega) only [wr_id,wr_u64,half_eq]);have e : slices_BinarySearchFunc_PlanSeen_f_im_Plan_do_1_L1 x target i j = slices_BinarySearchFunc_PlanSeen_f_im_Plan_do_1_L1 x target i ((i + j) / 2) := (by rw [slices_BinarySearchFunc_PlanSeen_f_im_Plan_do_1_L1,dif_pos (by omega),dif_pos (by omega)];simp (disch := omega) only [wr_id,wr_u64,half_eq] at h ⊢;rw [if_neg (by omega)]);rw [← hM,slices_BinarySearchFunc_PlanSeen_f_im_Plan_do_1_K1,slices_BinarySearchFunc_PlanSeen_f_im_Plan_do_1_K1,e])|(rw [slices_BinarySearchFunc_PlanSeen_f_im_Plan_do_1_K1,slices_BinarySearchFunc_PlanSeen_f_im_Plan_do_1_L1] at hM;rw [slices_BinarySearchFunc_PlanSeen_f_im_Plan_do_1_K1];all_goals grind)|(rw [slices_BinarySearchFunc_PlanSeen_f_im_Plan_do_1_K1,slices_BinarySearchFunc_PlanSeen_f_im_Plan_do_1_L1] at hM;grind)|(rw [slices_BinarySearchFunc_PlanSeen_f_im_Plan_do_1];all_goals first|grind|(repeat' split) <;> first|rfl|grind))
    | grind)
theorem im_isSession_c : Sim_isSession_c := layH21.1
theorem im_isCall_c : Sim_isCall_c := layH21.2.1
theorem im_Cmd_empty_c : Sim_Cmd_empty_c := layH21.2.2.1
theorem im_Cmd_inForm_c : Sim_Cmd_inForm_c := layH21.2.2.2.1 im_isSession_c im_isCall_c im_Cmd_empty_c
theorem im_PlanOk_1_c : Sim_PlanOk_1_c := layH21.2.2.2.2.1 im_isSession_c im_isCall_c
theorem im_PlanOk_2_c : Sim_PlanOk_2_c := layH21.2.2.2.2.2.1
theorem im_rising_PlanSeen_f_im_PlanOk_2_c : Sim_rising_PlanSeen_f_im_PlanOk_2_c := layH21.2.2.2.2.2.2.1 im_PlanOk_2_c
theorem slices_IndexFunc_PlanSeen_f_im_PlanOk_1_c : Sslices_IndexFunc_PlanSeen_f_im_PlanOk_1_c := layH21.2.2.2.2.2.2.2.1 im_PlanOk_1_c
theorem slices_ContainsFunc_PlanSeen_f_im_PlanOk_1_c : Sslices_ContainsFunc_PlanSeen_f_im_PlanOk_1_c := layH21.2.2.2.2.2.2.2.2.1 slices_IndexFunc_PlanSeen_f_im_PlanOk_1_c
theorem im_PlanOk_c : Sim_PlanOk_c := layH21.2.2.2.2.2.2.2.2.2.1 im_rising_PlanSeen_f_im_PlanOk_2_c slices_ContainsFunc_PlanSeen_f_im_PlanOk_1_c
theorem im_Plan_seen_c : Sim_Plan_seen_c := layH21.2.2.2.2.2.2.2.2.2.2.1
theorem im_Plan_past_c : Sim_Plan_past_c := layH21.2.2.2.2.2.2.2.2.2.2.2.1 im_Plan_seen_c
theorem im_Plan_group_c : Sim_Plan_group_c := layH21.2.2.2.2.2.2.2.2.2.2.2.2.1
theorem im_Plan_nothing_c : Sim_Plan_nothing_c := layH21.2.2.2.2.2.2.2.2.2.2.2.2.2.1 im_Cmd_empty_c im_Cmd_inForm_c im_Plan_past_c
theorem im_Plan_do_1_c : Sim_Plan_do_1_c := layH21.2.2.2.2.2.2.2.2.2.2.2.2.2.2.1
theorem slices_BinarySearchFunc_PlanSeen_f_im_Plan_do_1_c : Sslices_BinarySearchFunc_PlanSeen_f_im_Plan_do_1_c := layH21.2.2.2.2.2.2.2.2.2.2.2.2.2.2.2 im_Plan_do_1_c
end Go.Proofs.YtlojldccjmkikaaGreat
