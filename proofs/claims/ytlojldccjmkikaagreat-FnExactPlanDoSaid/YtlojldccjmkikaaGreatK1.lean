/- Contracts of the law's words: sizes, copies, comparisons, for lists whose lengths are bounded as stated. -/
import Derived.Test.YtlojldccjmkikaaGreatG5
import Derived.Test.YtlojldccjmkikaaGreatA4
set_option linter.unusedVariables false
set_option linter.unusedSimpArgs false
namespace Go.Proofs.YtlojldccjmkikaaGreat
open Go.Ae
open Go.Ae renaming getR_eq → z1, getR_ne → z2, getR_nil → z3, lF_mk → z4, cont1 → z5, cont2a → z6, cont2b → z7, cont3a → z8, cont3b → z9, cont3c → z10, wr_up → z11, wr_dn → z12
open Go.Ae.VSub renaming any' → z13, same → z14, nilRd → z15, mtRd → z16, lit → z17, ptr' → z18, sl' → z19, slD → z20, slNil → z21, agg' → z22, tup' → z23, fn' → z24, rpSame → z25, rpF → z26, frz → z27, frzC → z28
open Go.Ae.LSub renaming nil' → z29, cons' → z30, mkR' → z31
open Go.Ae.SSub renaming nil' → z32, cons' → z33
open Go.Ae.HTell renaming nil' → z34, some' → z35, freshRows → z36
open Go.Ae.BSub renaming cells' → z37, own → z38
open Go.Ae.RowsAre renaming map → z39, nil → z40, app → z41, spl → z42, take → z43, drop → z44, cons → z45
open Go.Ae.CallA renaming frameq → z46, frameLq → z47, gv0 → z48, lend → z49
open Go.Ae.LenEq renaming mk → z50
open Go.Ae.BoolIs renaming mk → z51
set_option linter.unusedSimpArgs false
set_option linter.unusedVariables false
attribute [local irreducible] wr bitsOf VSub LSub SSub HTell BSub RowIs RowsAre Ent lF mkR
def lw_szTableRangeS (a : List GTableRange) (left : Int) : Int :=
  let left := (wr .i64 (left - (a.length : Int)))
  if (left < 0) then
    (-1)
  else 
    left
def lw_szTable (a : GTable) (left : Int) : Int :=
  let left := (lw_szTableRangeS a.Ranges left)
  if (left < 0) then
    (-1)
  else 
    left
def lw_szPlanSeenS (a : List GPlanSeen) (left : Int) : Int :=
  let left := (wr .i64 (left - (a.length : Int)))
  if (left < 0) then
    (-1)
  else 
    left
def lw_szPlan (a : GPlan) (left : Int) : Int :=
  let left := (lw_szTable a.Table left)
  if (left < 0) then
    (-1)
  else 
    let left := (lw_szPlanSeenS a.Seen left)
    if (left < 0) then
      (-1)
    else 
      left
def lw_szCmd (a : GCmd) (left : Int) : Int :=
  let left := (wr .i64 (left - (a.Text.size : Int)))
  if (left < 0) then
    (-1)
  else 
    left
def lw_toTableRange (a : GTableRange) : GTableRange :=
  let out : GTableRange := default
  let out := { out with Lo := a.Lo }
  let out := { out with Hi := a.Hi }
  let out := { out with Node := a.Node }
  out
def lw_toTableRangeS_L1 (a : List GTableRange) (out : List GTableRange) (i : Nat) : (List GTableRange) :=
  if h0 : ((i : Int) < (a.length : Int)) then
      let out := out.set i (lw_toTableRange (a.getD i default))
      lw_toTableRangeS_L1 a out (i + 1)
  else out
termination_by ((a.length : Int) - (i : Int)).toNat
decreasing_by all_goals omega
def lw_toTableRangeS_K1 (a : List GTableRange) (out : List GTableRange) (i : Nat) : (List GTableRange) :=
  let q := lw_toTableRangeS_L1 a out i
  let out := q
  out
def lw_toTableRangeS (a : List GTableRange) : (List GTableRange) :=
  let out := (List.replicate (a.length : Int).toNat default)
  let i : Nat := 0
  lw_toTableRangeS_K1 a out i
def lw_toTable (a : GTable) : GTable :=
  let out : GTable := default
  let out := { out with Epoch := a.Epoch }
  let out := { out with Members := a.Members }
  let out := { out with Ranges := (lw_toTableRangeS a.Ranges) }
  out
def lw_toPlanSeen (a : GPlanSeen) : GPlanSeen :=
  let out : GPlanSeen := default
  let out := { out with Session := a.Session }
  let out := { out with Call := a.Call }
  let out := { out with Code := a.Code }
  out
def lw_toPlanSeenS_L1 (a : List GPlanSeen) (out : List GPlanSeen) (i : Nat) : (List GPlanSeen) :=
  if h0 : ((i : Int) < (a.length : Int)) then
      let out := out.set i (lw_toPlanSeen (a.getD i default))
      lw_toPlanSeenS_L1 a out (i + 1)
  else out
termination_by ((a.length : Int) - (i : Int)).toNat
decreasing_by all_goals omega
def lw_toPlanSeenS_K1 (a : List GPlanSeen) (out : List GPlanSeen) (i : Nat) : (List GPlanSeen) :=
  let q := lw_toPlanSeenS_L1 a out i
  let out := q
  out
def lw_toPlanSeenS (a : List GPlanSeen) : (List GPlanSeen) :=
  let out := (List.replicate (a.length : Int).toNat default)
  let i : Nat := 0
  lw_toPlanSeenS_K1 a out i
def lw_toPlan (a : GPlan) : GPlan :=
  let out : GPlan := default
  let out := { out with At := a.At }
  let out := { out with Table := (lw_toTable a.Table) }
  let out := { out with Seen := (lw_toPlanSeenS a.Seen) }
  let out := { out with Old := a.Old }
  let out := { out with New := a.New }
  out
def lw_toCmd (a : GCmd) : GCmd :=
  let out : GCmd := default
  let out := { out with Kind := a.Kind }
  let out := { out with Session := a.Session }
  let out := { out with Call := a.Call }
  let out := { out with At := a.At }
  let out := { out with To := a.To }
  let out := { out with Text := a.Text }
  out
def lw_eqTableRange (a : GTableRange) (b : GTableRange) : Bool :=
  if (a.Lo ≠ b.Lo) then
    false
  else 
    if (a.Hi ≠ b.Hi) then
      false
    else 
      if (a.Node ≠ b.Node) then
        false
      else 
        true
def lw_eqTableRangeS_L1 (a : List GTableRange) (b : List GTableRange) (i : Nat) : Fl (Bool) (Unit) :=
  if h0 : ((i : Int) < (a.length : Int)) then
      if ((lw_eqTableRange (a.getD i default) (b.getD i default)) = false) then
        .ret false
      else 
        lw_eqTableRangeS_L1 a b (i + 1)
  else .go ()
termination_by ((a.length : Int) - (i : Int)).toNat
decreasing_by all_goals omega
def lw_eqTableRangeS_K1 (a : List GTableRange) (b : List GTableRange) (i : Nat) : Bool :=
  match lw_eqTableRangeS_L1 a b i with
  | .ret rr => rr
  | .go q =>
    true
def lw_eqTableRangeS (a : List GTableRange) (b : List GTableRange) : Bool :=
  if ((a.length : Int) ≠ (b.length : Int)) then
    false
  else 
    let i : Nat := 0
    lw_eqTableRangeS_K1 a b i
def lw_eqTable (a : GTable) (b : GTable) : Bool :=
  if (a.Epoch ≠ b.Epoch) then
    false
  else 
    if (a.Members ≠ b.Members) then
      false
    else 
      if ((lw_eqTableRangeS a.Ranges b.Ranges) = false) then
        false
      else 
        true
def lw_eqPlanSeen (a : GPlanSeen) (b : GPlanSeen) : Bool :=
  if (a.Session ≠ b.Session) then
    false
  else 
    if (a.Call ≠ b.Call) then
      false
    else 
      if (a.Code ≠ b.Code) then
        false
      else 
        true
def lw_eqPlanSeenS_L1 (a : List GPlanSeen) (b : List GPlanSeen) (i : Nat) : Fl (Bool) (Unit) :=
  if h0 : ((i : Int) < (a.length : Int)) then
      if ((lw_eqPlanSeen (a.getD i default) (b.getD i default)) = false) then
        .ret false
      else 
        lw_eqPlanSeenS_L1 a b (i + 1)
  else .go ()
termination_by ((a.length : Int) - (i : Int)).toNat
decreasing_by all_goals omega
def lw_eqPlanSeenS_K1 (a : List GPlanSeen) (b : List GPlanSeen) (i : Nat) : Bool :=
  match lw_eqPlanSeenS_L1 a b i with
  | .ret rr => rr
  | .go q =>
    true
def lw_eqPlanSeenS (a : List GPlanSeen) (b : List GPlanSeen) : Bool :=
  if ((a.length : Int) ≠ (b.length : Int)) then
    false
  else 
    let i : Nat := 0
    lw_eqPlanSeenS_K1 a b i
def lw_eqPlan (a : GPlan) (b : GPlan) : Bool :=
  if (a.At ≠ b.At) then
    false
  else 
    if ((lw_eqTable a.Table b.Table) = false) then
      false
    else 
      if ((lw_eqPlanSeenS a.Seen b.Seen) = false) then
        false
      else 
        if (a.Old ≠ b.Old) then
          false
        else 
          if (a.New ≠ b.New) then
            false
          else 
            true
def Slw_szTableRangeS_c : Prop := ∀ (a : List GTableRange) (left : Int) (hp0 : a.length ≤ 9223372036854775807), Gives Tryz.prog 77 [.r (.rd 3 encGTableRange a), .lit (.int .i64 left)] (.lit (.int .i64 (lw_szTableRangeS a left)))
def Slw_szTable_c : Prop := ∀ (a : GTable) (left : Int) (hp0 : a.Ranges.length ≤ 9223372036854775807), Gives Tryz.prog 38 [.agg [.lit (.int .i64 a.Epoch), .lit (.int .i64 a.Members), .r (.rd 3 encGTableRange a.Ranges)], .lit (.int .i64 left)] (.lit (.int .i64 (lw_szTable a left)))
def Slw_szPlanSeenS_c : Prop := ∀ (a : List GPlanSeen) (left : Int) (hp0 : a.length ≤ 9223372036854775807), Gives Tryz.prog 39 [.r (.rd 3 encGPlanSeen a), .lit (.int .i64 left)] (.lit (.int .i64 (lw_szPlanSeenS a left)))
def Slw_szPlan_c : Prop := ∀ (a : GPlan) (left : Int) (hp0 : a.Table.Ranges.length ≤ 9223372036854775807) (hp1 : a.Seen.length ≤ 9223372036854775807), Gives Tryz.prog 9 [.agg [.lit (.int .i64 a.At), .lit (.int .i64 a.Table.Epoch), .lit (.int .i64 a.Table.Members), .r (.rd 3 encGTableRange a.Table.Ranges), .r (.rd 3 encGPlanSeen a.Seen), .lit (.int .i64 a.Old), .lit (.int .i64 a.New)], .lit (.int .i64 left)] (.lit (.int .i64 (lw_szPlan a left)))
def Slw_szCmd_c : Prop := ∀ (a : GCmd) (left : Int), Gives Tryz.prog 10 [.agg [.lit (.int .i64 a.Kind), .lit (.int .i64 a.Session), .lit (.int .i64 a.Call), .lit (.int .i64 a.At), .lit (.int .i64 a.To), .lit (.string a.Text)], .lit (.int .i64 left)] (.lit (.int .i64 (lw_szCmd a left)))
def Slw_toTableRange_c : Prop := ∀ (a : GTableRange), Gives Tryz.prog 120 [.agg [.lit (.int .i64 a.Lo), .lit (.int .i64 a.Hi), .lit (.int .i64 a.Node)]] (.agg [.lit (.int .i64 (lw_toTableRange a).Lo), .lit (.int .i64 (lw_toTableRange a).Hi), .lit (.int .i64 (lw_toTableRange a).Node)])
def Slw_toTableRangeS_c : Prop := ∀ (a : List GTableRange) (hp0 : a.length ≤ 2147483648), Does Tryz.prog 87 0 [.r (.rd 3 encGTableRange a)] [] (fun vv H2 => vv = .sl 0 3 0 (lw_toTableRangeS a).length ∧ H2 = [some (.rows 3 (fun q => (encGTableRange q).map AV.r) (lw_toTableRangeS a))])
def Slw_toTable_c : Prop := ∀ (a : GTable) (hp0 : a.Ranges.length ≤ 2147483648), Does Tryz.prog 47 0 [.agg [.lit (.int .i64 a.Epoch), .lit (.int .i64 a.Members), .r (.rd 3 encGTableRange a.Ranges)]] [] (fun vv H2 => vv = .agg [.lit (.int .i64 (lw_toTable a).Epoch), .lit (.int .i64 (lw_toTable a).Members), .sl 0 3 0 (lw_toTable a).Ranges.length] ∧ H2 = [some (.rows 3 (fun q => (encGTableRange q).map AV.r) (lw_toTable a).Ranges)])
def Slw_toPlanSeen_c : Prop := ∀ (a : GPlanSeen), Gives Tryz.prog 88 [.agg [.lit (.int .i64 a.Session), .lit (.int .i64 a.Call), .lit (.int .i64 a.Code)]] (.agg [.lit (.int .i64 (lw_toPlanSeen a).Session), .lit (.int .i64 (lw_toPlanSeen a).Call), .lit (.int .i64 (lw_toPlanSeen a).Code)])
def Slw_toPlanSeenS_c : Prop := ∀ (a : List GPlanSeen) (hp0 : a.length ≤ 2147483648), Does Tryz.prog 48 0 [.r (.rd 3 encGPlanSeen a)] [] (fun vv H2 => vv = .sl 0 3 0 (lw_toPlanSeenS a).length ∧ H2 = [some (.rows 3 (fun q => (encGPlanSeen q).map AV.r) (lw_toPlanSeenS a))])
def Slw_toPlan_c : Prop := ∀ (a : GPlan) (hp0 : a.Table.Ranges.length ≤ 2147483648) (hp1 : a.Seen.length ≤ 2147483648), Does Tryz.prog 12 0 [.agg [.lit (.int .i64 a.At), .lit (.int .i64 a.Table.Epoch), .lit (.int .i64 a.Table.Members), .r (.rd 3 encGTableRange a.Table.Ranges), .r (.rd 3 encGPlanSeen a.Seen), .lit (.int .i64 a.Old), .lit (.int .i64 a.New)]] [] (fun vv H2 => vv = .agg [.lit (.int .i64 (lw_toPlan a).At), .lit (.int .i64 (lw_toPlan a).Table.Epoch), .lit (.int .i64 (lw_toPlan a).Table.Members), .sl 0 3 0 (lw_toPlan a).Table.Ranges.length, .sl 1 3 0 (lw_toPlan a).Seen.length, .lit (.int .i64 (lw_toPlan a).Old), .lit (.int .i64 (lw_toPlan a).New)] ∧ H2 = [some (.rows 3 (fun q => (encGTableRange q).map AV.r) (lw_toPlan a).Table.Ranges), some (.rows 3 (fun q => (encGPlanSeen q).map AV.r) (lw_toPlan a).Seen)])
def Slw_toCmd_c : Prop := ∀ (a : GCmd), Gives Tryz.prog 13 [.agg [.lit (.int .i64 a.Kind), .lit (.int .i64 a.Session), .lit (.int .i64 a.Call), .lit (.int .i64 a.At), .lit (.int .i64 a.To), .lit (.string a.Text)]] (.agg [.lit (.int .i64 (lw_toCmd a).Kind), .lit (.int .i64 (lw_toCmd a).Session), .lit (.int .i64 (lw_toCmd a).Call), .lit (.int .i64 (lw_toCmd a).At), .lit (.int .i64 (lw_toCmd a).To), .lit (.string (lw_toCmd a).Text)])
def Slw_eqTableRange_c : Prop := ∀ (a : GTableRange) (b : GTableRange), Gives Tryz.prog 134 [.agg [.lit (.int .i64 a.Lo), .lit (.int .i64 a.Hi), .lit (.int .i64 a.Node)], .agg [.lit (.int .i64 b.Lo), .lit (.int .i64 b.Hi), .lit (.int .i64 b.Node)]] (.lit (.bool (lw_eqTableRange a b)))
def Slw_eqTableRangeS_c : Prop := ∀ (a : List GTableRange) (b : List GTableRange) (hp0 : a.length ≤ 2147483648) (hp1 : b.length ≤ 2147483648), Gives Tryz.prog 102 [.r (.rd 3 encGTableRange a), .r (.rd 3 encGTableRange b)] (.lit (.bool (lw_eqTableRangeS a b)))
def Slw_eqTable_c : Prop := ∀ (a : GTable) (b : GTable) (hp0 : a.Ranges.length ≤ 2147483648) (hp1 : b.Ranges.length ≤ 2147483648), Gives Tryz.prog 51 [.agg [.lit (.int .i64 a.Epoch), .lit (.int .i64 a.Members), .r (.rd 3 encGTableRange a.Ranges)], .agg [.lit (.int .i64 b.Epoch), .lit (.int .i64 b.Members), .r (.rd 3 encGTableRange b.Ranges)]] (.lit (.bool (lw_eqTable a b)))
def Slw_eqPlanSeen_c : Prop := ∀ (a : GPlanSeen) (b : GPlanSeen), Gives Tryz.prog 103 [.agg [.lit (.int .i64 a.Session), .lit (.int .i64 a.Call), .lit (.int .i64 a.Code)], .agg [.lit (.int .i64 b.Session), .lit (.int .i64 b.Call), .lit (.int .i64 b.Code)]] (.lit (.bool (lw_eqPlanSeen a b)))
def Slw_eqPlanSeenS_c : Prop := ∀ (a : List GPlanSeen) (b : List GPlanSeen) (hp0 : a.length ≤ 2147483648) (hp1 : b.length ≤ 2147483648), Gives Tryz.prog 52 [.r (.rd 3 encGPlanSeen a), .r (.rd 3 encGPlanSeen b)] (.lit (.bool (lw_eqPlanSeenS a b)))
def Slw_eqPlan_c : Prop := ∀ (a : GPlan) (b : GPlan) (hp0 : a.Table.Ranges.length ≤ 2147483648) (hp1 : a.Seen.length ≤ 2147483648) (hp2 : b.Table.Ranges.length ≤ 2147483648) (hp3 : b.Seen.length ≤ 2147483648), Gives Tryz.prog 15 [.agg [.lit (.int .i64 a.At), .lit (.int .i64 a.Table.Epoch), .lit (.int .i64 a.Table.Members), .r (.rd 3 encGTableRange a.Table.Ranges), .r (.rd 3 encGPlanSeen a.Seen), .lit (.int .i64 a.Old), .lit (.int .i64 a.New)], .agg [.lit (.int .i64 b.At), .lit (.int .i64 b.Table.Epoch), .lit (.int .i64 b.Table.Members), .r (.rd 3 encGTableRange b.Table.Ranges), .r (.rd 3 encGPlanSeen b.Seen), .lit (.int .i64 b.Old), .lit (.int .i64 b.New)]] (.lit (.bool (lw_eqPlan a b)))
set_option maxRecDepth 10000 in
set_option maxHeartbeats 36000000 in
theorem layK11 : (Slw_szTableRangeS_c) ∧ (Slw_szTableRangeS_c → Slw_szTable_c) ∧ (Slw_szPlanSeenS_c) ∧ (Slw_szTable_c → Slw_szPlanSeenS_c → Slw_szPlan_c) ∧ (Slw_szCmd_c) ∧ (Slw_toTableRange_c) ∧ (Slw_toTableRange_c → Slw_toTableRangeS_c) ∧ (Slw_toTableRangeS_c → Slw_toTable_c) ∧ (Slw_toPlanSeen_c) ∧ (Slw_toPlanSeen_c → Slw_toPlanSeenS_c) ∧ (Slw_toTable_c → Slw_toPlanSeenS_c → Slw_toPlan_c) ∧ (Slw_toCmd_c) ∧ (Slw_eqTableRange_c) ∧ (Slw_eqTableRange_c → Slw_eqTableRangeS_c) ∧ (Slw_eqTableRangeS_c → Slw_eqTable_c) ∧ (Slw_eqPlanSeen_c) ∧ (Slw_eqPlanSeen_c → Slw_eqPlanSeenS_c) ∧ (Slw_eqTable_c → Slw_eqPlanSeenS_c → Slw_eqPlan_c) := by
  refine ⟨fun a left hp0 => have t0 := tg 0; Does.goR Tryz.func77 Tryz.ntmps77 Tryz.results77 rfl (Nat.zero_le _) rfl ?_,
    fun lw_szTableRangeS_c a left hp0 => have t1 := tg 1; Does.goR Tryz.func38 Tryz.ntmps38 Tryz.results38 rfl (Nat.zero_le _) rfl ?_,
    fun a left hp0 => have t2 := tg 2; Does.goR Tryz.func39 Tryz.ntmps39 Tryz.results39 rfl (Nat.zero_le _) rfl ?_,
    fun lw_szTable_c lw_szPlanSeenS_c a left hp0 hp1 => have t3 := tg 3; Does.goR Tryz.func9 Tryz.ntmps9 Tryz.results9 rfl (Nat.zero_le _) rfl ?_,
    fun a left => have t4 := tg 4; Does.goR Tryz.func10 Tryz.ntmps10 Tryz.results10 rfl (Nat.zero_le _) rfl ?_,
    fun a => have t5 := tg 5; Does.goR Tryz.func120 Tryz.ntmps120 Tryz.results120 rfl (Nat.zero_le _) rfl ?_,
    fun lw_toTableRange_c a hp0 => have t6 := tg 6; Does.goR Tryz.func87 Tryz.ntmps87 Tryz.results87 rfl (Nat.zero_le _) rfl ?_,
    fun lw_toTableRangeS_c a hp0 => have t7 := tg 7; Does.goR Tryz.func47 Tryz.ntmps47 Tryz.results47 rfl (Nat.zero_le _) rfl ?_,
    fun a => have t8 := tg 8; Does.goR Tryz.func88 Tryz.ntmps88 Tryz.results88 rfl (Nat.zero_le _) rfl ?_,
    fun lw_toPlanSeen_c a hp0 => have t9 := tg 9; Does.goR Tryz.func48 Tryz.ntmps48 Tryz.results48 rfl (Nat.zero_le _) rfl ?_,
    fun lw_toTable_c lw_toPlanSeenS_c a hp0 hp1 => have t10 := tg 10; Does.goR Tryz.func12 Tryz.ntmps12 Tryz.results12 rfl (Nat.zero_le _) rfl ?_,
    fun a => have t11 := tg 11; Does.goR Tryz.func13 Tryz.ntmps13 Tryz.results13 rfl (Nat.zero_le _) rfl ?_,
    fun a b => have t12 := tg 12; Does.goR Tryz.func134 Tryz.ntmps134 Tryz.results134 rfl (Nat.zero_le _) rfl ?_,
    fun lw_eqTableRange_c a b hp0 hp1 => have t13 := tg 13; Does.goR Tryz.func102 Tryz.ntmps102 Tryz.results102 rfl (Nat.zero_le _) rfl ?_,
    fun lw_eqTableRangeS_c a b hp0 hp1 => have t14 := tg 14; Does.goR Tryz.func51 Tryz.ntmps51 Tryz.results51 rfl (Nat.zero_le _) rfl ?_,
    fun a b => have t15 := tg 15; Does.goR Tryz.func103 Tryz.ntmps103 Tryz.results103 rfl (Nat.zero_le _) rfl ?_,
    fun lw_eqPlanSeen_c a b hp0 hp1 => have t16 := tg 16; Does.goR Tryz.func52 Tryz.ntmps52 Tryz.results52 rfl (Nat.zero_le _) rfl ?_,
    fun lw_eqTable_c lw_eqPlanSeenS_c a b hp0 hp1 hp2 hp3 => have t17 := tg 17; Does.goR Tryz.func15 Tryz.ntmps15 Tryz.results15 rfl (Nat.zero_le _) rfl ?_⟩
  all_goals (
  simp only [argR, Nat.reduceAdd]
  repeat' (first
    | (refine Tri.regSeq fun K hK => RegS.run ?_)
    | (refine Tri.reg fun K hK => RegS.run ?_)
    | (guard_hyp t13;(first|(refine Tri.fastSeqN 6 rfl mixedP (by kernel_rfl) fun K hK => QuietS.run ?_)|(refine Tri.fastN 6 rfl mixedP (by kernel_rfl) fun K hK => QuietS.run ?_) ))
    | (guard_hyp t16;(first|(refine Tri.fastSeqN 6 rfl mixedP (by kernel_rfl) fun K hK => QuietS.run ?_)|(refine Tri.fastN 6 rfl mixedP (by kernel_rfl) fun K hK => QuietS.run ?_) ))
    | (refine RegS.nil (hK _ _ ?_);clear hK K)
    | (refine QuietS.nil (hK _ _ ?_);clear hK K)
    | ((first|refine RegS.step fun K1 h1 => ?_|refine QuietS.step fun K1 h1 => ?_);simp only [go_sem,reduceCtorEq,Nat.reduceAdd,Nat.reduceSub,Nat.reduceMul,Nat.reduceLeDiff,Nat.reduceLT,Nat.reduceEqDiff])
    | (with_reducible refine GTableRange_ex _ _ _ ?_)
    | (with_reducible refine GPlanSeen_ex _ _ _ ?_)
    | (refine h1 _ _ ?_;clear h1 K1)
    | refine And.intro ?_ ?_
    | ((first
      | (refine z46 [] [] 0 (lw_toTableRangeS_c ?_ ?_) (by simp) ?_ ?_ ?_ rfl rfl ?_ ?_;rotate_left 5)
      | (refine z46 [] [] 0 (lw_toTable_c ⟨?_,?_,?_⟩ ?_) (by simp) ?_ ?_ ?_ rfl rfl ?_ ?_;rotate_left 7)
      | (refine z46 [] [] 0 (lw_toPlanSeenS_c ?_ ?_) (by simp) ?_ ?_ ?_ rfl rfl ?_ ?_;rotate_left 5)
      ); (focus ((repeat' (first | simp only [z1, z2, z3, Nat.reduceEqDiff, Nat.reduceLT, not_false_eq_true] | exact z29 | refine z30 ?_ ?_ | exact z32 | refine z33 ?_ ?_ | refine z31 ?_ | exact z34 | refine z35 rfl ?_ ?_ | refine z36 ?_ | exact z13 | exact z14 | exact z15 | exact z16 | refine z17 ?_ | refine z18 rfl ?_ | refine z20 rfl ?_ ?_ | (show lτ _ _ = some _; exact rfl) | exact z21 rfl rfl | refine z21 rfl ?_ | refine z22 ?_ | refine z24 ?_ | exact z25 | refine z26 ?_ rfl rfl ?_ | refine z23 ?_ | refine z27 ?_ rfl rfl ?_ ?_ | refine z28 ?_ rfl rfl ?_ ?_ ?_ | exact True.intro | exact z4 rfl | exact z5 | exact z6 | exact z7 | exact z8 | exact z9 | exact z10 | refine z37 ?_ | refine z38 rfl ?_ | exact z39 | exact z40 | refine z41 (xs := ?_) (ys := ?_) ?_ ?_ | refine z42 (xs := ?_) (ys := ?_) ?_ ?_ ?_ ?_ | refine z43 (xs := ?_) ?_ | refine z44 (xs := ?_) ?_ | refine z45 (x := ?_) (xs := ?_) ?_ ?_ | refine RowsAre.rep (x := ?_) (n := ?_) ?_ | (with_reducible show RowIs _ _ _; first | exact GTableRange_row _ | exact GTableRange_mk _ _ _ | exact GTable_row _ | exact GTable_mk _ _ _ | exact GPlanSeen_row _ | exact GPlanSeen_mk _ _ _ | exact GPlan_row _ | exact GPlan_mk _ _ _ _ _ _ _ | exact GCmd_row _ | exact GCmd_mk _ _ _ _ _ _) | with_reducible exact rfl | (refine z11 ?_; omega) | (refine z12 ?_; omega) | simp only [List.length_append, List.length_map, List.length_cons, List.length_nil, List.length_set, List.length_replicate])); (all_goals (fail_if_success (with_reducible show FZ _ _))); (all_goals (fail_if_success (with_reducible show List.contains _ _ = true))); (all_goals (fail_if_success (with_reducible show False))); (all_goals (fail_if_success (with_reducible show VSub _ _ _ _ _ _))))); rotate_right 1; (focus ((repeat' (first | simp only [z1, z2, z3, Nat.reduceEqDiff, Nat.reduceLT, not_false_eq_true] | exact z29 | refine z30 ?_ ?_ | exact z32 | refine z33 ?_ ?_ | refine z31 ?_ | exact z34 | refine z35 rfl ?_ ?_ | refine z36 ?_ | exact z13 | exact z14 | exact z15 | exact z16 | refine z17 ?_ | refine z18 rfl ?_ | refine z20 rfl ?_ ?_ | (show lτ _ _ = some _; exact rfl) | exact z21 rfl rfl | refine z21 rfl ?_ | refine z22 ?_ | refine z24 ?_ | exact z25 | refine z26 ?_ rfl rfl ?_ | refine z23 ?_ | refine z27 ?_ rfl rfl ?_ ?_ | refine z28 ?_ rfl rfl ?_ ?_ ?_ | exact True.intro | exact z4 rfl | exact z5 | exact z6 | exact z7 | exact z8 | exact z9 | exact z10 | refine z37 ?_ | refine z38 rfl ?_ | exact z39 | exact z40 | refine z41 (xs := ?_) (ys := ?_) ?_ ?_ | refine z42 (xs := ?_) (ys := ?_) ?_ ?_ ?_ ?_ | refine z43 (xs := ?_) ?_ | refine z44 (xs := ?_) ?_ | refine z45 (x := ?_) (xs := ?_) ?_ ?_ | refine RowsAre.rep (x := ?_) (n := ?_) ?_ | (with_reducible show RowIs _ _ _; first | exact GTableRange_row _ | exact GTableRange_mk _ _ _ | exact GTable_row _ | exact GTable_mk _ _ _ | exact GPlanSeen_row _ | exact GPlanSeen_mk _ _ _ | exact GPlan_row _ | exact GPlan_mk _ _ _ _ _ _ _ | exact GCmd_row _ | exact GCmd_mk _ _ _ _ _ _) | with_reducible exact rfl | (refine z11 ?_; omega) | (refine z12 ?_; omega) | simp only [List.length_append, List.length_map, List.length_cons, List.length_nil, List.length_set, List.length_replicate])); (all_goals (fail_if_success (with_reducible show FZ _ _))); (all_goals (fail_if_success (with_reducible show List.contains _ _ = true))); (all_goals (fail_if_success (with_reducible show False))); (all_goals (fail_if_success (with_reducible show VSub _ _ _ _ _ _))); (all_goals (fail_if_success (with_reducible show HTell _ _ _ _ _ _))))); (all_goals (try (with_reducible refine z51 ?_); exact rfl)); (all_goals (try (with_reducible refine z50 ?_); try with_reducible exact rfl)); any_goals (rintro _ _ ⟨rfl, rfl⟩ _; simp only [go_sem, reduceCtorEq, Nat.reduceAdd, Nat.reduceSub, Nat.reduceMul, Nat.reduceLeDiff, Nat.reduceLT, Nat.reduceEqDiff]))
    | ((first
      | (refine z48 (lw_szTableRangeS_c ?_ ?_ ?_) ?_ ?_;rotate_left 3)
      | (refine z48 (lw_szTable_c ⟨?_,?_,?_⟩ ?_ ?_) ?_ ?_;rotate_left 5)
      | (refine z48 (lw_szPlanSeenS_c ?_ ?_ ?_) ?_ ?_;rotate_left 3)
      | (refine z48 (lw_toTableRange_c ⟨?_,?_,?_⟩) ?_ ?_;rotate_left 3)
      | (refine z48 (lw_toPlanSeen_c ⟨?_,?_,?_⟩) ?_ ?_;rotate_left 3)
      | (refine z48 (lw_eqTableRange_c ⟨?_,?_,?_⟩ ⟨?_,?_,?_⟩) ?_ ?_;rotate_left 6)
      | (refine z48 (lw_eqTableRangeS_c ?_ ?_ ?_ ?_) ?_ ?_;rotate_left 4)
      | (refine z48 (lw_eqPlanSeen_c ⟨?_,?_,?_⟩ ⟨?_,?_,?_⟩) ?_ ?_;rotate_left 6)
      | (refine z48 (lw_eqTable_c ⟨?_,?_,?_⟩ ⟨?_,?_,?_⟩ ?_ ?_) ?_ ?_;rotate_left 8)
      | (refine z48 (lw_eqPlanSeenS_c ?_ ?_ ?_ ?_) ?_ ?_;rotate_left 4)
      ); (focus ((repeat' (first | simp only [z1, z2, z3, Nat.reduceEqDiff, Nat.reduceLT, not_false_eq_true] | exact z29 | refine z30 ?_ ?_ | exact z32 | refine z33 ?_ ?_ | refine z31 ?_ | exact z34 | refine z35 rfl ?_ ?_ | refine z36 ?_ | exact z13 | exact z14 | exact z15 | exact z16 | refine z17 ?_ | refine z18 rfl ?_ | refine z19 rfl ?_ ?_ | (show lτ _ _ = some _; exact rfl) | exact z21 rfl rfl | refine z21 rfl ?_ | refine z22 ?_ | refine z24 ?_ | exact z25 | refine z26 ?_ rfl rfl ?_ | refine z23 ?_ | refine z27 ?_ rfl rfl ?_ ?_ | refine z28 ?_ rfl rfl ?_ ?_ ?_ | exact True.intro | exact z4 rfl | exact z5 | exact z6 | exact z7 | exact z8 | exact z9 | exact z10 | refine z37 ?_ | refine z38 rfl ?_ | exact z39 | exact z40 | refine z41 (xs := ?_) (ys := ?_) ?_ ?_ | refine z42 (xs := ?_) (ys := ?_) ?_ ?_ ?_ ?_ | refine z43 (xs := ?_) ?_ | refine z44 (xs := ?_) ?_ | refine z45 (x := ?_) (xs := ?_) ?_ ?_ | refine RowsAre.rep (x := ?_) (n := ?_) ?_ | (with_reducible show RowIs _ _ _; first | exact GTableRange_row _ | exact GTableRange_mk _ _ _ | exact GTable_row _ | exact GTable_mk _ _ _ | exact GPlanSeen_row _ | exact GPlanSeen_mk _ _ _ | exact GPlan_row _ | exact GPlan_mk _ _ _ _ _ _ _ | exact GCmd_row _ | exact GCmd_mk _ _ _ _ _ _) | with_reducible exact rfl | (refine z11 ?_; omega) | (refine z12 ?_; omega) | simp only [List.length_append, List.length_map, List.length_cons, List.length_nil, List.length_set, List.length_replicate])); (all_goals (fail_if_success (with_reducible show FZ _ _))); (all_goals (fail_if_success (with_reducible show List.contains _ _ = true))); (all_goals (fail_if_success (with_reducible show False))); (all_goals (fail_if_success (with_reducible show VSub _ _ _ _ _ _))))))
    | ((first
      | (refine CallL.gv0 (lw_szTableRangeS_c ?_ ?_ ?_) ?_ ?_;rotate_left 3)
      | (refine CallL.gv0 (lw_szTable_c ⟨?_,?_,?_⟩ ?_ ?_) ?_ ?_;rotate_left 5)
      | (refine CallL.gv0 (lw_szPlanSeenS_c ?_ ?_ ?_) ?_ ?_;rotate_left 3)
      | (refine CallL.gv0 (lw_toTableRange_c ⟨?_,?_,?_⟩) ?_ ?_;rotate_left 3)
      | (refine CallL.gv0 (lw_toPlanSeen_c ⟨?_,?_,?_⟩) ?_ ?_;rotate_left 3)
      | (refine CallL.gv0 (lw_eqTableRange_c ⟨?_,?_,?_⟩ ⟨?_,?_,?_⟩) ?_ ?_;rotate_left 6)
      | (refine CallL.gv0 (lw_eqTableRangeS_c ?_ ?_ ?_ ?_) ?_ ?_;rotate_left 4)
      | (refine CallL.gv0 (lw_eqPlanSeen_c ⟨?_,?_,?_⟩ ⟨?_,?_,?_⟩) ?_ ?_;rotate_left 6)
      | (refine CallL.gv0 (lw_eqTable_c ⟨?_,?_,?_⟩ ⟨?_,?_,?_⟩ ?_ ?_) ?_ ?_;rotate_left 8)
      | (refine CallL.gv0 (lw_eqPlanSeenS_c ?_ ?_ ?_ ?_) ?_ ?_;rotate_left 4)
      ); (focus ((repeat' (first | simp only [z1, z2, z3, Nat.reduceEqDiff, Nat.reduceLT, not_false_eq_true] | exact z29 | refine z30 ?_ ?_ | exact z32 | refine z33 ?_ ?_ | refine z31 ?_ | exact z34 | refine z35 rfl ?_ ?_ | refine z36 ?_ | exact z13 | exact z14 | exact z15 | exact z16 | refine z17 ?_ | refine z18 rfl ?_ | refine z19 rfl ?_ ?_ | (show lτ _ _ = some _; exact rfl) | exact z21 rfl rfl | refine z21 rfl ?_ | refine z22 ?_ | refine z24 ?_ | exact z25 | refine z26 ?_ rfl rfl ?_ | refine z23 ?_ | refine z27 ?_ rfl rfl ?_ ?_ | refine z28 ?_ rfl rfl ?_ ?_ ?_ | exact True.intro | exact z4 rfl | exact z5 | exact z6 | exact z7 | exact z8 | exact z9 | exact z10 | refine z37 ?_ | refine z38 rfl ?_ | exact z39 | exact z40 | refine z41 (xs := ?_) (ys := ?_) ?_ ?_ | refine z42 (xs := ?_) (ys := ?_) ?_ ?_ ?_ ?_ | refine z43 (xs := ?_) ?_ | refine z44 (xs := ?_) ?_ | refine z45 (x := ?_) (xs := ?_) ?_ ?_ | refine RowsAre.rep (x := ?_) (n := ?_) ?_ | (with_reducible show RowIs _ _ _; first | exact GTableRange_row _ | exact GTableRange_mk _ _ _ | exact GTable_row _ | exact GTable_mk _ _ _ | exact GPlanSeen_row _ | exact GPlanSeen_mk _ _ _ | exact GPlan_row _ | exact GPlan_mk _ _ _ _ _ _ _ | exact GCmd_row _ | exact GCmd_mk _ _ _ _ _ _) | with_reducible exact rfl | (refine z11 ?_; omega) | (refine z12 ?_; omega) | simp only [List.length_append, List.length_map, List.length_cons, List.length_nil, List.length_set, List.length_replicate])); (all_goals (fail_if_success (with_reducible show FZ _ _))); (all_goals (fail_if_success (with_reducible show List.contains _ _ = true))); (all_goals (fail_if_success (with_reducible show False))); (all_goals (fail_if_success (with_reducible show VSub _ _ _ _ _ _))))))
    | ((first
      | (refine z49 (lw_szTableRangeS_c ?_ ?_ ?_) rfl ?_ ?_;rotate_left 3)
      | (refine z49 (lw_szTable_c ⟨?_,?_,?_⟩ ?_ ?_) rfl ?_ ?_;rotate_left 5)
      | (refine z49 (lw_szPlanSeenS_c ?_ ?_ ?_) rfl ?_ ?_;rotate_left 3)
      | (refine z49 (lw_toTableRange_c ⟨?_,?_,?_⟩) rfl ?_ ?_;rotate_left 3)
      | (refine z49 (lw_toPlanSeen_c ⟨?_,?_,?_⟩) rfl ?_ ?_;rotate_left 3)
      | (refine z49 (lw_eqTableRange_c ⟨?_,?_,?_⟩ ⟨?_,?_,?_⟩) rfl ?_ ?_;rotate_left 6)
      | (refine z49 (lw_eqTableRangeS_c ?_ ?_ ?_ ?_) rfl ?_ ?_;rotate_left 4)
      | (refine z49 (lw_eqPlanSeen_c ⟨?_,?_,?_⟩ ⟨?_,?_,?_⟩) rfl ?_ ?_;rotate_left 6)
      | (refine z49 (lw_eqTable_c ⟨?_,?_,?_⟩ ⟨?_,?_,?_⟩ ?_ ?_) rfl ?_ ?_;rotate_left 8)
      | (refine z49 (lw_eqPlanSeenS_c ?_ ?_ ?_ ?_) rfl ?_ ?_;rotate_left 4)
      ); (focus ((repeat' (first | simp only [z1, z2, z3, Nat.reduceEqDiff, Nat.reduceLT, not_false_eq_true] | exact z29 | refine z30 ?_ ?_ | exact z32 | refine z33 ?_ ?_ | refine z31 ?_ | exact z34 | refine z35 rfl ?_ ?_ | refine z36 ?_ | exact z13 | exact z14 | exact z15 | exact z16 | refine z17 ?_ | refine z18 rfl ?_ | refine z19 rfl ?_ ?_ | (show lτ _ _ = some _; exact rfl) | exact z21 rfl rfl | refine z21 rfl ?_ | refine z22 ?_ | refine z24 ?_ | exact z25 | refine z26 ?_ rfl rfl ?_ | refine z23 ?_ | refine z27 ?_ rfl rfl ?_ ?_ | refine z28 ?_ rfl rfl ?_ ?_ ?_ | exact True.intro | exact z4 rfl | exact z5 | exact z6 | exact z7 | exact z8 | exact z9 | exact z10 | refine z37 ?_ | refine z38 rfl ?_ | exact z39 | exact z40 | refine z41 (xs := ?_) (ys := ?_) ?_ ?_ | refine z42 (xs := ?_) (ys := ?_) ?_ ?_ ?_ ?_ | refine z43 (xs := ?_) ?_ | refine z44 (xs := ?_) ?_ | refine z45 (x := ?_) (xs := ?_) ?_ ?_ | refine RowsAre.rep (x := ?_) (n := ?_) ?_ | (with_reducible show RowIs _ _ _; first | exact GTableRange_row _ | exact GTableRange_mk _ _ _ | exact GTable_row _ | exact GTable_mk _ _ _ | exact GPlanSeen_row _ | exact GPlanSeen_mk _ _ _ | exact GPlan_row _ | exact GPlan_mk _ _ _ _ _ _ _ | exact GCmd_row _ | exact GCmd_mk _ _ _ _ _ _) | with_reducible exact rfl | (refine z11 ?_; omega) | (refine z12 ?_; omega) | simp only [List.length_append, List.length_map, List.length_cons, List.length_nil, List.length_set, List.length_replicate])); (all_goals (fail_if_success (with_reducible show FZ _ _))); (all_goals (fail_if_success (with_reducible show List.contains _ _ = true))); (all_goals (fail_if_success (with_reducible show False))); (all_goals (fail_if_success (with_reducible show VSub _ _ _ _ _ _))))))
    | ((first
      | (refine z47 [] [?_] 0 (lw_toTableRangeS_c ?_ ?_) (by simp) ?_ ?_ ?_ rfl rfl ?_ (freeP (by simp [AFree,AFreeL]) (HFree.cons (BFree.rows GTableRange_lit) HFree.nil)) ?_;rotate_left 6)
      | (refine z47 [] [?_] 0 (lw_toTable_c ⟨?_,?_,?_⟩ ?_) (by simp) ?_ ?_ ?_ rfl rfl ?_ (freeP (by simp [AFree,AFreeL]) (HFree.cons (BFree.rows GTableRange_lit) HFree.nil)) ?_;rotate_left 8)
      | (refine z47 [] [?_] 0 (lw_toPlanSeenS_c ?_ ?_) (by simp) ?_ ?_ ?_ rfl rfl ?_ (freeP (by simp [AFree,AFreeL]) (HFree.cons (BFree.rows GPlanSeen_lit) HFree.nil)) ?_;rotate_left 6)
      ); (focus ((repeat' (first | simp only [z1, z2, z3, Nat.reduceEqDiff, Nat.reduceLT, not_false_eq_true] | exact z29 | refine z30 ?_ ?_ | exact z32 | refine z33 ?_ ?_ | refine z31 ?_ | exact z34 | refine z35 rfl ?_ ?_ | refine z36 ?_ | exact z13 | exact z14 | exact z15 | exact z16 | refine z17 ?_ | refine z18 rfl ?_ | refine z20 rfl ?_ ?_ | (show lτ _ _ = some _; exact rfl) | exact z21 rfl rfl | refine z21 rfl ?_ | refine z22 ?_ | refine z24 ?_ | exact z25 | refine z26 ?_ rfl rfl ?_ | refine z23 ?_ | refine z27 ?_ rfl rfl ?_ ?_ | refine z28 ?_ rfl rfl ?_ ?_ ?_ | exact True.intro | exact z4 rfl | exact z5 | exact z6 | exact z7 | exact z8 | exact z9 | exact z10 | refine z37 ?_ | refine z38 rfl ?_ | exact z39 | exact z40 | refine z41 (xs := ?_) (ys := ?_) ?_ ?_ | refine z42 (xs := ?_) (ys := ?_) ?_ ?_ ?_ ?_ | refine z43 (xs := ?_) ?_ | refine z44 (xs := ?_) ?_ | refine z45 (x := ?_) (xs := ?_) ?_ ?_ | refine RowsAre.rep (x := ?_) (n := ?_) ?_ | (with_reducible show RowIs _ _ _; first | exact GTableRange_row _ | exact GTableRange_mk _ _ _ | exact GTable_row _ | exact GTable_mk _ _ _ | exact GPlanSeen_row _ | exact GPlanSeen_mk _ _ _ | exact GPlan_row _ | exact GPlan_mk _ _ _ _ _ _ _ | exact GCmd_row _ | exact GCmd_mk _ _ _ _ _ _) | with_reducible exact rfl | (refine z11 ?_; omega) | (refine z12 ?_; omega) | simp only [List.length_append, List.length_map, List.length_cons, List.length_nil, List.length_set, List.length_replicate])); (all_goals (fail_if_success (with_reducible show FZ _ _))); (all_goals (fail_if_success (with_reducible show List.contains _ _ = true))); (all_goals (fail_if_success (with_reducible show False))); (all_goals (fail_if_success (with_reducible show VSub _ _ _ _ _ _))))); rotate_right 1; (focus ((repeat' (first | simp only [z1, z2, z3, Nat.reduceEqDiff, Nat.reduceLT, not_false_eq_true] | exact z29 | refine z30 ?_ ?_ | exact z32 | refine z33 ?_ ?_ | refine z31 ?_ | exact z34 | refine z35 rfl ?_ ?_ | refine z36 ?_ | exact z13 | exact z14 | exact z15 | exact z16 | refine z17 ?_ | refine z18 rfl ?_ | refine z20 rfl ?_ ?_ | (show lτ _ _ = some _; exact rfl) | exact z21 rfl rfl | refine z21 rfl ?_ | refine z22 ?_ | refine z24 ?_ | exact z25 | refine z26 ?_ rfl rfl ?_ | refine z23 ?_ | refine z27 ?_ rfl rfl ?_ ?_ | refine z28 ?_ rfl rfl ?_ ?_ ?_ | exact True.intro | exact z4 rfl | exact z5 | exact z6 | exact z7 | exact z8 | exact z9 | exact z10 | refine z37 ?_ | refine z38 rfl ?_ | exact z39 | exact z40 | refine z41 (xs := ?_) (ys := ?_) ?_ ?_ | refine z42 (xs := ?_) (ys := ?_) ?_ ?_ ?_ ?_ | refine z43 (xs := ?_) ?_ | refine z44 (xs := ?_) ?_ | refine z45 (x := ?_) (xs := ?_) ?_ ?_ | refine RowsAre.rep (x := ?_) (n := ?_) ?_ | (with_reducible show RowIs _ _ _; first | exact GTableRange_row _ | exact GTableRange_mk _ _ _ | exact GTable_row _ | exact GTable_mk _ _ _ | exact GPlanSeen_row _ | exact GPlanSeen_mk _ _ _ | exact GPlan_row _ | exact GPlan_mk _ _ _ _ _ _ _ | exact GCmd_row _ | exact GCmd_mk _ _ _ _ _ _) | with_reducible exact rfl | (refine z11 ?_; omega) | (refine z12 ?_; omega) | simp only [List.length_append, List.length_map, List.length_cons, List.length_nil, List.length_set, List.length_replicate])); (all_goals (fail_if_success (with_reducible show FZ _ _))); (all_goals (fail_if_success (with_reducible show List.contains _ _ = true))); (all_goals (fail_if_success (with_reducible show False))); (all_goals (fail_if_success (with_reducible show VSub _ _ _ _ _ _))); (all_goals (fail_if_success (with_reducible show HTell _ _ _ _ _ _))))); (all_goals (try (with_reducible refine z51 ?_); exact rfl)); (all_goals (try (with_reducible refine z50 ?_); try with_reducible exact rfl)); any_goals (rintro _ _ ⟨rfl, rfl⟩ _; simp only [go_sem, reduceCtorEq, Nat.reduceAdd, Nat.reduceSub, Nat.reduceMul, Nat.reduceLeDiff, Nat.reduceLT, Nat.reduceEqDiff]))
    | ((first
      | (refine z46 [] [?_] 0 (lw_toTableRangeS_c ?_ ?_) (by simp) ?_ ?_ ?_ rfl rfl ?_ ?_;rotate_left 6)
      | (refine z46 [] [?_] 0 (lw_toTable_c ⟨?_,?_,?_⟩ ?_) (by simp) ?_ ?_ ?_ rfl rfl ?_ ?_;rotate_left 8)
      | (refine z46 [] [?_] 0 (lw_toPlanSeenS_c ?_ ?_) (by simp) ?_ ?_ ?_ rfl rfl ?_ ?_;rotate_left 6)
      ); (focus ((repeat' (first | simp only [z1, z2, z3, Nat.reduceEqDiff, Nat.reduceLT, not_false_eq_true] | exact z29 | refine z30 ?_ ?_ | exact z32 | refine z33 ?_ ?_ | refine z31 ?_ | exact z34 | refine z35 rfl ?_ ?_ | refine z36 ?_ | exact z13 | exact z14 | exact z15 | exact z16 | refine z17 ?_ | refine z18 rfl ?_ | refine z20 rfl ?_ ?_ | (show lτ _ _ = some _; exact rfl) | exact z21 rfl rfl | refine z21 rfl ?_ | refine z22 ?_ | refine z24 ?_ | exact z25 | refine z26 ?_ rfl rfl ?_ | refine z23 ?_ | refine z27 ?_ rfl rfl ?_ ?_ | refine z28 ?_ rfl rfl ?_ ?_ ?_ | exact True.intro | exact z4 rfl | exact z5 | exact z6 | exact z7 | exact z8 | exact z9 | exact z10 | refine z37 ?_ | refine z38 rfl ?_ | exact z39 | exact z40 | refine z41 (xs := ?_) (ys := ?_) ?_ ?_ | refine z42 (xs := ?_) (ys := ?_) ?_ ?_ ?_ ?_ | refine z43 (xs := ?_) ?_ | refine z44 (xs := ?_) ?_ | refine z45 (x := ?_) (xs := ?_) ?_ ?_ | refine RowsAre.rep (x := ?_) (n := ?_) ?_ | (with_reducible show RowIs _ _ _; first | exact GTableRange_row _ | exact GTableRange_mk _ _ _ | exact GTable_row _ | exact GTable_mk _ _ _ | exact GPlanSeen_row _ | exact GPlanSeen_mk _ _ _ | exact GPlan_row _ | exact GPlan_mk _ _ _ _ _ _ _ | exact GCmd_row _ | exact GCmd_mk _ _ _ _ _ _) | with_reducible exact rfl | (refine z11 ?_; omega) | (refine z12 ?_; omega) | simp only [List.length_append, List.length_map, List.length_cons, List.length_nil, List.length_set, List.length_replicate])); (all_goals (fail_if_success (with_reducible show FZ _ _))); (all_goals (fail_if_success (with_reducible show List.contains _ _ = true))); (all_goals (fail_if_success (with_reducible show False))); (all_goals (fail_if_success (with_reducible show VSub _ _ _ _ _ _))))); rotate_right 1; (focus ((repeat' (first | simp only [z1, z2, z3, Nat.reduceEqDiff, Nat.reduceLT, not_false_eq_true] | exact z29 | refine z30 ?_ ?_ | exact z32 | refine z33 ?_ ?_ | refine z31 ?_ | exact z34 | refine z35 rfl ?_ ?_ | refine z36 ?_ | exact z13 | exact z14 | exact z15 | exact z16 | refine z17 ?_ | refine z18 rfl ?_ | refine z20 rfl ?_ ?_ | (show lτ _ _ = some _; exact rfl) | exact z21 rfl rfl | refine z21 rfl ?_ | refine z22 ?_ | refine z24 ?_ | exact z25 | refine z26 ?_ rfl rfl ?_ | refine z23 ?_ | refine z27 ?_ rfl rfl ?_ ?_ | refine z28 ?_ rfl rfl ?_ ?_ ?_ | exact True.intro | exact z4 rfl | exact z5 | exact z6 | exact z7 | exact z8 | exact z9 | exact z10 | refine z37 ?_ | refine z38 rfl ?_ | exact z39 | exact z40 | refine z41 (xs := ?_) (ys := ?_) ?_ ?_ | refine z42 (xs := ?_) (ys := ?_) ?_ ?_ ?_ ?_ | refine z43 (xs := ?_) ?_ | refine z44 (xs := ?_) ?_ | refine z45 (x := ?_) (xs := ?_) ?_ ?_ | refine RowsAre.rep (x := ?_) (n := ?_) ?_ | (with_reducible show RowIs _ _ _; first | exact GTableRange_row _ | exact GTableRange_mk _ _ _ | exact GTable_row _ | exact GTable_mk _ _ _ | exact GPlanSeen_row _ | exact GPlanSeen_mk _ _ _ | exact GPlan_row _ | exact GPlan_mk _ _ _ _ _ _ _ | exact GCmd_row _ | exact GCmd_mk _ _ _ _ _ _) | with_reducible exact rfl | (refine z11 ?_; omega) | (refine z12 ?_; omega) | simp only [List.length_append, List.length_map, List.length_cons, List.length_nil, List.length_set, List.length_replicate])); (all_goals (fail_if_success (with_reducible show FZ _ _))); (all_goals (fail_if_success (with_reducible show List.contains _ _ = true))); (all_goals (fail_if_success (with_reducible show False))); (all_goals (fail_if_success (with_reducible show VSub _ _ _ _ _ _))); (all_goals (fail_if_success (with_reducible show HTell _ _ _ _ _ _))))); (all_goals (try (with_reducible refine z51 ?_); exact rfl)); (all_goals (try (with_reducible refine z50 ?_); try with_reducible exact rfl)); any_goals (rintro _ _ ⟨rfl, rfl⟩ _; simp only [go_sem, reduceCtorEq, Nat.reduceAdd, Nat.reduceSub, Nat.reduceMul, Nat.reduceLeDiff, Nat.reduceLT, Nat.reduceEqDiff]))
    | omega
    | (refine Tri.cond (b := ?_) ?_ ?_ ?_;rotate_left 1;focus (simp only [ev,z1,z2,Nat.reduceEqDiff,Nat.reduceLT,not_false_eq_true];exact rfl))
    | (intro h;(try simp only [decide_eq_true_eq,decide_eq_false_iff_not,Int.not_lt,Int.not_le,beq_iff_eq,bne_iff_ne,beq_eq_false_iff_ne,bne_eq_false_iff_eq,ne_eq,Bool.not_eq_true',Bool.not_eq_false',Decidable.not_not] at h);(try contradiction))
    | (refine Tri.skip ?_;try change Tri _ _ _ _ _ _)
    | (refine Tri.exit ?_;try change Tri _ _ _ _ _ _)
    | refine Tri.ret ?_
    | refine Tri.block ?_
    | refine Tri.seq ?_
    | ((first
      | (guard_hyp t6;refine Tri.loopN (ι := (List GTableRange) × Nat) 3 rfl (fun j => mkR 23 [(0,.r (.rd 3 encGTableRange a)),(3,.sl 0 3 0 j.1.length),(4,.lit (.int .i64 (j.2 : Int)))]) (fun j => [some (.rows 3 (fun x => (encGTableRange x).map AV.r) j.1)]) (fun j => lw_toTableRangeS_K1 a j.1 j.2 = lw_toTableRangeS a ∧ (j.2 : Int) ≤ (a.length : Int) ∧ j.1.length = a.length) (fun j => ((a.length : Int) - (j.2 : Int)).toNat) (?_,0) (Ent.places [.slot 3] _ (by simp only [go_sem,reduceCtorEq,Nat.reduceAdd,Nat.reduceSub,Nat.reduceMul,Nat.reduceLeDiff,Nat.reduceLT,Nat.reduceEqDiff];rfl) rfl rfl (Nat.zero_le _) ?_ ?_) ?_ ?_;rotate_left 4;(focus (rintro ⟨out,i⟩ ⟨hM,hI⟩;(try dsimp only at hM hI)));rotate_right 3)
      | (guard_hyp t9;refine Tri.loopN (ι := (List GPlanSeen) × Nat) 3 rfl (fun j => mkR 23 [(0,.r (.rd 3 encGPlanSeen a)),(3,.sl 0 3 0 j.1.length),(4,.lit (.int .i64 (j.2 : Int)))]) (fun j => [some (.rows 3 (fun x => (encGPlanSeen x).map AV.r) j.1)]) (fun j => lw_toPlanSeenS_K1 a j.1 j.2 = lw_toPlanSeenS a ∧ (j.2 : Int) ≤ (a.length : Int) ∧ j.1.length = a.length) (fun j => ((a.length : Int) - (j.2 : Int)).toNat) (?_,0) (Ent.places [.slot 3] _ (by simp only [go_sem,reduceCtorEq,Nat.reduceAdd,Nat.reduceSub,Nat.reduceMul,Nat.reduceLeDiff,Nat.reduceLT,Nat.reduceEqDiff];rfl) rfl rfl (Nat.zero_le _) ?_ ?_) ?_ ?_;rotate_left 4;(focus (rintro ⟨out,i⟩ ⟨hM,hI⟩;(try dsimp only at hM hI)));rotate_right 3)
      | (guard_hyp t13;refine Tri.loopN (ι := Nat) 4 rfl (fun j => mkR 27 [(0,.r (.rd 3 encGTableRange a)),(1,.r (.rd 3 encGTableRange b)),(5,.lit (.int .i64 (j : Int)))]) (fun j => []) (fun j => lw_eqTableRangeS_K1 a b j = lw_eqTableRangeS a b ∧ (j : Int) ≤ (a.length : Int)) (fun j => ((a.length : Int) - (j : Int)).toNat) 0 (Ent.places [] _ (by simp only [go_sem,reduceCtorEq,Nat.reduceAdd,Nat.reduceSub,Nat.reduceMul,Nat.reduceLeDiff,Nat.reduceLT,Nat.reduceEqDiff];rfl) rfl rfl (Nat.zero_le _) ?_ ?_) ?_ ?_;rotate_left 3;(focus (rintro i ⟨hM,hI⟩;(try dsimp only at hM hI)));rotate_right 3)
      | (guard_hyp t16;refine Tri.loopN (ι := Nat) 4 rfl (fun j => mkR 27 [(0,.r (.rd 3 encGPlanSeen a)),(1,.r (.rd 3 encGPlanSeen b)),(5,.lit (.int .i64 (j : Int)))]) (fun j => []) (fun j => lw_eqPlanSeenS_K1 a b j = lw_eqPlanSeenS a b ∧ (j : Int) ≤ (a.length : Int)) (fun j => ((a.length : Int) - (j : Int)).toNat) 0 (Ent.places [] _ (by simp only [go_sem,reduceCtorEq,Nat.reduceAdd,Nat.reduceSub,Nat.reduceMul,Nat.reduceLeDiff,Nat.reduceLT,Nat.reduceEqDiff];rfl) rfl rfl (Nat.zero_le _) ?_ ?_) ?_ ?_;rotate_left 3;(focus (rintro i ⟨hM,hI⟩;(try dsimp only at hM hI)));rotate_right 3)
      ); (focus (repeat' (first | simp only [z1, z2, z3, Nat.reduceEqDiff, Nat.reduceLT, not_false_eq_true] | exact z29 | refine z30 ?_ ?_ | exact z32 | refine z33 ?_ ?_ | refine z31 ?_ | exact z34 | refine z35 rfl ?_ ?_ | refine z36 ?_ | exact z13 | exact z14 | exact z15 | exact z16 | refine z17 ?_ | refine z18 rfl ?_ | refine z19 rfl ?_ ?_ | (show lτ _ _ = some _; exact rfl) | exact z21 rfl rfl | refine z21 rfl ?_ | refine z22 ?_ | refine z24 ?_ | exact z25 | refine z26 ?_ rfl rfl ?_ | refine z23 ?_ | refine z27 ?_ rfl rfl ?_ ?_ | refine z28 ?_ rfl rfl ?_ ?_ ?_ | exact True.intro | exact z4 rfl | exact z5 | exact z6 | exact z7 | exact z8 | exact z9 | exact z10 | refine z37 ?_ | refine z38 rfl ?_ | exact z39 | exact z40 | refine z41 (xs := ?_) (ys := ?_) ?_ ?_ | refine z42 (xs := ?_) (ys := ?_) ?_ ?_ ?_ ?_ | refine z43 (xs := ?_) ?_ | refine z44 (xs := ?_) ?_ | refine z45 (x := ?_) (xs := ?_) ?_ ?_ | refine RowsAre.rep (x := ?_) (n := ?_) ?_ | (with_reducible show RowIs _ _ _; first | exact GTableRange_row _ | exact GTableRange_mk _ _ _ | exact GTable_row _ | exact GTable_mk _ _ _ | exact GPlanSeen_row _ | exact GPlanSeen_mk _ _ _ | exact GPlan_row _ | exact GPlan_mk _ _ _ _ _ _ _ | exact GCmd_row _ | exact GCmd_mk _ _ _ _ _ _) | with_reducible exact rfl | (refine z11 ?_; omega) | (refine z12 ?_; omega) | simp only [List.length_append, List.length_map, List.length_cons, List.length_nil, List.length_set, List.length_replicate]))); (focus (repeat' (first | simp only [z1, z2, z3, Nat.reduceEqDiff, Nat.reduceLT, not_false_eq_true] | exact z29 | refine z30 ?_ ?_ | exact z32 | refine z33 ?_ ?_ | refine z31 ?_ | exact z34 | refine z35 rfl ?_ ?_ | refine z36 ?_ | exact z13 | exact z14 | exact z15 | exact z16 | refine z17 ?_ | refine z18 rfl ?_ | refine z19 rfl ?_ ?_ | (show lτ _ _ = some _; exact rfl) | exact z21 rfl rfl | refine z21 rfl ?_ | refine z22 ?_ | refine z24 ?_ | exact z25 | refine z26 ?_ rfl rfl ?_ | refine z23 ?_ | refine z27 ?_ rfl rfl ?_ ?_ | refine z28 ?_ rfl rfl ?_ ?_ ?_ | exact True.intro | exact z4 rfl | exact z5 | exact z6 | exact z7 | exact z8 | exact z9 | exact z10 | refine z37 ?_ | refine z38 rfl ?_ | exact z39 | exact z40 | refine z41 (xs := ?_) (ys := ?_) ?_ ?_ | refine z42 (xs := ?_) (ys := ?_) ?_ ?_ ?_ ?_ | refine z43 (xs := ?_) ?_ | refine z44 (xs := ?_) ?_ | refine z45 (x := ?_) (xs := ?_) ?_ ?_ | refine RowsAre.rep (x := ?_) (n := ?_) ?_ | (with_reducible show RowIs _ _ _; first | exact GTableRange_row _ | exact GTableRange_mk _ _ _ | exact GTable_row _ | exact GTable_mk _ _ _ | exact GPlanSeen_row _ | exact GPlanSeen_mk _ _ _ | exact GPlan_row _ | exact GPlan_mk _ _ _ _ _ _ _ | exact GCmd_row _ | exact GCmd_mk _ _ _ _ _ _) | with_reducible exact rfl | (refine z11 ?_; omega) | (refine z12 ?_; omega) | simp only [List.length_append, List.length_map, List.length_cons, List.length_nil, List.length_set, List.length_replicate]))); rotate_left 1)
    | ((first
      | (guard_hyp t6;refine backK (?_,(i + 1)) (Ent.places [.slot 3] _ (by simp only [go_sem,reduceCtorEq,Nat.reduceAdd,Nat.reduceSub,Nat.reduceMul,Nat.reduceLeDiff,Nat.reduceLT,Nat.reduceEqDiff];rfl) rfl rfl (Nat.zero_le _) ?_ ?_) ?_ ?_;rotate_left 1;rotate_left 3;(focus ((try dsimp only);omega));rotate_right 3)
      | (guard_hyp t9;refine backK (?_,(i + 1)) (Ent.places [.slot 3] _ (by simp only [go_sem,reduceCtorEq,Nat.reduceAdd,Nat.reduceSub,Nat.reduceMul,Nat.reduceLeDiff,Nat.reduceLT,Nat.reduceEqDiff];rfl) rfl rfl (Nat.zero_le _) ?_ ?_) ?_ ?_;rotate_left 1;rotate_left 3;(focus ((try dsimp only);omega));rotate_right 3)
      | (guard_hyp t13;refine backK (i + 1) (Ent.places [] _ (by simp only [go_sem,reduceCtorEq,Nat.reduceAdd,Nat.reduceSub,Nat.reduceMul,Nat.reduceLeDiff,Nat.reduceLT,Nat.reduceEqDiff];rfl) rfl rfl (Nat.zero_le _) ?_ ?_) ?_ ?_;rotate_left 3;(focus ((try dsimp only);omega));rotate_right 3)
      | (guard_hyp t16;refine backK (i + 1) (Ent.places [] _ (by simp only [go_sem,reduceCtorEq,Nat.reduceAdd,Nat.reduceSub,Nat.reduceMul,Nat.reduceLeDiff,Nat.reduceLT,Nat.reduceEqDiff];rfl) rfl rfl (Nat.zero_le _) ?_ ?_) ?_ ?_;rotate_left 3;(focus ((try dsimp only);omega));rotate_right 3)
      ); (focus (repeat' (first | simp only [z1, z2, z3, Nat.reduceEqDiff, Nat.reduceLT, not_false_eq_true] | exact z29 | refine z30 ?_ ?_ | exact z32 | refine z33 ?_ ?_ | refine z31 ?_ | exact z34 | refine z35 rfl ?_ ?_ | refine z36 ?_ | exact z13 | exact z14 | exact z15 | exact z16 | refine z17 ?_ | refine z18 rfl ?_ | refine z19 rfl ?_ ?_ | (show lτ _ _ = some _; exact rfl) | exact z21 rfl rfl | refine z21 rfl ?_ | refine z22 ?_ | refine z24 ?_ | exact z25 | refine z26 ?_ rfl rfl ?_ | refine z23 ?_ | refine z27 ?_ rfl rfl ?_ ?_ | refine z28 ?_ rfl rfl ?_ ?_ ?_ | exact True.intro | exact z4 rfl | exact z5 | exact z6 | exact z7 | exact z8 | exact z9 | exact z10 | refine z37 ?_ | refine z38 rfl ?_ | exact z39 | exact z40 | refine z41 (xs := ?_) (ys := ?_) ?_ ?_ | refine z42 (xs := ?_) (ys := ?_) ?_ ?_ ?_ ?_ | refine z43 (xs := ?_) ?_ | refine z44 (xs := ?_) ?_ | refine z45 (x := ?_) (xs := ?_) ?_ ?_ | refine RowsAre.rep (x := ?_) (n := ?_) ?_ | (with_reducible show RowIs _ _ _; first | exact GTableRange_row _ | exact GTableRange_mk _ _ _ | exact GTable_row _ | exact GTable_mk _ _ _ | exact GPlanSeen_row _ | exact GPlanSeen_mk _ _ _ | exact GPlan_row _ | exact GPlan_mk _ _ _ _ _ _ _ | exact GCmd_row _ | exact GCmd_mk _ _ _ _ _ _) | with_reducible exact rfl | (refine z11 ?_; omega) | (refine z12 ?_; omega) | simp only [List.length_append, List.length_map, List.length_cons, List.length_nil, List.length_set, List.length_replicate]))); (focus (repeat' (first | simp only [z1, z2, z3, Nat.reduceEqDiff, Nat.reduceLT, not_false_eq_true] | exact z29 | refine z30 ?_ ?_ | exact z32 | refine z33 ?_ ?_ | refine z31 ?_ | exact z34 | refine z35 rfl ?_ ?_ | refine z36 ?_ | exact z13 | exact z14 | exact z15 | exact z16 | refine z17 ?_ | refine z18 rfl ?_ | refine z19 rfl ?_ ?_ | (show lτ _ _ = some _; exact rfl) | exact z21 rfl rfl | refine z21 rfl ?_ | refine z22 ?_ | refine z24 ?_ | exact z25 | refine z26 ?_ rfl rfl ?_ | refine z23 ?_ | refine z27 ?_ rfl rfl ?_ ?_ | refine z28 ?_ rfl rfl ?_ ?_ ?_ | exact True.intro | exact z4 rfl | exact z5 | exact z6 | exact z7 | exact z8 | exact z9 | exact z10 | refine z37 ?_ | refine z38 rfl ?_ | exact z39 | exact z40 | refine z41 (xs := ?_) (ys := ?_) ?_ ?_ | refine z42 (xs := ?_) (ys := ?_) ?_ ?_ ?_ ?_ | refine z43 (xs := ?_) ?_ | refine z44 (xs := ?_) ?_ | refine z45 (x := ?_) (xs := ?_) ?_ ?_ | refine RowsAre.rep (x := ?_) (n := ?_) ?_ | (with_reducible show RowIs _ _ _; first | exact GTableRange_row _ | exact GTableRange_mk _ _ _ | exact GTable_row _ | exact GTable_mk _ _ _ | exact GPlanSeen_row _ | exact GPlanSeen_mk _ _ _ | exact GPlan_row _ | exact GPlan_mk _ _ _ _ _ _ _ | exact GCmd_row _ | exact GCmd_mk _ _ _ _ _ _) | with_reducible exact rfl | (refine z11 ?_; omega) | (refine z12 ?_; omega) | simp only [List.length_append, List.length_map, List.length_cons, List.length_nil, List.length_set, List.length_replicate]))))
    | ((first
      | (guard_hyp t6;refine backK (?_,(i + 1)) (Ent.places [.slot 3] _ (by simp only [go_sem,reduceCtorEq,Nat.reduceAdd,Nat.reduceSub,Nat.reduceMul,Nat.reduceLeDiff,Nat.reduceLT,Nat.reduceEqDiff];rfl) rfl rfl (Nat.zero_le _) ?_ ?_) ?_ ?_;rotate_left 1)
      | (guard_hyp t9;refine backK (?_,(i + 1)) (Ent.places [.slot 3] _ (by simp only [go_sem,reduceCtorEq,Nat.reduceAdd,Nat.reduceSub,Nat.reduceMul,Nat.reduceLeDiff,Nat.reduceLT,Nat.reduceEqDiff];rfl) rfl rfl (Nat.zero_le _) ?_ ?_) ?_ ?_;rotate_left 1)
      | (guard_hyp t13;refine backK (i + 1) (Ent.places [] _ (by simp only [go_sem,reduceCtorEq,Nat.reduceAdd,Nat.reduceSub,Nat.reduceMul,Nat.reduceLeDiff,Nat.reduceLT,Nat.reduceEqDiff];rfl) rfl rfl (Nat.zero_le _) ?_ ?_) ?_ ?_)
      | (guard_hyp t16;refine backK (i + 1) (Ent.places [] _ (by simp only [go_sem,reduceCtorEq,Nat.reduceAdd,Nat.reduceSub,Nat.reduceMul,Nat.reduceLeDiff,Nat.reduceLT,Nat.reduceEqDiff];rfl) rfl rfl (Nat.zero_le _) ?_ ?_) ?_ ?_)
      ); (focus (repeat' (first | simp only [z1, z2, z3, Nat.reduceEqDiff, Nat.reduceLT, not_false_eq_true] | exact z29 | refine z30 ?_ ?_ | exact z32 | refine z33 ?_ ?_ | refine z31 ?_ | exact z34 | refine z35 rfl ?_ ?_ | refine z36 ?_ | exact z13 | exact z14 | exact z15 | exact z16 | refine z17 ?_ | refine z18 rfl ?_ | refine z19 rfl ?_ ?_ | (show lτ _ _ = some _; exact rfl) | exact z21 rfl rfl | refine z21 rfl ?_ | refine z22 ?_ | refine z24 ?_ | exact z25 | refine z26 ?_ rfl rfl ?_ | refine z23 ?_ | refine z27 ?_ rfl rfl ?_ ?_ | refine z28 ?_ rfl rfl ?_ ?_ ?_ | exact True.intro | exact z4 rfl | exact z5 | exact z6 | exact z7 | exact z8 | exact z9 | exact z10 | refine z37 ?_ | refine z38 rfl ?_ | exact z39 | exact z40 | refine z41 (xs := ?_) (ys := ?_) ?_ ?_ | refine z42 (xs := ?_) (ys := ?_) ?_ ?_ ?_ ?_ | refine z43 (xs := ?_) ?_ | refine z44 (xs := ?_) ?_ | refine z45 (x := ?_) (xs := ?_) ?_ ?_ | refine RowsAre.rep (x := ?_) (n := ?_) ?_ | (with_reducible show RowIs _ _ _; first | exact GTableRange_row _ | exact GTableRange_mk _ _ _ | exact GTable_row _ | exact GTable_mk _ _ _ | exact GPlanSeen_row _ | exact GPlanSeen_mk _ _ _ | exact GPlan_row _ | exact GPlan_mk _ _ _ _ _ _ _ | exact GCmd_row _ | exact GCmd_mk _ _ _ _ _ _) | with_reducible exact rfl | (refine z11 ?_; omega) | (refine z12 ?_; omega) | simp only [List.length_append, List.length_map, List.length_cons, List.length_nil, List.length_set, List.length_replicate]))); (focus (repeat' (first | simp only [z1, z2, z3, Nat.reduceEqDiff, Nat.reduceLT, not_false_eq_true] | exact z29 | refine z30 ?_ ?_ | exact z32 | refine z33 ?_ ?_ | refine z31 ?_ | exact z34 | refine z35 rfl ?_ ?_ | refine z36 ?_ | exact z13 | exact z14 | exact z15 | exact z16 | refine z17 ?_ | refine z18 rfl ?_ | refine z19 rfl ?_ ?_ | (show lτ _ _ = some _; exact rfl) | exact z21 rfl rfl | refine z21 rfl ?_ | refine z22 ?_ | refine z24 ?_ | exact z25 | refine z26 ?_ rfl rfl ?_ | refine z23 ?_ | refine z27 ?_ rfl rfl ?_ ?_ | refine z28 ?_ rfl rfl ?_ ?_ ?_ | exact True.intro | exact z4 rfl | exact z5 | exact z6 | exact z7 | exact z8 | exact z9 | exact z10 | refine z37 ?_ | refine z38 rfl ?_ | exact z39 | exact z40 | refine z41 (xs := ?_) (ys := ?_) ?_ ?_ | refine z42 (xs := ?_) (ys := ?_) ?_ ?_ ?_ ?_ | refine z43 (xs := ?_) ?_ | refine z44 (xs := ?_) ?_ | refine z45 (x := ?_) (xs := ?_) ?_ ?_ | refine RowsAre.rep (x := ?_) (n := ?_) ?_ | (with_reducible show RowIs _ _ _; first | exact GTableRange_row _ | exact GTableRange_mk _ _ _ | exact GTable_row _ | exact GTable_mk _ _ _ | exact GPlanSeen_row _ | exact GPlanSeen_mk _ _ _ | exact GPlan_row _ | exact GPlan_mk _ _ _ _ _ _ _ | exact GCmd_row _ | exact GCmd_mk _ _ _ _ _ _) | with_reducible exact rfl | (refine z11 ?_; omega) | (refine z12 ?_; omega) | simp only [List.length_append, List.length_map, List.length_cons, List.length_nil, List.length_set, List.length_replicate]))); rotate_left 1; (focus ((try dsimp only); first | omega | (simp only [List.length_set, List.length_append, List.length_cons, List.length_nil]; omega))))
    | ((first
      | (guard_hyp t0;refine EndK.eqv (vs := ?_) (f := fun x : Int => .lit (.int .i64 x)) ?_ (by first|exact .inr rfl|exact .inl rfl) ?_ ?_ ?_;rotate_left 2)
      | (guard_hyp t1;refine EndK.eqv (vs := ?_) (f := fun x : Int => .lit (.int .i64 x)) ?_ (by first|exact .inr rfl|exact .inl rfl) ?_ ?_ ?_;rotate_left 2)
      | (guard_hyp t2;refine EndK.eqv (vs := ?_) (f := fun x : Int => .lit (.int .i64 x)) ?_ (by first|exact .inr rfl|exact .inl rfl) ?_ ?_ ?_;rotate_left 2)
      | (guard_hyp t3;refine EndK.eqv (vs := ?_) (f := fun x : Int => .lit (.int .i64 x)) ?_ (by first|exact .inr rfl|exact .inl rfl) ?_ ?_ ?_;rotate_left 2)
      | (guard_hyp t4;refine EndK.eqv (vs := ?_) (f := fun x : Int => .lit (.int .i64 x)) ?_ (by first|exact .inr rfl|exact .inl rfl) ?_ ?_ ?_;rotate_left 2)
      | (guard_hyp t5;refine EndK.eqv (vs := ?_) (f := fun x : GTableRange => .agg [.lit (.int .i64 x.Lo),.lit (.int .i64 x.Hi),.lit (.int .i64 x.Node)]) ⟨?_,?_,?_⟩ (by first|exact .inr rfl|exact .inl rfl) ?_ ?_ ?_;rotate_left 4)
      | (guard_hyp t8;refine EndK.eqv (vs := ?_) (f := fun x : GPlanSeen => .agg [.lit (.int .i64 x.Session),.lit (.int .i64 x.Call),.lit (.int .i64 x.Code)]) ⟨?_,?_,?_⟩ (by first|exact .inr rfl|exact .inl rfl) ?_ ?_ ?_;rotate_left 4)
      | (guard_hyp t11;refine EndK.eqv (vs := ?_) (f := fun x : GCmd => .agg [.lit (.int .i64 x.Kind),.lit (.int .i64 x.Session),.lit (.int .i64 x.Call),.lit (.int .i64 x.At),.lit (.int .i64 x.To),.lit (.string x.Text)]) ⟨?_,?_,?_,?_,?_,?_⟩ (by first|exact .inr rfl|exact .inl rfl) ?_ ?_ ?_;rotate_left 7)
      | (guard_hyp t12;refine EndK.eqv (vs := ?_) (f := fun x : Bool => .lit (.bool x)) ?_ (by first|exact .inr rfl|exact .inl rfl) ?_ ?_ ?_;rotate_left 2)
      | (guard_hyp t13;refine EndK.eqv (vs := ?_) (f := fun x : Bool => .lit (.bool x)) ?_ (by first|exact .inr rfl|exact .inl rfl) ?_ ?_ ?_;rotate_left 2)
      | (guard_hyp t14;refine EndK.eqv (vs := ?_) (f := fun x : Bool => .lit (.bool x)) ?_ (by first|exact .inr rfl|exact .inl rfl) ?_ ?_ ?_;rotate_left 2)
      | (guard_hyp t15;refine EndK.eqv (vs := ?_) (f := fun x : Bool => .lit (.bool x)) ?_ (by first|exact .inr rfl|exact .inl rfl) ?_ ?_ ?_;rotate_left 2)
      | (guard_hyp t16;refine EndK.eqv (vs := ?_) (f := fun x : Bool => .lit (.bool x)) ?_ (by first|exact .inr rfl|exact .inl rfl) ?_ ?_ ?_;rotate_left 2)
      | (guard_hyp t17;refine EndK.eqv (vs := ?_) (f := fun x : Bool => .lit (.bool x)) ?_ (by first|exact .inr rfl|exact .inl rfl) ?_ ?_ ?_;rotate_left 2)
      ); (focus (simp only [go_sem, reduceCtorEq, Nat.reduceAdd, Nat.reduceSub, Nat.reduceMul, Nat.reduceLeDiff, Nat.reduceLT, Nat.reduceEqDiff]; exact rfl)); (focus (repeat' (first | simp only [z1, z2, z3, Nat.reduceEqDiff, Nat.reduceLT, not_false_eq_true] | exact z29 | refine z30 ?_ ?_ | exact z32 | refine z33 ?_ ?_ | refine z31 ?_ | exact z34 | refine z35 rfl ?_ ?_ | refine z36 ?_ | exact z13 | exact z14 | exact z15 | exact z16 | refine z17 ?_ | refine z18 rfl ?_ | refine z19 rfl ?_ ?_ | (show lτ _ _ = some _; exact rfl) | exact z21 rfl rfl | refine z21 rfl ?_ | refine z22 ?_ | refine z24 ?_ | exact z25 | refine z26 ?_ rfl rfl ?_ | refine z23 ?_ | refine z27 ?_ rfl rfl ?_ ?_ | refine z28 ?_ rfl rfl ?_ ?_ ?_ | exact True.intro | exact z4 rfl | exact z5 | exact z6 | exact z7 | exact z8 | exact z9 | exact z10 | refine z37 ?_ | refine z38 rfl ?_ | exact z39 | exact z40 | refine z41 (xs := ?_) (ys := ?_) ?_ ?_ | refine z42 (xs := ?_) (ys := ?_) ?_ ?_ ?_ ?_ | refine z43 (xs := ?_) ?_ | refine z44 (xs := ?_) ?_ | refine z45 (x := ?_) (xs := ?_) ?_ ?_ | refine RowsAre.rep (x := ?_) (n := ?_) ?_ | (with_reducible show RowIs _ _ _; first | exact GTableRange_row _ | exact GTableRange_mk _ _ _ | exact GTable_row _ | exact GTable_mk _ _ _ | exact GPlanSeen_row _ | exact GPlanSeen_mk _ _ _ | exact GPlan_row _ | exact GPlan_mk _ _ _ _ _ _ _ | exact GCmd_row _ | exact GCmd_mk _ _ _ _ _ _) | with_reducible exact rfl | (refine z11 ?_; omega) | (refine z12 ?_; omega) | simp only [List.length_append, List.length_map, List.length_cons, List.length_nil, List.length_set, List.length_replicate]))))
    | ((first
      | (guard_hyp t6;refine EndK.eqq (p := 0) (vs := ?_) (f := fun x : (List GTableRange) => .sl 0 3 0 x.length) (g := fun x : (List GTableRange) => [some (.rows 3 (fun q => (encGTableRange q).map AV.r) x)]) ?_ [?_] (by first|exact .inr rfl|exact .inl rfl) ?_ ?_ ?_ (by simp) ?_ ?_ ?_;rotate_left 3)
      | (guard_hyp t7;refine EndK.eqq (p := 0) (vs := ?_) (f := fun x : GTable => .agg [.lit (.int .i64 x.Epoch),.lit (.int .i64 x.Members),.sl 0 3 0 x.Ranges.length]) (g := fun x : GTable => [some (.rows 3 (fun q => (encGTableRange q).map AV.r) x.Ranges)]) ⟨?_,?_,?_⟩ [?_] (by first|exact .inr rfl|exact .inl rfl) ?_ ?_ ?_ (by simp) ?_ ?_ ?_;rotate_left 5)
      | (guard_hyp t9;refine EndK.eqq (p := 0) (vs := ?_) (f := fun x : (List GPlanSeen) => .sl 0 3 0 x.length) (g := fun x : (List GPlanSeen) => [some (.rows 3 (fun q => (encGPlanSeen q).map AV.r) x)]) ?_ [?_] (by first|exact .inr rfl|exact .inl rfl) ?_ ?_ ?_ (by simp) ?_ ?_ ?_;rotate_left 3)
      | (guard_hyp t10;refine EndK.eqq (p := 0) (vs := ?_) (f := fun x : GPlan => .agg [.lit (.int .i64 x.At),.lit (.int .i64 x.Table.Epoch),.lit (.int .i64 x.Table.Members),.sl 0 3 0 x.Table.Ranges.length,.sl 1 3 0 x.Seen.length,.lit (.int .i64 x.Old),.lit (.int .i64 x.New)]) (g := fun x : GPlan => [some (.rows 3 (fun q => (encGTableRange q).map AV.r) x.Table.Ranges),some (.rows 3 (fun q => (encGPlanSeen q).map AV.r) x.Seen)]) ⟨?_,⟨?_,?_,?_⟩,?_,?_,?_⟩ [?_,?_] (by first|exact .inr rfl|exact .inl rfl) ?_ ?_ ?_ (by simp) ?_ ?_ ?_;rotate_left 10)
      ); (focus (simp only [go_sem, reduceCtorEq, Nat.reduceAdd, Nat.reduceSub, Nat.reduceMul, Nat.reduceLeDiff, Nat.reduceLT, Nat.reduceEqDiff]; exact rfl)); rotate_left 3; (focus (repeat' (first | simp only [z1, z2, z3, Nat.reduceEqDiff, Nat.reduceLT, not_false_eq_true] | exact z29 | refine z30 ?_ ?_ | exact z32 | refine z33 ?_ ?_ | refine z31 ?_ | exact z34 | refine z35 rfl ?_ ?_ | refine z36 ?_ | exact z13 | exact z14 | exact z15 | exact z16 | refine z17 ?_ | refine z18 rfl ?_ | refine z20 rfl ?_ ?_ | (show lτ _ _ = some _; exact rfl) | exact z21 rfl rfl | refine z21 rfl ?_ | refine z22 ?_ | refine z24 ?_ | exact z25 | refine z26 ?_ rfl rfl ?_ | refine z23 ?_ | refine z27 ?_ rfl rfl ?_ ?_ | refine z28 ?_ rfl rfl ?_ ?_ ?_ | exact True.intro | exact z4 rfl | exact z5 | exact z6 | exact z7 | exact z8 | exact z9 | exact z10 | refine z37 ?_ | refine z38 rfl ?_ | exact z39 | exact z40 | refine z41 (xs := ?_) (ys := ?_) ?_ ?_ | refine z42 (xs := ?_) (ys := ?_) ?_ ?_ ?_ ?_ | refine z43 (xs := ?_) ?_ | refine z44 (xs := ?_) ?_ | refine z45 (x := ?_) (xs := ?_) ?_ ?_ | refine RowsAre.rep (x := ?_) (n := ?_) ?_ | (with_reducible show RowIs _ _ _; first | exact GTableRange_row _ | exact GTableRange_mk _ _ _ | exact GTable_row _ | exact GTable_mk _ _ _ | exact GPlanSeen_row _ | exact GPlanSeen_mk _ _ _ | exact GPlan_row _ | exact GPlan_mk _ _ _ _ _ _ _ | exact GCmd_row _ | exact GCmd_mk _ _ _ _ _ _) | with_reducible exact rfl | (refine z11 ?_; omega) | (refine z12 ?_; omega) | simp only [List.length_append, List.length_map, List.length_cons, List.length_nil, List.length_set, List.length_replicate]))); rotate_right 1; (focus (repeat' (first | simp only [z1, z2, z3, Nat.reduceEqDiff, Nat.reduceLT, not_false_eq_true] | exact z29 | refine z30 ?_ ?_ | exact z32 | refine z33 ?_ ?_ | refine z31 ?_ | exact z34 | refine z35 rfl ?_ ?_ | refine z36 ?_ | exact z13 | exact z14 | exact z15 | exact z16 | refine z17 ?_ | refine z18 rfl ?_ | refine z20 rfl ?_ ?_ | (show lτ _ _ = some _; exact rfl) | exact z21 rfl rfl | refine z21 rfl ?_ | refine z22 ?_ | refine z24 ?_ | exact z25 | refine z26 ?_ rfl rfl ?_ | refine z23 ?_ | refine z27 ?_ rfl rfl ?_ ?_ | refine z28 ?_ rfl rfl ?_ ?_ ?_ | exact True.intro | exact z4 rfl | exact z5 | exact z6 | exact z7 | exact z8 | exact z9 | exact z10 | refine z37 ?_ | refine z38 rfl ?_ | exact z39 | exact z40 | refine z41 (xs := ?_) (ys := ?_) ?_ ?_ | refine z42 (xs := ?_) (ys := ?_) ?_ ?_ ?_ ?_ | refine z43 (xs := ?_) ?_ | refine z44 (xs := ?_) ?_ | refine z45 (x := ?_) (xs := ?_) ?_ ?_ | refine RowsAre.rep (x := ?_) (n := ?_) ?_ | (with_reducible show RowIs _ _ _; first | exact GTableRange_row _ | exact GTableRange_mk _ _ _ | exact GTable_row _ | exact GTable_mk _ _ _ | exact GPlanSeen_row _ | exact GPlanSeen_mk _ _ _ | exact GPlan_row _ | exact GPlan_mk _ _ _ _ _ _ _ | exact GCmd_row _ | exact GCmd_mk _ _ _ _ _ _) | with_reducible exact rfl | (refine z11 ?_; omega) | (refine z12 ?_; omega) | simp only [List.length_append, List.length_map, List.length_cons, List.length_nil, List.length_set, List.length_replicate]))); (all_goals (try (with_reducible refine z50 ?_); try with_reducible exact rfl)); (all_goals (try (with_reducible refine z51 ?_); exact rfl))))
  all_goals (try clear h1); all_goals (try clear K1); all_goals (try clear hK); all_goals (try clear K); all_goals (try dsimp only); all_goals (try simp only [Bool.not_eq_false', Bool.not_eq_true', decide_eq_true_eq, decide_eq_false_iff_not] at *); all_goals (try simp only [GTableRange_eta, GTable_eta, GPlanSeen_eta, GPlan_eta, GCmd_eta] at *); all_goals (try clear lw_szTableRangeS_c); all_goals (try clear lw_szTable_c); all_goals (try clear lw_szPlanSeenS_c); all_goals (try clear lw_toTableRange_c); all_goals (try clear lw_toTableRangeS_c); all_goals (try clear lw_toPlanSeen_c); all_goals (try clear lw_toTable_c); all_goals (try clear lw_toPlanSeenS_c); all_goals (try clear lw_eqTableRange_c); all_goals (try clear lw_eqTableRangeS_c); all_goals (try clear lw_eqPlanSeen_c); all_goals (try clear lw_eqTable_c); all_goals (try clear lw_eqPlanSeenS_c)
  all_goals first
    | omega
    | (simp only [List.length_cons,List.length_nil,Nat.reduceAdd];done)
    | (simp only [List.length_set,List.length_append,List.length_cons,List.length_nil,List.length_map,List.length_take,List.length_drop];omega)
    | (obtain ⟨x,_,rfl⟩ := List.mem_map.1 (by assumption);rfl)
    | (obtain ⟨x,_,rfl⟩ := List.mem_map.1 (List.mem_of_mem_take (by assumption));rfl)
    | (obtain ⟨x,_,rfl⟩ := List.mem_map.1 (List.mem_of_mem_drop (List.mem_of_mem_take (by assumption)));rfl)
    | (simp (disch := omega) only [wr_id];omega)
    | (guard_hyp t0;first|(rw [lw_szTableRangeS];all_goals first|grind|(repeat' split) <;> first|rfl|grind))
    | (guard_hyp t1;first|(rw [lw_szTable];all_goals first|grind|(repeat' split) <;> first|rfl|grind))
    | (guard_hyp t2;first|(rw [lw_szPlanSeenS];all_goals first|grind|(repeat' split) <;> first|rfl|grind))
    | (guard_hyp t3;first|(rw [lw_szPlan];all_goals first|grind|(repeat' split) <;> first|rfl|grind))
    | (guard_hyp t4;first|(rw [lw_szCmd];all_goals first|grind|(repeat' split) <;> first|rfl|grind))
    | (guard_hyp t5;first|(rw [lw_toTableRange];all_goals first|grind|(repeat' split) <;> first|rfl|grind))
    | (guard_hyp t6;first|(rw [lw_toTableRangeS_K1,lw_toTableRangeS_L1] at hM;rw [lw_toTableRangeS_K1];all_goals grind)|(rw [lw_toTableRangeS_K1,lw_toTableRangeS_L1] at hM;grind)|(rw [lw_toTableRangeS];all_goals first|grind|(repeat' split) <;> first|rfl|grind))
    | (guard_hyp t7;first|(rw [lw_toTable];all_goals first|grind|(repeat' split) <;> first|rfl|grind))
    | (guard_hyp t8;first|(rw [lw_toPlanSeen];all_goals first|grind|(repeat' split) <;> first|rfl|grind))
    | (guard_hyp t9;first|(rw [lw_toPlanSeenS_K1,lw_toPlanSeenS_L1] at hM;rw [lw_toPlanSeenS_K1];all_goals grind)|(rw [lw_toPlanSeenS_K1,lw_toPlanSeenS_L1] at hM;grind)|(rw [lw_toPlanSeenS];all_goals first|grind|(repeat' split) <;> first|rfl|grind))
    | (guard_hyp t10;first|(rw [lw_toPlan];all_goals first|grind|(repeat' split) <;> first|rfl|grind))
    | (guard_hyp t11;first|(rw [lw_toCmd];all_goals first|grind|(repeat' split) <;> first|rfl|grind))
    | (guard_hyp t12;first|(rw [lw_eqTableRange];all_goals first|grind|(repeat' split) <;> first|rfl|grind))
    | (guard_hyp t13;first|(rw [lw_eqTableRangeS_K1,lw_eqTableRangeS_L1] at hM;rw [lw_eqTableRangeS_K1];all_goals grind)|(rw [lw_eqTableRangeS_K1,lw_eqTableRangeS_L1] at hM;grind)|(rw [lw_eqTableRangeS];all_goals first|grind|(repeat' split) <;> first|rfl|grind))
    | (guard_hyp t14;first|(rw [lw_eqTable];all_goals first|grind|(repeat' split) <;> first|rfl|grind))
    | (guard_hyp t15;first|(rw [lw_eqPlanSeen];all_goals first|grind|(repeat' split) <;> first|rfl|grind))
    | (guard_hyp t16;first|(rw [lw_eqPlanSeenS_K1,lw_eqPlanSeenS_L1] at hM;rw [lw_eqPlanSeenS_K1];all_goals grind)|(rw [lw_eqPlanSeenS_K1,lw_eqPlanSeenS_L1] at hM;grind)|(rw [lw_eqPlanSeenS];all_goals first|grind|(repeat' split) <;> first|rfl|grind))
    | (guard_hyp t17;first|(rw [lw_eqPlan];all_goals first|grind|(repeat' split) <;> first|rfl|grind))
    | grind)
theorem lw_szTableRangeS_c : Slw_szTableRangeS_c := layK11.1
theorem lw_szTable_c : Slw_szTable_c := layK11.2.1 lw_szTableRangeS_c
theorem lw_szPlanSeenS_c : Slw_szPlanSeenS_c := layK11.2.2.1
theorem lw_szPlan_c : Slw_szPlan_c := layK11.2.2.2.1 lw_szTable_c lw_szPlanSeenS_c
theorem lw_szCmd_c : Slw_szCmd_c := layK11.2.2.2.2.1
theorem lw_toTableRange_c : Slw_toTableRange_c := layK11.2.2.2.2.2.1
theorem lw_toTableRangeS_c : Slw_toTableRangeS_c := layK11.2.2.2.2.2.2.1 lw_toTableRange_c
theorem lw_toTable_c : Slw_toTable_c := layK11.2.2.2.2.2.2.2.1 lw_toTableRangeS_c
theorem lw_toPlanSeen_c : Slw_toPlanSeen_c := layK11.2.2.2.2.2.2.2.2.1
theorem lw_toPlanSeenS_c : Slw_toPlanSeenS_c := layK11.2.2.2.2.2.2.2.2.2.1 lw_toPlanSeen_c
theorem lw_toPlan_c : Slw_toPlan_c := layK11.2.2.2.2.2.2.2.2.2.2.1 lw_toTable_c lw_toPlanSeenS_c
theorem lw_toCmd_c : Slw_toCmd_c := layK11.2.2.2.2.2.2.2.2.2.2.2.1
theorem lw_eqTableRange_c : Slw_eqTableRange_c := layK11.2.2.2.2.2.2.2.2.2.2.2.2.1
theorem lw_eqTableRangeS_c : Slw_eqTableRangeS_c := layK11.2.2.2.2.2.2.2.2.2.2.2.2.2.1 lw_eqTableRange_c
theorem lw_eqTable_c : Slw_eqTable_c := layK11.2.2.2.2.2.2.2.2.2.2.2.2.2.2.1 lw_eqTableRangeS_c
theorem lw_eqPlanSeen_c : Slw_eqPlanSeen_c := layK11.2.2.2.2.2.2.2.2.2.2.2.2.2.2.2.1
theorem lw_eqPlanSeenS_c : Slw_eqPlanSeenS_c := layK11.2.2.2.2.2.2.2.2.2.2.2.2.2.2.2.2.1 lw_eqPlanSeen_c
theorem lw_eqPlan_c : Slw_eqPlan_c := layK11.2.2.2.2.2.2.2.2.2.2.2.2.2.2.2.2.2 lw_eqTable_c lw_eqPlanSeenS_c
theorem lw_toPlan_g (a : GPlan) (hp0 : a.Table.Ranges.length ≤ 2147483648) (hp1 : a.Seen.length ≤ 2147483648) : Gives Tryz.prog 12 [.agg [.lit (.int .i64 a.At), .lit (.int .i64 a.Table.Epoch), .lit (.int .i64 a.Table.Members), .r (.rd 3 encGTableRange a.Table.Ranges), .r (.rd 3 encGPlanSeen a.Seen), .lit (.int .i64 a.Old), .lit (.int .i64 a.New)]] (.agg [.lit (.int .i64 (lw_toPlan a).At), .lit (.int .i64 (lw_toPlan a).Table.Epoch), .lit (.int .i64 (lw_toPlan a).Table.Members), .r (.rd 3 encGTableRange (lw_toPlan a).Table.Ranges), .r (.rd 3 encGPlanSeen (lw_toPlan a).Seen), .lit (.int .i64 (lw_toPlan a).Old), .lit (.int .i64 (lw_toPlan a).New)]) := by
  refine Does.freeze (lw_toPlan_c a hp0 hp1) ?_
  repeat' (first | exact z29 | refine z30 ?_ ?_ | refine z22 ?_ | refine z23 ?_ | exact z14 | refine z27 trivial rfl rfl z39 rfl)
end Go.Proofs.YtlojldccjmkikaaGreat
