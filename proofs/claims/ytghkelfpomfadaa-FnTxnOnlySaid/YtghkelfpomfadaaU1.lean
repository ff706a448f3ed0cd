/- Contracts of the program on transactions and pairs, for lists whose lengths are bounded as stated. -/
import Derived.Test.YtghkelfpomfadaaG1
set_option linter.unusedVariables false
set_option linter.unusedSimpArgs false
namespace Go.Proofs.Ytghkelfpomfadaa
open Go.Ae
open Go.Ae renaming getR_eq → z1, getR_ne → z2, getR_nil → z3, lF_mk → z4, cont1 → z5, cont2a → z6, cont2b → z7, cont3a → z8, cont3b → z9, cont3c → z10, wr_up → z11, wr_dn → z12
open Go.Ae.VSub renaming any' → z13, same → z14, nilRd → z15, mtRd → z16, lit → z17, ptr' → z18, sl' → z19, slNil → z20, agg' → z21, tup' → z22, fn' → z23, rpSame → z24, rpF → z25, frz → z26, frzC → z27
open Go.Ae.LSub renaming nil' → z28, cons' → z29, mkR' → z30
open Go.Ae.SSub renaming nil' → z31, cons' → z32
open Go.Ae.HTell renaming nil' → z33, some' → z34, freshRows → z35
open Go.Ae.BSub renaming cells' → z36, own → z37
open Go.Ae.RowsAre renaming map → z38, nil → z39, app → z40, spl → z41, take → z42, drop → z43, cons → z44
open Go.Ae.CallA renaming gv0 → z45, lend → z46
set_option linter.unusedSimpArgs false
set_option linter.unusedVariables false
attribute [local irreducible] wr bitsOf VSub LSub SSub HTell BSub RowIs RowsAre Ent lF mkR
def im_in (n : Int) (low : Int) (high : Int) : Bool :=
  ((decide (n ≥ low)) && (decide (n ≤ high)))
def im_isKey (n : Int) : Bool :=
  (im_in n 0 39)
def im_isVal (n : Int) : Bool :=
  (im_in n (-99999) 99999)
def im_valOf_L1 (list : List GTxnPair) (key : Int) (ix1 : Nat) : Fl (Int) (Unit) :=
  if h0 : ((ix1 : Int) < (list.length : Int)) then
      let x := (list.getD ix1 default)
      if (x.Key = key) then
        .ret x.Val
      else 
        im_valOf_L1 list key (ix1 + 1)
  else .go ()
termination_by ((list.length : Int) - (ix1 : Int)).toNat
decreasing_by all_goals omega
def im_valOf_K1 (list : List GTxnPair) (key : Int) (ix1 : Nat) : Int :=
  match im_valOf_L1 list key ix1 with
  | .ret rr => rr
  | .go q =>
    0
def im_valOf (list : List GTxnPair) (key : Int) : Int :=
  let ix1 : Nat := 0
  im_valOf_K1 list key ix1
def im_pairsOk_1 (x : GTxnPair) : Bool :=
  ((!(im_isKey x.Key)) || (!(im_isVal x.Val)))
def im_keyOf (x : GTxnPair) : Int :=
  x.Key
def im_rising_TxnPair_f_im_keyOf_L1 (list : List GTxnPair) (i : Nat) : Fl (Bool) (Unit) :=
  if h0 : ((i : Int) < (list.length : Int)) then
      if ((im_keyOf (list.getD i default)) ≤ (im_keyOf (list.getD (wr .i64 ((i : Int) - 1)).toNat default))) then
        .ret false
      else 
        im_rising_TxnPair_f_im_keyOf_L1 list (i + 1)
  else .go ()
termination_by ((list.length : Int) - (i : Int)).toNat
decreasing_by all_goals omega
def im_rising_TxnPair_f_im_keyOf_K1 (list : List GTxnPair) (i : Nat) : Bool :=
  match im_rising_TxnPair_f_im_keyOf_L1 list i with
  | .ret rr => rr
  | .go q =>
    true
def im_rising_TxnPair_f_im_keyOf (list : List GTxnPair) : Bool :=
  let i : Nat := 1
  im_rising_TxnPair_f_im_keyOf_K1 list i
def slices_IndexFunc_TxnPair_f_im_pairsOk_1_L1 (s : List GTxnPair) (ix1 : Nat) : Fl (Int) (Unit) :=
  if h0 : ((ix1 : Int) < (s.length : Int)) then
      let i := (ix1 : Int)
      if ((im_pairsOk_1 (s.getD i.toNat default)) = true) then
        .ret i
      else 
        slices_IndexFunc_TxnPair_f_im_pairsOk_1_L1 s (ix1 + 1)
  else .go ()
termination_by ((s.length : Int) - (ix1 : Int)).toNat
decreasing_by all_goals omega
def slices_IndexFunc_TxnPair_f_im_pairsOk_1_K1 (s : List GTxnPair) (ix1 : Nat) : Int :=
  match slices_IndexFunc_TxnPair_f_im_pairsOk_1_L1 s ix1 with
  | .ret rr => rr
  | .go q =>
    (-1)
def slices_IndexFunc_TxnPair_f_im_pairsOk_1 (s : List GTxnPair) : Int :=
  let ix1 : Nat := 0
  slices_IndexFunc_TxnPair_f_im_pairsOk_1_K1 s ix1
def slices_ContainsFunc_TxnPair_f_im_pairsOk_1 (s : List GTxnPair) : Bool :=
  (decide ((slices_IndexFunc_TxnPair_f_im_pairsOk_1 s) ≥ 0))
def im_pairsOk (list : List GTxnPair) : Bool :=
  (((decide ((list.length : Int) ≤ 40)) && (im_rising_TxnPair_f_im_keyOf list)) && (!(slices_ContainsFunc_TxnPair_f_im_pairsOk_1 list)))
def im_TxnOk_1 (x : GTxnGuard) : Bool :=
  (((!(im_isKey x.Key)) || (!(im_isVal x.Least))) || (!(im_isVal x.Most)))
def im_TxnOk_2 (x : GTxnSum) : Bool :=
  (((!(im_isKey x.Key)) || ((x.From != (-1)) && (!(im_isKey x.From)))) || (!(im_isVal x.Add)))
def im_TxnOk_3 (k : Int) : Bool :=
  (!(im_isKey k))
def im_TxnOk_4 (x : GTxnGuard) : Int :=
  x.Key
def im_TxnOk_5 (x : GTxnSum) : Int :=
  x.Key
def im_own (n : Int) : Int :=
  n
def im_rising_TxnGuard_f_im_TxnOk_4_L1 (list : List GTxnGuard) (i : Nat) : Fl (Bool) (Unit) :=
  if h0 : ((i : Int) < (list.length : Int)) then
      if ((im_TxnOk_4 (list.getD i default)) ≤ (im_TxnOk_4 (list.getD (wr .i64 ((i : Int) - 1)).toNat default))) then
        .ret false
      else 
        im_rising_TxnGuard_f_im_TxnOk_4_L1 list (i + 1)
  else .go ()
termination_by ((list.length : Int) - (i : Int)).toNat
decreasing_by all_goals omega
def im_rising_TxnGuard_f_im_TxnOk_4_K1 (list : List GTxnGuard) (i : Nat) : Bool :=
  match im_rising_TxnGuard_f_im_TxnOk_4_L1 list i with
  | .ret rr => rr
  | .go q =>
    true
def im_rising_TxnGuard_f_im_TxnOk_4 (list : List GTxnGuard) : Bool :=
  let i : Nat := 1
  im_rising_TxnGuard_f_im_TxnOk_4_K1 list i
def im_rising_TxnSum_f_im_TxnOk_5_L1 (list : List GTxnSum) (i : Nat) : Fl (Bool) (Unit) :=
  if h0 : ((i : Int) < (list.length : Int)) then
      if ((im_TxnOk_5 (list.getD i default)) ≤ (im_TxnOk_5 (list.getD (wr .i64 ((i : Int) - 1)).toNat default))) then
        .ret false
      else 
        im_rising_TxnSum_f_im_TxnOk_5_L1 list (i + 1)
  else .go ()
termination_by ((list.length : Int) - (i : Int)).toNat
decreasing_by all_goals omega
def im_rising_TxnSum_f_im_TxnOk_5_K1 (list : List GTxnSum) (i : Nat) : Bool :=
  match im_rising_TxnSum_f_im_TxnOk_5_L1 list i with
  | .ret rr => rr
  | .go q =>
    true
def im_rising_TxnSum_f_im_TxnOk_5 (list : List GTxnSum) : Bool :=
  let i : Nat := 1
  im_rising_TxnSum_f_im_TxnOk_5_K1 list i
def im_rising_int_f_im_own_L1 (list : List Int) (i : Nat) : Fl (Bool) (Unit) :=
  if h0 : ((i : Int) < (list.length : Int)) then
      if ((im_own (list.getD i default)) ≤ (im_own (list.getD (wr .i64 ((i : Int) - 1)).toNat default))) then
        .ret false
      else 
        im_rising_int_f_im_own_L1 list (i + 1)
  else .go ()
termination_by ((list.length : Int) - (i : Int)).toNat
decreasing_by all_goals omega
def im_rising_int_f_im_own_K1 (list : List Int) (i : Nat) : Bool :=
  match im_rising_int_f_im_own_L1 list i with
  | .ret rr => rr
  | .go q =>
    true
def im_rising_int_f_im_own (list : List Int) : Bool :=
  let i : Nat := 1
  im_rising_int_f_im_own_K1 list i
def slices_IndexFunc_TxnGuard_f_im_TxnOk_1_L1 (s : List GTxnGuard) (ix1 : Nat) : Fl (Int) (Unit) :=
  if h0 : ((ix1 : Int) < (s.length : Int)) then
      let i := (ix1 : Int)
      if ((im_TxnOk_1 (s.getD i.toNat default)) = true) then
        .ret i
      else 
        slices_IndexFunc_TxnGuard_f_im_TxnOk_1_L1 s (ix1 + 1)
  else .go ()
termination_by ((s.length : Int) - (ix1 : Int)).toNat
decreasing_by all_goals omega
def slices_IndexFunc_TxnGuard_f_im_TxnOk_1_K1 (s : List GTxnGuard) (ix1 : Nat) : Int :=
  match slices_IndexFunc_TxnGuard_f_im_TxnOk_1_L1 s ix1 with
  | .ret rr => rr
  | .go q =>
    (-1)
def slices_IndexFunc_TxnGuard_f_im_TxnOk_1 (s : List GTxnGuard) : Int :=
  let ix1 : Nat := 0
  slices_IndexFunc_TxnGuard_f_im_TxnOk_1_K1 s ix1
def slices_ContainsFunc_TxnGuard_f_im_TxnOk_1 (s : List GTxnGuard) : Bool :=
  (decide ((slices_IndexFunc_TxnGuard_f_im_TxnOk_1 s) ≥ 0))
def slices_IndexFunc_TxnSum_f_im_TxnOk_2_L1 (s : List GTxnSum) (ix1 : Nat) : Fl (Int) (Unit) :=
  if h0 : ((ix1 : Int) < (s.length : Int)) then
      let i := (ix1 : Int)
      if ((im_TxnOk_2 (s.getD i.toNat default)) = true) then
        .ret i
      else 
        slices_IndexFunc_TxnSum_f_im_TxnOk_2_L1 s (ix1 + 1)
  else .go ()
termination_by ((s.length : Int) - (ix1 : Int)).toNat
decreasing_by all_goals omega
def slices_IndexFunc_TxnSum_f_im_TxnOk_2_K1 (s : List GTxnSum) (ix1 : Nat) : Int :=
  match slices_IndexFunc_TxnSum_f_im_TxnOk_2_L1 s ix1 with
  | .ret rr => rr
  | .go q =>
    (-1)
def slices_IndexFunc_TxnSum_f_im_TxnOk_2 (s : List GTxnSum) : Int :=
  let ix1 : Nat := 0
  slices_IndexFunc_TxnSum_f_im_TxnOk_2_K1 s ix1
def slices_ContainsFunc_TxnSum_f_im_TxnOk_2 (s : List GTxnSum) : Bool :=
  (decide ((slices_IndexFunc_TxnSum_f_im_TxnOk_2 s) ≥ 0))
def slices_IndexFunc_int_f_im_TxnOk_3_L1 (s : List Int) (ix1 : Nat) : Fl (Int) (Unit) :=
  if h0 : ((ix1 : Int) < (s.length : Int)) then
      let i := (ix1 : Int)
      if ((im_TxnOk_3 (s.getD i.toNat default)) = true) then
        .ret i
      else 
        slices_IndexFunc_int_f_im_TxnOk_3_L1 s (ix1 + 1)
  else .go ()
termination_by ((s.length : Int) - (ix1 : Int)).toNat
decreasing_by all_goals omega
def slices_IndexFunc_int_f_im_TxnOk_3_K1 (s : List Int) (ix1 : Nat) : Int :=
  match slices_IndexFunc_int_f_im_TxnOk_3_L1 s ix1 with
  | .ret rr => rr
  | .go q =>
    (-1)
def slices_IndexFunc_int_f_im_TxnOk_3 (s : List Int) : Int :=
  let ix1 : Nat := 0
  slices_IndexFunc_int_f_im_TxnOk_3_K1 s ix1
def slices_ContainsFunc_int_f_im_TxnOk_3 (s : List Int) : Bool :=
  (decide ((slices_IndexFunc_int_f_im_TxnOk_3 s) ≥ 0))
def im_TxnOk (t : GTxn) : Bool :=
  let q0 := (t.Guards.length : Int)
  let q1 := (t.Writes.length : Int)
  let q2 := (t.Reads.length : Int)
  let g := q0
  let w := q1
  let r := q2
  if (((if r > (if w > g then w else g) then r else (if w > g then w else g)) > 4) ∨ ((wr .i64 ((wr .i64 (g + w)) + r)) = 0)) then
    false
  else 
    if ((((slices_ContainsFunc_TxnGuard_f_im_TxnOk_1 t.Guards) = true) ∨ ((slices_ContainsFunc_TxnSum_f_im_TxnOk_2 t.Writes) = true)) ∨ ((slices_ContainsFunc_int_f_im_TxnOk_3 t.Reads) = true)) then
      false
    else 
      (((im_rising_TxnGuard_f_im_TxnOk_4 t.Guards) && (im_rising_TxnSum_f_im_TxnOk_5 t.Writes)) && (im_rising_int_f_im_own t.Reads))
def im_TxnRun_L1 (t : GTxn) (vals : List GTxnPair) (ix1 : Nat) : Fl ((List GTxnPair) × Int × (List Int)) (Unit) :=
  if h0 : ((ix1 : Int) < (t.Guards.length : Int)) then
      let g := (t.Guards.getD ix1 default)
      if ((im_in (im_valOf vals g.Key) g.Least g.Most) = false) then
        .ret ([], 1, [])
      else 
        im_TxnRun_L1 t vals (ix1 + 1)
  else .go ()
termination_by ((t.Guards.length : Int) - (ix1 : Int)).toNat
decreasing_by all_goals omega
def im_TxnRun_L2 (t : GTxn) (vals : List GTxnPair) (writes : List GTxnPair) (ix2 : Nat) : Fl ((List GTxnPair) × Int × (List Int)) ((List GTxnPair)) :=
  if h0 : ((ix2 : Int) < (t.Writes.length : Int)) then
      let w := (t.Writes.getD ix2 default)
      let n := w.Add
      let q := if (w.From ≥ 0) then
          let n := (wr .i64 (n + (im_valOf vals w.From)))
          n
        else 
          n
      let n := q
      if ((im_isVal n) = false) then
        .ret ([], 2, [])
      else 
        let writes := (writes ++ [(⟨w.Key, n⟩ : GTxnPair)])
        im_TxnRun_L2 t vals writes (ix2 + 1)
  else .go writes
termination_by ((t.Writes.length : Int) - (ix2 : Int)).toNat
decreasing_by all_goals omega
def im_TxnRun_L3 (t : GTxn) (vals : List GTxnPair) (reads : List Int) (ix3 : Nat) : (List Int) :=
  if h0 : ((ix3 : Int) < (t.Reads.length : Int)) then
      let k := (t.Reads.getD ix3 default)
      let reads := (reads ++ [(im_valOf vals k)])
      im_TxnRun_L3 t vals reads (ix3 + 1)
  else reads
termination_by ((t.Reads.length : Int) - (ix3 : Int)).toNat
decreasing_by all_goals omega
def im_TxnRun_K3 (t : GTxn) (vals : List GTxnPair) (writes : List GTxnPair) (reads : List Int) (ix3 : Nat) : (List GTxnPair) × Int × (List Int) :=
  let q := im_TxnRun_L3 t vals reads ix3
  let reads := q
  (writes, 0, reads)
def im_TxnRun_K2 (t : GTxn) (vals : List GTxnPair) (writes : List GTxnPair) (ix2 : Nat) : (List GTxnPair) × Int × (List Int) :=
  match im_TxnRun_L2 t vals writes ix2 with
  | .ret rr => rr
  | .go q =>
    let writes := q
    let reads : List Int := []
    let ix3 : Nat := 0
    im_TxnRun_K3 t vals writes reads ix3
def im_TxnRun_K1 (t : GTxn) (vals : List GTxnPair) (ix1 : Nat) : (List GTxnPair) × Int × (List Int) :=
  match im_TxnRun_L1 t vals ix1 with
  | .ret rr => rr
  | .go q =>
    let writes : List GTxnPair := []
    let ix2 : Nat := 0
    im_TxnRun_K2 t vals writes ix2
def im_TxnRun (t : GTxn) (vals : List GTxnPair) : (List GTxnPair) × Int × (List Int) :=
  if (((im_TxnOk t) = false) ∨ ((im_pairsOk vals) = false)) then
    ([], 10, [])
  else 
    let ix1 : Nat := 0
    im_TxnRun_K1 t vals ix1
def Sim_in_c : Prop := ∀ (n : Int) (low : Int) (high : Int), Gives Try.prog 28 [.lit (.int .i64 n), .lit (.int .i64 low), .lit (.int .i64 high)] (.lit (.bool (im_in n low high)))
def Sim_isKey_c : Prop := ∀ (n : Int), Gives Try.prog 35 [.lit (.int .i64 n)] (.lit (.bool (im_isKey n)))
def Sim_isVal_c : Prop := ∀ (n : Int), Gives Try.prog 30 [.lit (.int .i64 n)] (.lit (.bool (im_isVal n)))
def Sim_valOf_c : Prop := ∀ (list : List GTxnPair) (key : Int) (hp0 : list.length ≤ 2147483648), Gives Try.prog 29 [.r (.rd 2 encGTxnPair list), .lit (.int .i64 key)] (.lit (.int .i64 (im_valOf list key)))
def Sim_pairsOk_1_c : Prop := ∀ (x : GTxnPair), Gives Try.prog 50 [.agg [.lit (.int .i64 x.Key), .lit (.int .i64 x.Val)]] (.lit (.bool (im_pairsOk_1 x)))
def Sim_keyOf_c : Prop := ∀ (x : GTxnPair), Gives Try.prog 52 [.agg [.lit (.int .i64 x.Key), .lit (.int .i64 x.Val)]] (.lit (.int .i64 (im_keyOf x)))
def Sim_rising_TxnPair_f_im_keyOf_c : Prop := ∀ (list : List GTxnPair) (hp0 : list.length ≤ 2147483648), Gives Try.prog 51 [.r (.rd 2 encGTxnPair list), .fn 52 []] (.lit (.bool (im_rising_TxnPair_f_im_keyOf list)))
def Sslices_IndexFunc_TxnPair_f_im_pairsOk_1_c : Prop := ∀ (s : List GTxnPair) (hp0 : s.length ≤ 2147483648), Gives Try.prog 70 [.r (.rd 2 encGTxnPair s), .fn 50 []] (.lit (.int .i64 (slices_IndexFunc_TxnPair_f_im_pairsOk_1 s)))
def Sslices_ContainsFunc_TxnPair_f_im_pairsOk_1_c : Prop := ∀ (s : List GTxnPair) (hp0 : s.length ≤ 2147483648), Gives Try.prog 53 [.r (.rd 2 encGTxnPair s), .fn 50 []] (.lit (.bool (slices_ContainsFunc_TxnPair_f_im_pairsOk_1 s)))
def Sim_pairsOk_c : Prop := ∀ (list : List GTxnPair) (hp0 : list.length ≤ 2147483648), Gives Try.prog 27 [.r (.rd 2 encGTxnPair list)] (.lit (.bool (im_pairsOk list)))
def Sim_TxnOk_1_c : Prop := ∀ (x : GTxnGuard), Gives Try.prog 34 [.agg [.lit (.int .i64 x.Key), .lit (.int .i64 x.Least), .lit (.int .i64 x.Most)]] (.lit (.bool (im_TxnOk_1 x)))
def Sim_TxnOk_2_c : Prop := ∀ (x : GTxnSum), Gives Try.prog 36 [.agg [.lit (.int .i64 x.Key), .lit (.int .i64 x.From), .lit (.int .i64 x.Add)]] (.lit (.bool (im_TxnOk_2 x)))
def Sim_TxnOk_3_c : Prop := ∀ (k : Int), Gives Try.prog 40 [.lit (.int .i64 k)] (.lit (.bool (im_TxnOk_3 k)))
def Sim_TxnOk_4_c : Prop := ∀ (x : GTxnGuard), Gives Try.prog 42 [.agg [.lit (.int .i64 x.Key), .lit (.int .i64 x.Least), .lit (.int .i64 x.Most)]] (.lit (.int .i64 (im_TxnOk_4 x)))
def Sim_TxnOk_5_c : Prop := ∀ (x : GTxnSum), Gives Try.prog 44 [.agg [.lit (.int .i64 x.Key), .lit (.int .i64 x.From), .lit (.int .i64 x.Add)]] (.lit (.int .i64 (im_TxnOk_5 x)))
def Sim_own_c : Prop := ∀ (n : Int), Gives Try.prog 46 [.lit (.int .i64 n)] (.lit (.int .i64 (im_own n)))
def Sim_rising_TxnGuard_f_im_TxnOk_4_c : Prop := ∀ (list : List GTxnGuard) (hp0 : list.length ≤ 2147483648), Gives Try.prog 41 [.r (.rd 3 encGTxnGuard list), .fn 42 []] (.lit (.bool (im_rising_TxnGuard_f_im_TxnOk_4 list)))
def Sim_rising_TxnSum_f_im_TxnOk_5_c : Prop := ∀ (list : List GTxnSum) (hp0 : list.length ≤ 2147483648), Gives Try.prog 43 [.r (.rd 3 encGTxnSum list), .fn 44 []] (.lit (.bool (im_rising_TxnSum_f_im_TxnOk_5 list)))
def Sim_rising_int_f_im_own_c : Prop := ∀ (list : List Int) (hp0 : list.length ≤ 2147483648), Gives Try.prog 45 [.r (.rd 1 encInt list), .fn 46 []] (.lit (.bool (im_rising_int_f_im_own list)))
def Sslices_IndexFunc_TxnGuard_f_im_TxnOk_1_c : Prop := ∀ (s : List GTxnGuard) (hp0 : s.length ≤ 2147483648), Gives Try.prog 56 [.r (.rd 3 encGTxnGuard s), .fn 34 []] (.lit (.int .i64 (slices_IndexFunc_TxnGuard_f_im_TxnOk_1 s)))
def Sslices_ContainsFunc_TxnGuard_f_im_TxnOk_1_c : Prop := ∀ (s : List GTxnGuard) (hp0 : s.length ≤ 2147483648), Gives Try.prog 37 [.r (.rd 3 encGTxnGuard s), .fn 34 []] (.lit (.bool (slices_ContainsFunc_TxnGuard_f_im_TxnOk_1 s)))
def Sslices_IndexFunc_TxnSum_f_im_TxnOk_2_c : Prop := ∀ (s : List GTxnSum) (hp0 : s.length ≤ 2147483648), Gives Try.prog 57 [.r (.rd 3 encGTxnSum s), .fn 36 []] (.lit (.int .i64 (slices_IndexFunc_TxnSum_f_im_TxnOk_2 s)))
def Sslices_ContainsFunc_TxnSum_f_im_TxnOk_2_c : Prop := ∀ (s : List GTxnSum) (hp0 : s.length ≤ 2147483648), Gives Try.prog 38 [.r (.rd 3 encGTxnSum s), .fn 36 []] (.lit (.bool (slices_ContainsFunc_TxnSum_f_im_TxnOk_2 s)))
def Sslices_IndexFunc_int_f_im_TxnOk_3_c : Prop := ∀ (s : List Int) (hp0 : s.length ≤ 2147483648), Gives Try.prog 58 [.r (.rd 1 encInt s), .fn 40 []] (.lit (.int .i64 (slices_IndexFunc_int_f_im_TxnOk_3 s)))
def Sslices_ContainsFunc_int_f_im_TxnOk_3_c : Prop := ∀ (s : List Int) (hp0 : s.length ≤ 2147483648), Gives Try.prog 39 [.r (.rd 1 encInt s), .fn 40 []] (.lit (.bool (slices_ContainsFunc_int_f_im_TxnOk_3 s)))
def Sim_TxnOk_c : Prop := ∀ (t : GTxn) (hp0 : t.Guards.length ≤ 2147483648) (hp1 : t.Writes.length ≤ 2147483648) (hp2 : t.Reads.length ≤ 2147483648), Gives Try.prog 17 [.agg [.r (.rd 3 encGTxnGuard t.Guards), .r (.rd 3 encGTxnSum t.Writes), .r (.rd 1 encInt t.Reads)]] (.lit (.bool (im_TxnOk t)))
def Sim_TxnRun_c : Prop := ∀ (t : GTxn) (vals : List GTxnPair) (hp0 : t.Guards.length ≤ 100000000) (hp1 : t.Writes.length ≤ 100000000) (hp2 : t.Reads.length ≤ 100000000) (hp3 : vals.length ≤ 100000000), Gives Try.prog 12 [.agg [.r (.rd 3 encGTxnGuard t.Guards), .r (.rd 3 encGTxnSum t.Writes), .r (.rd 1 encInt t.Reads)], .r (.rd 2 encGTxnPair vals)] (.tup [.r (.rd 2 encGTxnPair (im_TxnRun t vals).1), .lit (.int .i64 (im_TxnRun t vals).2.1), .r (.rd 1 encInt (im_TxnRun t vals).2.2)])
set_option maxRecDepth 10000 in
set_option maxHeartbeats 54000000 in
theorem layU11 : (Sim_in_c) ∧ (Sim_in_c → Sim_isKey_c) ∧ (Sim_in_c → Sim_isVal_c) ∧ (Sim_valOf_c) ∧ (Sim_isKey_c → Sim_isVal_c → Sim_pairsOk_1_c) ∧ (Sim_keyOf_c) ∧ (Sim_keyOf_c → Sim_rising_TxnPair_f_im_keyOf_c) ∧ (Sim_pairsOk_1_c → Sslices_IndexFunc_TxnPair_f_im_pairsOk_1_c) ∧ (Sslices_IndexFunc_TxnPair_f_im_pairsOk_1_c → Sslices_ContainsFunc_TxnPair_f_im_pairsOk_1_c) ∧ (Sim_rising_TxnPair_f_im_keyOf_c → Sslices_ContainsFunc_TxnPair_f_im_pairsOk_1_c → Sim_pairsOk_c) ∧ (Sim_isKey_c → Sim_isVal_c → Sim_TxnOk_1_c) ∧ (Sim_isKey_c → Sim_isVal_c → Sim_TxnOk_2_c) ∧ (Sim_isKey_c → Sim_TxnOk_3_c) ∧ (Sim_TxnOk_4_c) ∧ (Sim_TxnOk_5_c) ∧ (Sim_own_c) ∧ (Sim_TxnOk_4_c → Sim_rising_TxnGuard_f_im_TxnOk_4_c) ∧ (Sim_TxnOk_5_c → Sim_rising_TxnSum_f_im_TxnOk_5_c) ∧ (Sim_own_c → Sim_rising_int_f_im_own_c) ∧ (Sim_TxnOk_1_c → Sslices_IndexFunc_TxnGuard_f_im_TxnOk_1_c) ∧ (Sslices_IndexFunc_TxnGuard_f_im_TxnOk_1_c → Sslices_ContainsFunc_TxnGuard_f_im_TxnOk_1_c) ∧ (Sim_TxnOk_2_c → Sslices_IndexFunc_TxnSum_f_im_TxnOk_2_c) ∧ (Sslices_IndexFunc_TxnSum_f_im_TxnOk_2_c → Sslices_ContainsFunc_TxnSum_f_im_TxnOk_2_c) ∧ (Sim_TxnOk_3_c → Sslices_IndexFunc_int_f_im_TxnOk_3_c) ∧ (Sslices_IndexFunc_int_f_im_TxnOk_3_c → Sslices_ContainsFunc_int_f_im_TxnOk_3_c) ∧ (Sim_rising_TxnGuard_f_im_TxnOk_4_c → Sim_rising_TxnSum_f_im_TxnOk_5_c → Sim_rising_int_f_im_own_c → Sslices_ContainsFunc_TxnGuard_f_im_TxnOk_1_c → Sslices_ContainsFunc_TxnSum_f_im_TxnOk_2_c → Sslices_ContainsFunc_int_f_im_TxnOk_3_c → Sim_TxnOk_c) ∧ (Sim_in_c → Sim_isVal_c → Sim_valOf_c → Sim_pairsOk_c → Sim_TxnOk_c → Sim_TxnRun_c) := by
  refine ⟨fun n low high => have t0 := tg 0; Does.goR Try.func28 Try.ntmps28 Try.results28 rfl (Nat.zero_le _) rfl ?_,
    fun im_in_c n => have t1 := tg 1; Does.goR Try.func35 Try.ntmps35 Try.results35 rfl (Nat.zero_le _) rfl ?_,
    fun im_in_c n => have t2 := tg 2; Does.goR Try.func30 Try.ntmps30 Try.results30 rfl (Nat.zero_le _) rfl ?_,
    fun list key hp0 => have t3 := tg 3; Does.goR Try.func29 Try.ntmps29 Try.results29 rfl (Nat.zero_le _) rfl ?_,
    fun im_isKey_c im_isVal_c x => have t4 := tg 4; Does.goR Try.func50 Try.ntmps50 Try.results50 rfl (Nat.zero_le _) rfl ?_,
    fun x => have t5 := tg 5; Does.goR Try.func52 Try.ntmps52 Try.results52 rfl (Nat.zero_le _) rfl ?_,
    fun im_keyOf_c list hp0 => have t6 := tg 6; Does.goR Try.func51 Try.ntmps51 Try.results51 rfl (Nat.zero_le _) rfl ?_,
    fun im_pairsOk_1_c s hp0 => have t7 := tg 7; Does.goR Try.func70 Try.ntmps70 Try.results70 rfl (Nat.zero_le _) rfl ?_,
    fun slices_IndexFunc_TxnPair_f_im_pairsOk_1_c s hp0 => have t8 := tg 8; Does.goR Try.func53 Try.ntmps53 Try.results53 rfl (Nat.zero_le _) rfl ?_,
    fun im_rising_TxnPair_f_im_keyOf_c slices_ContainsFunc_TxnPair_f_im_pairsOk_1_c list hp0 => have t9 := tg 9; Does.goR Try.func27 Try.ntmps27 Try.results27 rfl (Nat.zero_le _) rfl ?_,
    fun im_isKey_c im_isVal_c x => have t10 := tg 10; Does.goR Try.func34 Try.ntmps34 Try.results34 rfl (Nat.zero_le _) rfl ?_,
    fun im_isKey_c im_isVal_c x => have t11 := tg 11; Does.goR Try.func36 Try.ntmps36 Try.results36 rfl (Nat.zero_le _) rfl ?_,
    fun im_isKey_c k => have t12 := tg 12; Does.goR Try.func40 Try.ntmps40 Try.results40 rfl (Nat.zero_le _) rfl ?_,
    fun x => have t13 := tg 13; Does.goR Try.func42 Try.ntmps42 Try.results42 rfl (Nat.zero_le _) rfl ?_,
    fun x => have t14 := tg 14; Does.goR Try.func44 Try.ntmps44 Try.results44 rfl (Nat.zero_le _) rfl ?_,
    fun n => have t15 := tg 15; Does.goR Try.func46 Try.ntmps46 Try.results46 rfl (Nat.zero_le _) rfl ?_,
    fun im_TxnOk_4_c list hp0 => have t16 := tg 16; Does.goR Try.func41 Try.ntmps41 Try.results41 rfl (Nat.zero_le _) rfl ?_,
    fun im_TxnOk_5_c list hp0 => have t17 := tg 17; Does.goR Try.func43 Try.ntmps43 Try.results43 rfl (Nat.zero_le _) rfl ?_,
    fun im_own_c list hp0 => have t18 := tg 18; Does.goR Try.func45 Try.ntmps45 Try.results45 rfl (Nat.zero_le _) rfl ?_,
    fun im_TxnOk_1_c s hp0 => have t19 := tg 19; Does.goR Try.func56 Try.ntmps56 Try.results56 rfl (Nat.zero_le _) rfl ?_,
    fun slices_IndexFunc_TxnGuard_f_im_TxnOk_1_c s hp0 => have t20 := tg 20; Does.goR Try.func37 Try.ntmps37 Try.results37 rfl (Nat.zero_le _) rfl ?_,
    fun im_TxnOk_2_c s hp0 => have t21 := tg 21; Does.goR Try.func57 Try.ntmps57 Try.results57 rfl (Nat.zero_le _) rfl ?_,
    fun slices_IndexFunc_TxnSum_f_im_TxnOk_2_c s hp0 => have t22 := tg 22; Does.goR Try.func38 Try.ntmps38 Try.results38 rfl (Nat.zero_le _) rfl ?_,
    fun im_TxnOk_3_c s hp0 => have t23 := tg 23; Does.goR Try.func58 Try.ntmps58 Try.results58 rfl (Nat.zero_le _) rfl ?_,
    fun slices_IndexFunc_int_f_im_TxnOk_3_c s hp0 => have t24 := tg 24; Does.goR Try.func39 Try.ntmps39 Try.results39 rfl (Nat.zero_le _) rfl ?_,
    fun im_rising_TxnGuard_f_im_TxnOk_4_c im_rising_TxnSum_f_im_TxnOk_5_c im_rising_int_f_im_own_c slices_ContainsFunc_TxnGuard_f_im_TxnOk_1_c slices_ContainsFunc_TxnSum_f_im_TxnOk_2_c slices_ContainsFunc_int_f_im_TxnOk_3_c t hp0 hp1 hp2 => have t25 := tg 25; Does.goR Try.func17 Try.ntmps17 Try.results17 rfl (Nat.zero_le _) rfl ?_,
    fun im_in_c im_isVal_c im_valOf_c im_pairsOk_c im_TxnOk_c t vals hp0 hp1 hp2 hp3 => have t26 := tg 26; Does.goR Try.func12 Try.ntmps12 Try.results12 rfl (Nat.zero_le _) rfl ?_⟩
  all_goals (
  simp only [argR, Nat.reduceAdd]
  repeat' (first
    | ((with_reducible show Aft _ _ _ _);(first|refine Aft.t ?_|refine Aft.q ?_|refine Aft.b ?_|refine Aft.e ?_|refine Aft.tr ?_|refine Aft.br ?_|refine Aft.qr ?_|refine Aft.tx ?_|refine Aft.bx ?_|refine Aft.by' rfl ?_|refine Aft.qx ?_))
    | ((with_reducible show RegS _ _ _ _ _ _);(first
      | (refine RegS.nil (hK _ _ ?_);clear hK K)
      | ((first|refine RegS.stepN fun K1 h1 => ?_|refine RegS.step fun K1 h1 => ?_);simp only [go_sem,reduceCtorEq,Nat.reduceAdd,Nat.reduceSub,Nat.reduceMul,Nat.reduceLeDiff,Nat.reduceLT,Nat.reduceEqDiff])))
    | ((with_reducible show TreeS _ _ _ _ _ _ _ _);(first
      | (refine TreeS.nil (hK _ _ ?_);clear hK K)
      | (refine TreeS.fork ?_ ?_)
      | ((first|refine TreeS.stepN rfl fun K1 h1 => ?_|refine TreeS.step fun K1 h1 => ?_);simp only [go_sem,reduceCtorEq,Nat.reduceAdd,Nat.reduceSub,Nat.reduceMul,Nat.reduceLeDiff,Nat.reduceLT,Nat.reduceEqDiff])))
    | ((with_reducible show QuietS _ _ _ _ _ _);(first
      | (refine QuietS.nil (hK _ _ ?_);clear hK K)
      | ((first|refine QuietS.stepN fun K1 h1 => ?_|refine QuietS.step fun K1 h1 => ?_);simp only [go_sem,reduceCtorEq,Nat.reduceAdd,Nat.reduceSub,Nat.reduceMul,Nat.reduceLeDiff,Nat.reduceLT,Nat.reduceEqDiff])))
    | ((with_reducible show Tri _ _ _ _ _ _);(first
      | (refine Tri.regSeq fun K hK => RegS.run ?_)
      | (refine Tri.regA fun K hK => ?_)
      | (refine Tri.cond (b := ?_) ?_ ?_ ?_;rotate_left 1;focus (simp only [ev,z1,z2,Nat.reduceEqDiff,Nat.reduceLT,not_false_eq_true];exact rfl))
      | refine Tri.skipA ?_
      | refine Tri.exitA ?_
      | refine Tri.retA ?_
      | refine Tri.block ?_
      | (guard_hyp t6;(first|(refine Tri.treeSeq 4 rfl mixedP false [0] [] (.op 0 0 (.op 1 0 (.op 2 0 (.op 3 0 (.op 6 0 (.op 7 0 (.op 8 0 (.op 9 0 (.op 10 0 (.op 4 1 (.op 11 1 (.op 5 2 (.op 12 2 (.op 13 0 .nil)))))))))))))) (by kernel_rfl) fun K hK => ?_;simp only [ballD,ballOf,ballX,cellIds,Heap.at,List.getD_cons_zero,List.getD_cons_succ,List.nil_append,List.cons_append,idOf,z1,z2,Nat.reduceEqDiff,Nat.reduceLT,not_false_eq_true])|(refine Tri.treeA 4 rfl mixedP false [0] [] (.op 0 0 (.op 1 0 (.op 2 0 (.op 3 0 (.op 6 0 (.op 7 0 (.op 8 0 (.op 9 0 (.op 10 0 (.op 4 1 (.op 11 1 (.op 5 2 (.op 12 2 (.op 13 0 .nil)))))))))))))) (by kernel_rfl) fun K hK => ?_;simp only [ballD,ballOf,ballX,cellIds,Heap.at,List.getD_cons_zero,List.getD_cons_succ,List.nil_append,List.cons_append,idOf,z1,z2,Nat.reduceEqDiff,Nat.reduceLT,not_false_eq_true]) ))
      | (guard_hyp t16;(first|(refine Tri.treeSeq 4 rfl mixedP false [0] [] (.op 0 0 (.op 1 0 (.op 2 0 (.op 3 0 (.op 6 0 (.op 7 0 (.op 8 0 (.op 9 0 (.op 10 0 (.op 4 1 (.op 11 1 (.op 5 2 (.op 12 2 (.op 13 0 .nil)))))))))))))) (by kernel_rfl) fun K hK => ?_;simp only [ballD,ballOf,ballX,cellIds,Heap.at,List.getD_cons_zero,List.getD_cons_succ,List.nil_append,List.cons_append,idOf,z1,z2,Nat.reduceEqDiff,Nat.reduceLT,not_false_eq_true])|(refine Tri.treeA 4 rfl mixedP false [0] [] (.op 0 0 (.op 1 0 (.op 2 0 (.op 3 0 (.op 6 0 (.op 7 0 (.op 8 0 (.op 9 0 (.op 10 0 (.op 4 1 (.op 11 1 (.op 5 2 (.op 12 2 (.op 13 0 .nil)))))))))))))) (by kernel_rfl) fun K hK => ?_;simp only [ballD,ballOf,ballX,cellIds,Heap.at,List.getD_cons_zero,List.getD_cons_succ,List.nil_append,List.cons_append,idOf,z1,z2,Nat.reduceEqDiff,Nat.reduceLT,not_false_eq_true]) ))
      | (guard_hyp t17;(first|(refine Tri.treeSeq 4 rfl mixedP false [0] [] (.op 0 0 (.op 1 0 (.op 2 0 (.op 3 0 (.op 6 0 (.op 7 0 (.op 8 0 (.op 9 0 (.op 10 0 (.op 4 1 (.op 11 1 (.op 5 2 (.op 12 2 (.op 13 0 .nil)))))))))))))) (by kernel_rfl) fun K hK => ?_;simp only [ballD,ballOf,ballX,cellIds,Heap.at,List.getD_cons_zero,List.getD_cons_succ,List.nil_append,List.cons_append,idOf,z1,z2,Nat.reduceEqDiff,Nat.reduceLT,not_false_eq_true])|(refine Tri.treeA 4 rfl mixedP false [0] [] (.op 0 0 (.op 1 0 (.op 2 0 (.op 3 0 (.op 6 0 (.op 7 0 (.op 8 0 (.op 9 0 (.op 10 0 (.op 4 1 (.op 11 1 (.op 5 2 (.op 12 2 (.op 13 0 .nil)))))))))))))) (by kernel_rfl) fun K hK => ?_;simp only [ballD,ballOf,ballX,cellIds,Heap.at,List.getD_cons_zero,List.getD_cons_succ,List.nil_append,List.cons_append,idOf,z1,z2,Nat.reduceEqDiff,Nat.reduceLT,not_false_eq_true]) ))
      | (guard_hyp t18;(first|(refine Tri.treeSeq 4 rfl mixedP false [0] [] (.op 0 0 (.op 1 0 (.op 2 0 (.op 3 0 (.op 6 0 (.op 7 0 (.op 8 0 (.op 9 0 (.op 10 0 (.op 4 1 (.op 11 1 (.op 5 2 (.op 12 2 (.op 13 0 .nil)))))))))))))) (by kernel_rfl) fun K hK => ?_;simp only [ballD,ballOf,ballX,cellIds,Heap.at,List.getD_cons_zero,List.getD_cons_succ,List.nil_append,List.cons_append,idOf,z1,z2,Nat.reduceEqDiff,Nat.reduceLT,not_false_eq_true])|(refine Tri.treeA 4 rfl mixedP false [0] [] (.op 0 0 (.op 1 0 (.op 2 0 (.op 3 0 (.op 6 0 (.op 7 0 (.op 8 0 (.op 9 0 (.op 10 0 (.op 4 1 (.op 11 1 (.op 5 2 (.op 12 2 (.op 13 0 .nil)))))))))))))) (by kernel_rfl) fun K hK => ?_;simp only [ballD,ballOf,ballX,cellIds,Heap.at,List.getD_cons_zero,List.getD_cons_succ,List.nil_append,List.cons_append,idOf,z1,z2,Nat.reduceEqDiff,Nat.reduceLT,not_false_eq_true]) ))
      | (guard_hyp t25;(first|(refine Tri.fastSeqN 1 rfl mixedP (by kernel_rfl) fun K hK => QuietS.run ?_)|(refine Tri.fastA 1 rfl mixedP (by kernel_rfl) fun K hK => ?_) ))
      | (guard_hyp t26;(first|(refine Tri.fastSeqN 6 rfl mixedP (by kernel_rfl) fun K hK => QuietS.run ?_)|(refine Tri.fastA 6 rfl mixedP (by kernel_rfl) fun K hK => ?_) ))
      | ((with_reducible show Tri _ _ (Code.loop _) _ _ _);(first
      | (guard_hyp t3;refine Tri.loopR (ι := Nat) 2 rfl (fun j => mkR 20 [(0,.r (.rd 2 encGTxnPair list)),(1,.lit (.int .i64 key)),(7,.r (.rd 2 encGTxnPair list)),(8,.lit (.int .i64 (list.length : Int))),(9,.lit (.int .i64 (j : Int)))]) (fun j => []) (fun j => im_valOf_K1 list key j = im_valOf list key ∧ (j : Int) ≤ (list.length : Int)) (fun j => ((list.length : Int) - (j : Int)).toNat) 0 (Ent.places [] _ (by simp only [go_sem,reduceCtorEq,Nat.reduceAdd,Nat.reduceSub,Nat.reduceMul,Nat.reduceLeDiff,Nat.reduceLT,Nat.reduceEqDiff];rfl) rfl rfl (Nat.zero_le _) ?_ ?_) ?_ ?_;rotate_left 3;(focus (rintro ix1 ⟨hM,hI⟩;(try dsimp only at hM hI)));rotate_right 3)
      | (guard_hyp t6;refine Tri.loopR (ι := Nat) 2 rfl (fun j => mkR 26 [(0,.r (.rd 2 encGTxnPair list)),(1,.fn 52 []),(5,.lit (.int .i64 (j : Int)))]) (fun j => []) (fun j => im_rising_TxnPair_f_im_keyOf_K1 list j = im_rising_TxnPair_f_im_keyOf list ∧ ((j : Int) ≤ (list.length : Int) ∨ j = 1) ∧ 1 ≤ j) (fun j => ((list.length : Int) - (j : Int)).toNat) 1 (Ent.places [] _ (by simp only [go_sem,reduceCtorEq,Nat.reduceAdd,Nat.reduceSub,Nat.reduceMul,Nat.reduceLeDiff,Nat.reduceLT,Nat.reduceEqDiff];rfl) rfl rfl (Nat.zero_le _) ?_ ?_) ?_ ?_;rotate_left 3;(focus (rintro i ⟨hM,hI⟩;(try dsimp only at hM hI)));rotate_right 3)
      | (guard_hyp t7;refine Tri.loopR (ι := Nat) 2 rfl (fun j => mkR 19 [(0,.r (.rd 2 encGTxnPair s)),(1,.fn 50 []),(6,.r (.rd 2 encGTxnPair s)),(7,.lit (.int .i64 (s.length : Int))),(8,.lit (.int .i64 (j : Int)))]) (fun j => []) (fun j => slices_IndexFunc_TxnPair_f_im_pairsOk_1_K1 s j = slices_IndexFunc_TxnPair_f_im_pairsOk_1 s ∧ (j : Int) ≤ (s.length : Int)) (fun j => ((s.length : Int) - (j : Int)).toNat) 0 (Ent.places [] _ (by simp only [go_sem,reduceCtorEq,Nat.reduceAdd,Nat.reduceSub,Nat.reduceMul,Nat.reduceLeDiff,Nat.reduceLT,Nat.reduceEqDiff];rfl) rfl rfl (Nat.zero_le _) ?_ ?_) ?_ ?_;rotate_left 3;(focus (rintro ix1 ⟨hM,hI⟩;(try dsimp only at hM hI)));rotate_right 3)
      | (guard_hyp t16;refine Tri.loopR (ι := Nat) 2 rfl (fun j => mkR 26 [(0,.r (.rd 3 encGTxnGuard list)),(1,.fn 42 []),(5,.lit (.int .i64 (j : Int)))]) (fun j => []) (fun j => im_rising_TxnGuard_f_im_TxnOk_4_K1 list j = im_rising_TxnGuard_f_im_TxnOk_4 list ∧ ((j : Int) ≤ (list.length : Int) ∨ j = 1) ∧ 1 ≤ j) (fun j => ((list.length : Int) - (j : Int)).toNat) 1 (Ent.places [] _ (by simp only [go_sem,reduceCtorEq,Nat.reduceAdd,Nat.reduceSub,Nat.reduceMul,Nat.reduceLeDiff,Nat.reduceLT,Nat.reduceEqDiff];rfl) rfl rfl (Nat.zero_le _) ?_ ?_) ?_ ?_;rotate_left 3;(focus (rintro i ⟨hM,hI⟩;(try dsimp only at hM hI)));rotate_right 3)
      | (guard_hyp t17;refine Tri.loopR (ι := Nat) 2 rfl (fun j => mkR 26 [(0,.r (.rd 3 encGTxnSum list)),(1,.fn 44 []),(5,.lit (.int .i64 (j : Int)))]) (fun j => []) (fun j => im_rising_TxnSum_f_im_TxnOk_5_K1 list j = im_rising_TxnSum_f_im_TxnOk_5 list ∧ ((j : Int) ≤ (list.length : Int) ∨ j = 1) ∧ 1 ≤ j) (fun j => ((list.length : Int) - (j : Int)).toNat) 1 (Ent.places [] _ (by simp only [go_sem,reduceCtorEq,Nat.reduceAdd,Nat.reduceSub,Nat.reduceMul,Nat.reduceLeDiff,Nat.reduceLT,Nat.reduceEqDiff];rfl) rfl rfl (Nat.zero_le _) ?_ ?_) ?_ ?_;rotate_left 3;(focus (rintro i ⟨hM,hI⟩;(try dsimp only at hM hI)));rotate_right 3)
      | (guard_hyp t18;refine Tri.loopR (ι := Nat) 2 rfl (fun j => mkR 26 [(0,.r (.rd 1 encInt list)),(1,.fn 46 []),(5,.lit (.int .i64 (j : Int)))]) (fun j => []) (fun j => im_rising_int_f_im_own_K1 list j = im_rising_int_f_im_own list ∧ ((j : Int) ≤ (list.length : Int) ∨ j = 1) ∧ 1 ≤ j) (fun j => ((list.length : Int) - (j : Int)).toNat) 1 (Ent.places [] _ (by simp only [go_sem,reduceCtorEq,Nat.reduceAdd,Nat.reduceSub,Nat.reduceMul,Nat.reduceLeDiff,Nat.reduceLT,Nat.reduceEqDiff];rfl) rfl rfl (Nat.zero_le _) ?_ ?_) ?_ ?_;rotate_left 3;(focus (rintro i ⟨hM,hI⟩;(try dsimp only at hM hI)));rotate_right 3)
      | (guard_hyp t19;refine Tri.loopR (ι := Nat) 2 rfl (fun j => mkR 19 [(0,.r (.rd 3 encGTxnGuard s)),(1,.fn 34 []),(6,.r (.rd 3 encGTxnGuard s)),(7,.lit (.int .i64 (s.length : Int))),(8,.lit (.int .i64 (j : Int)))]) (fun j => []) (fun j => slices_IndexFunc_TxnGuard_f_im_TxnOk_1_K1 s j = slices_IndexFunc_TxnGuard_f_im_TxnOk_1 s ∧ (j : Int) ≤ (s.length : Int)) (fun j => ((s.length : Int) - (j : Int)).toNat) 0 (Ent.places [] _ (by simp only [go_sem,reduceCtorEq,Nat.reduceAdd,Nat.reduceSub,Nat.reduceMul,Nat.reduceLeDiff,Nat.reduceLT,Nat.reduceEqDiff];rfl) rfl rfl (Nat.zero_le _) ?_ ?_) ?_ ?_;rotate_left 3;(focus (rintro ix1 ⟨hM,hI⟩;(try dsimp only at hM hI)));rotate_right 3)
      | (guard_hyp t21;refine Tri.loopR (ι := Nat) 2 rfl (fun j => mkR 19 [(0,.r (.rd 3 encGTxnSum s)),(1,.fn 36 []),(6,.r (.rd 3 encGTxnSum s)),(7,.lit (.int .i64 (s.length : Int))),(8,.lit (.int .i64 (j : Int)))]) (fun j => []) (fun j => slices_IndexFunc_TxnSum_f_im_TxnOk_2_K1 s j = slices_IndexFunc_TxnSum_f_im_TxnOk_2 s ∧ (j : Int) ≤ (s.length : Int)) (fun j => ((s.length : Int) - (j : Int)).toNat) 0 (Ent.places [] _ (by simp only [go_sem,reduceCtorEq,Nat.reduceAdd,Nat.reduceSub,Nat.reduceMul,Nat.reduceLeDiff,Nat.reduceLT,Nat.reduceEqDiff];rfl) rfl rfl (Nat.zero_le _) ?_ ?_) ?_ ?_;rotate_left 3;(focus (rintro ix1 ⟨hM,hI⟩;(try dsimp only at hM hI)));rotate_right 3)
      | (guard_hyp t23;refine Tri.loopR (ι := Nat) 2 rfl (fun j => mkR 19 [(0,.r (.rd 1 encInt s)),(1,.fn 40 []),(6,.r (.rd 1 encInt s)),(7,.lit (.int .i64 (s.length : Int))),(8,.lit (.int .i64 (j : Int)))]) (fun j => []) (fun j => slices_IndexFunc_int_f_im_TxnOk_3_K1 s j = slices_IndexFunc_int_f_im_TxnOk_3 s ∧ (j : Int) ≤ (s.length : Int)) (fun j => ((s.length : Int) - (j : Int)).toNat) 0 (Ent.places [] _ (by simp only [go_sem,reduceCtorEq,Nat.reduceAdd,Nat.reduceSub,Nat.reduceMul,Nat.reduceLeDiff,Nat.reduceLT,Nat.reduceEqDiff];rfl) rfl rfl (Nat.zero_le _) ?_ ?_) ?_ ?_;rotate_left 3;(focus (rintro ix1 ⟨hM,hI⟩;(try dsimp only at hM hI)));rotate_right 3)
      | (guard_hyp t26;refine Tri.loopR (ι := Nat) 4 rfl (fun j => mkR 87 [(1,.r (.rd 2 encGTxnPair vals)),(2,.ptr 0 3 0 0),(25,.r (.rd 3 encGTxnGuard t.Guards)),(26,.lit (.int .i64 (t.Guards.length : Int))),(27,.lit (.int .i64 (j : Int)))]) (fun j => [some (.cells [.r (.rd 3 encGTxnGuard t.Guards),.r (.rd 3 encGTxnSum t.Writes),.r (.rd 1 encInt t.Reads)])]) (fun j => im_TxnRun_K1 t vals j = im_TxnRun t vals ∧ (j : Int) ≤ (t.Guards.length : Int)) (fun j => ((t.Guards.length : Int) - (j : Int)).toNat) 0 (Ent.places [.slot 2] _ (by simp only [go_sem,reduceCtorEq,Nat.reduceAdd,Nat.reduceSub,Nat.reduceMul,Nat.reduceLeDiff,Nat.reduceLT,Nat.reduceEqDiff];rfl) rfl rfl (Nat.zero_le _) ?_ ?_) ?_ ?_;rotate_left 3;(focus (rintro ix1 ⟨hM,hI⟩;(try dsimp only at hM hI)));rotate_right 3)
      | (guard_hyp t26;refine Tri.loopR (ι := (List GTxnPair) × Nat) 11 rfl (fun j => mkR 87 [(1,.r (.rd 2 encGTxnPair vals)),(2,.ptr 1 3 0 0),(9,.sl 0 2 0 j.1.length),(43,.r (.rd 3 encGTxnSum t.Writes)),(44,.lit (.int .i64 (t.Writes.length : Int))),(45,.lit (.int .i64 (j.2 : Int)))]) (fun j => [some (.rows 2 aencGTxnPair j.1),some (.cells [.r (.rd 3 encGTxnGuard t.Guards),.r (.rd 3 encGTxnSum t.Writes),.r (.rd 1 encInt t.Reads)])]) (fun j => im_TxnRun_K2 t vals j.1 j.2 = im_TxnRun t vals ∧ (j.2 : Int) ≤ (t.Writes.length : Int) ∧ j.1.length ≤ j.2) (fun j => ((t.Writes.length : Int) - (j.2 : Int)).toNat) (?_,0) (Ent.places [.slot 9,.slot 2] _ (by simp only [go_sem,reduceCtorEq,Nat.reduceAdd,Nat.reduceSub,Nat.reduceMul,Nat.reduceLeDiff,Nat.reduceLT,Nat.reduceEqDiff];rfl) rfl rfl (Nat.zero_le _) ?_ ?_) ?_ ?_;rotate_left 4;(focus (rintro ⟨writes,ix2⟩ ⟨hM,hI⟩;(try dsimp only at hM hI)));rotate_right 3)
      | (guard_hyp t26;refine Tri.loopR (ι := (List GTxnPair) × (List Int) × Nat) 22 rfl (fun j => mkR 87 [(1,.r (.rd 2 encGTxnPair vals)),(2,.ptr 2 3 0 0),(9,.sl 0 2 0 j.1.length),(13,.sl 1 1 0 j.2.1.length),(72,.r (.rd 1 encInt t.Reads)),(73,.lit (.int .i64 (t.Reads.length : Int))),(74,.lit (.int .i64 (j.2.2 : Int)))]) (fun j => [some (.rows 2 aencGTxnPair j.1),some (.rows 1 aencInt j.2.1),some (.cells [.r (.rd 3 encGTxnGuard t.Guards),.r (.rd 3 encGTxnSum t.Writes),.r (.rd 1 encInt t.Reads)])]) (fun j => im_TxnRun_K3 t vals j.1 j.2.1 j.2.2 = im_TxnRun t vals ∧ (j.2.2 : Int) ≤ (t.Reads.length : Int) ∧ j.2.1.length ≤ j.2.2) (fun j => ((t.Reads.length : Int) - (j.2.2 : Int)).toNat) (?_,?_,0) (Ent.places [.slot 9,.slot 13,.slot 2] _ (by simp only [go_sem,reduceCtorEq,Nat.reduceAdd,Nat.reduceSub,Nat.reduceMul,Nat.reduceLeDiff,Nat.reduceLT,Nat.reduceEqDiff];rfl) rfl rfl (Nat.zero_le _) ?_ ?_) ?_ ?_;rotate_left 5;(focus (rintro ⟨writes,reads,ix3⟩ ⟨hM,hI⟩;(try dsimp only at hM hI)));rotate_right 3)
      ); (focus (repeat' (first | simp only [z1, z2, z3, Nat.reduceEqDiff, Nat.reduceLT, not_false_eq_true] | exact z28 | refine z29 ?_ ?_ | exact z31 | refine z32 ?_ ?_ | refine z30 ?_ | exact z33 | refine z34 rfl ?_ ?_ | refine z35 ?_ | exact z13 | exact z14 | exact z15 | exact z16 | refine z17 ?_ | refine z18 rfl ?_ | refine z19 rfl ?_ ?_ | (show lτ _ _ = some _; exact rfl) | exact z20 rfl rfl | refine z20 rfl ?_ | refine z21 ?_ | refine z23 ?_ | exact z24 | refine z25 ?_ rfl rfl ?_ | refine z22 ?_ | refine z26 ?_ rfl rfl ?_ ?_ | refine z27 ?_ rfl rfl ?_ ?_ ?_ | exact True.intro | exact z4 rfl | exact z5 | exact z6 | exact z7 | exact z8 | exact z9 | exact z10 | refine z36 ?_ | refine z37 rfl ?_ | exact z38 | exact z39 | refine z40 (xs := ?_) (ys := ?_) ?_ ?_ | refine z41 (xs := ?_) (ys := ?_) ?_ ?_ ?_ ?_ | refine z42 (xs := ?_) ?_ | refine z43 (xs := ?_) ?_ | refine z44 (x := ?_) (xs := ?_) ?_ ?_ | refine RowsAre.rep (x := ?_) (n := ?_) ?_ | (with_reducible show RowIs _ _ _; first | exact Int_row _ | exact Str_row _) | (with_reducible show RowIs _ _ _; first | exact GTxnPair_row _ | exact GTxnPair_mk _ _ | exact GTxnGuard_row _ | exact GTxnGuard_mk _ _ _ | exact GTxnSum_row _ | exact GTxnSum_mk _ _ _ | exact GTxn_row _ | exact GTxn_mk _ _ _) | with_reducible exact rfl | (refine z11 ?_; omega) | (refine z12 ?_; omega) | simp only [List.length_append, List.length_map, List.length_cons, List.length_nil, List.length_set, List.length_replicate]))); (focus (repeat' (first | simp only [z1, z2, z3, Nat.reduceEqDiff, Nat.reduceLT, not_false_eq_true] | exact z28 | refine z29 ?_ ?_ | exact z31 | refine z32 ?_ ?_ | refine z30 ?_ | exact z33 | refine z34 rfl ?_ ?_ | refine z35 ?_ | exact z13 | exact z14 | exact z15 | exact z16 | refine z17 ?_ | refine z18 rfl ?_ | refine z19 rfl ?_ ?_ | (show lτ _ _ = some _; exact rfl) | exact z20 rfl rfl | refine z20 rfl ?_ | refine z21 ?_ | refine z23 ?_ | exact z24 | refine z25 ?_ rfl rfl ?_ | refine z22 ?_ | refine z26 ?_ rfl rfl ?_ ?_ | refine z27 ?_ rfl rfl ?_ ?_ ?_ | exact True.intro | exact z4 rfl | exact z5 | exact z6 | exact z7 | exact z8 | exact z9 | exact z10 | refine z36 ?_ | refine z37 rfl ?_ | exact z38 | exact z39 | refine z40 (xs := ?_) (ys := ?_) ?_ ?_ | refine z41 (xs := ?_) (ys := ?_) ?_ ?_ ?_ ?_ | refine z42 (xs := ?_) ?_ | refine z43 (xs := ?_) ?_ | refine z44 (x := ?_) (xs := ?_) ?_ ?_ | refine RowsAre.rep (x := ?_) (n := ?_) ?_ | (with_reducible show RowIs _ _ _; first | exact Int_row _ | exact Str_row _) | (with_reducible show RowIs _ _ _; first | exact GTxnPair_row _ | exact GTxnPair_mk _ _ | exact GTxnGuard_row _ | exact GTxnGuard_mk _ _ _ | exact GTxnSum_row _ | exact GTxnSum_mk _ _ _ | exact GTxn_row _ | exact GTxn_mk _ _ _) | with_reducible exact rfl | (refine z11 ?_; omega) | (refine z12 ?_; omega) | simp only [List.length_append, List.length_map, List.length_cons, List.length_nil, List.length_set, List.length_replicate]))); rotate_left 1)
      | refine Tri.seq ?_))
    | ((with_reducible show CallA _ _ _ _ _);(first
      | ((first
      | (refine z45 (im_in_c ?_ ?_ ?_) ?_ ?_;rotate_left 3)
      | (refine z45 (im_isVal_c ?_) ?_ ?_;rotate_left 1)
      | (refine z45 (im_isKey_c ?_) ?_ ?_;rotate_left 1)
      | (refine z45 (im_keyOf_c ⟨?_,?_⟩) ?_ ?_;rotate_left 2)
      | (refine z45 (im_pairsOk_1_c ⟨?_,?_⟩) ?_ ?_;rotate_left 2)
      | (refine z45 (slices_IndexFunc_TxnPair_f_im_pairsOk_1_c ?_ ?_) ?_ ?_;rotate_left 2)
      | (refine z45 (im_rising_TxnPair_f_im_keyOf_c ?_ ?_) ?_ ?_;rotate_left 2)
      | (refine z45 (slices_ContainsFunc_TxnPair_f_im_pairsOk_1_c ?_ ?_) ?_ ?_;rotate_left 2)
      | (refine z45 (im_TxnOk_4_c ⟨?_,?_,?_⟩) ?_ ?_;rotate_left 3)
      | (refine z45 (im_TxnOk_5_c ⟨?_,?_,?_⟩) ?_ ?_;rotate_left 3)
      | (refine z45 (im_own_c ?_) ?_ ?_;rotate_left 1)
      | (refine z45 (im_TxnOk_1_c ⟨?_,?_,?_⟩) ?_ ?_;rotate_left 3)
      | (refine z45 (slices_IndexFunc_TxnGuard_f_im_TxnOk_1_c ?_ ?_) ?_ ?_;rotate_left 2)
      | (refine z45 (im_TxnOk_2_c ⟨?_,?_,?_⟩) ?_ ?_;rotate_left 3)
      | (refine z45 (slices_IndexFunc_TxnSum_f_im_TxnOk_2_c ?_ ?_) ?_ ?_;rotate_left 2)
      | (refine z45 (im_TxnOk_3_c ?_) ?_ ?_;rotate_left 1)
      | (refine z45 (slices_IndexFunc_int_f_im_TxnOk_3_c ?_ ?_) ?_ ?_;rotate_left 2)
      | (refine z45 (slices_ContainsFunc_TxnGuard_f_im_TxnOk_1_c ?_ ?_) ?_ ?_;rotate_left 2)
      | (refine z45 (slices_ContainsFunc_TxnSum_f_im_TxnOk_2_c ?_ ?_) ?_ ?_;rotate_left 2)
      | (refine z45 (slices_ContainsFunc_int_f_im_TxnOk_3_c ?_ ?_) ?_ ?_;rotate_left 2)
      | (refine z45 (im_rising_TxnGuard_f_im_TxnOk_4_c ?_ ?_) ?_ ?_;rotate_left 2)
      | (refine z45 (im_rising_TxnSum_f_im_TxnOk_5_c ?_ ?_) ?_ ?_;rotate_left 2)
      | (refine z45 (im_rising_int_f_im_own_c ?_ ?_) ?_ ?_;rotate_left 2)
      | (refine z45 (im_TxnOk_c ⟨?_,?_,?_⟩ ?_ ?_ ?_) ?_ ?_;rotate_left 6)
      | (refine z45 (im_pairsOk_c ?_ ?_) ?_ ?_;rotate_left 2)
      | (refine z45 (im_valOf_c ?_ ?_ ?_) ?_ ?_;rotate_left 3)
      ); (focus ((repeat' (first | simp only [z1, z2, z3, Nat.reduceEqDiff, Nat.reduceLT, not_false_eq_true] | exact z28 | refine z29 ?_ ?_ | exact z31 | refine z32 ?_ ?_ | refine z30 ?_ | exact z33 | refine z34 rfl ?_ ?_ | refine z35 ?_ | exact z13 | exact z14 | exact z15 | exact z16 | refine z17 ?_ | refine z18 rfl ?_ | refine z19 rfl ?_ ?_ | (show lτ _ _ = some _; exact rfl) | exact z20 rfl rfl | refine z20 rfl ?_ | refine z21 ?_ | refine z23 ?_ | exact z24 | refine z25 ?_ rfl rfl ?_ | refine z22 ?_ | refine z26 ?_ rfl rfl ?_ ?_ | refine z27 ?_ rfl rfl ?_ ?_ ?_ | exact True.intro | exact z4 rfl | exact z5 | exact z6 | exact z7 | exact z8 | exact z9 | exact z10 | refine z36 ?_ | refine z37 rfl ?_ | exact z38 | exact z39 | refine z40 (xs := ?_) (ys := ?_) ?_ ?_ | refine z41 (xs := ?_) (ys := ?_) ?_ ?_ ?_ ?_ | refine z42 (xs := ?_) ?_ | refine z43 (xs := ?_) ?_ | refine z44 (x := ?_) (xs := ?_) ?_ ?_ | refine RowsAre.rep (x := ?_) (n := ?_) ?_ | (with_reducible show RowIs _ _ _; first | exact Int_row _ | exact Str_row _) | (with_reducible show RowIs _ _ _; first | exact GTxnPair_row _ | exact GTxnPair_mk _ _ | exact GTxnGuard_row _ | exact GTxnGuard_mk _ _ _ | exact GTxnSum_row _ | exact GTxnSum_mk _ _ _ | exact GTxn_row _ | exact GTxn_mk _ _ _) | with_reducible exact rfl | (refine z11 ?_; omega) | (refine z12 ?_; omega) | simp only [List.length_append, List.length_map, List.length_cons, List.length_nil, List.length_set, List.length_replicate])); (all_goals (fail_if_success (with_reducible show FZ _ _))); (all_goals (fail_if_success (with_reducible show List.contains _ _ = true))); (all_goals (fail_if_success (with_reducible show False))); (all_goals (fail_if_success (with_reducible show VSub _ _ _ _ _ _))))))
      | ((first
      | (refine z46 (im_in_c ?_ ?_ ?_) rfl ?_ ?_;rotate_left 3)
      | (refine z46 (im_isVal_c ?_) rfl ?_ ?_;rotate_left 1)
      | (refine z46 (im_isKey_c ?_) rfl ?_ ?_;rotate_left 1)
      | (refine z46 (im_keyOf_c ⟨?_,?_⟩) rfl ?_ ?_;rotate_left 2)
      | (refine z46 (im_pairsOk_1_c ⟨?_,?_⟩) rfl ?_ ?_;rotate_left 2)
      | (refine z46 (slices_IndexFunc_TxnPair_f_im_pairsOk_1_c ?_ ?_) rfl ?_ ?_;rotate_left 2)
      | (refine z46 (im_rising_TxnPair_f_im_keyOf_c ?_ ?_) rfl ?_ ?_;rotate_left 2)
      | (refine z46 (slices_ContainsFunc_TxnPair_f_im_pairsOk_1_c ?_ ?_) rfl ?_ ?_;rotate_left 2)
      | (refine z46 (im_TxnOk_4_c ⟨?_,?_,?_⟩) rfl ?_ ?_;rotate_left 3)
      | (refine z46 (im_TxnOk_5_c ⟨?_,?_,?_⟩) rfl ?_ ?_;rotate_left 3)
      | (refine z46 (im_own_c ?_) rfl ?_ ?_;rotate_left 1)
      | (refine z46 (im_TxnOk_1_c ⟨?_,?_,?_⟩) rfl ?_ ?_;rotate_left 3)
      | (refine z46 (slices_IndexFunc_TxnGuard_f_im_TxnOk_1_c ?_ ?_) rfl ?_ ?_;rotate_left 2)
      | (refine z46 (im_TxnOk_2_c ⟨?_,?_,?_⟩) rfl ?_ ?_;rotate_left 3)
      | (refine z46 (slices_IndexFunc_TxnSum_f_im_TxnOk_2_c ?_ ?_) rfl ?_ ?_;rotate_left 2)
      | (refine z46 (im_TxnOk_3_c ?_) rfl ?_ ?_;rotate_left 1)
      | (refine z46 (slices_IndexFunc_int_f_im_TxnOk_3_c ?_ ?_) rfl ?_ ?_;rotate_left 2)
      | (refine z46 (slices_ContainsFunc_TxnGuard_f_im_TxnOk_1_c ?_ ?_) rfl ?_ ?_;rotate_left 2)
      | (refine z46 (slices_ContainsFunc_TxnSum_f_im_TxnOk_2_c ?_ ?_) rfl ?_ ?_;rotate_left 2)
      | (refine z46 (slices_ContainsFunc_int_f_im_TxnOk_3_c ?_ ?_) rfl ?_ ?_;rotate_left 2)
      | (refine z46 (im_rising_TxnGuard_f_im_TxnOk_4_c ?_ ?_) rfl ?_ ?_;rotate_left 2)
      | (refine z46 (im_rising_TxnSum_f_im_TxnOk_5_c ?_ ?_) rfl ?_ ?_;rotate_left 2)
      | (refine z46 (im_rising_int_f_im_own_c ?_ ?_) rfl ?_ ?_;rotate_left 2)
      | (refine z46 (im_TxnOk_c ⟨?_,?_,?_⟩ ?_ ?_ ?_) rfl ?_ ?_;rotate_left 6)
      | (refine z46 (im_pairsOk_c ?_ ?_) rfl ?_ ?_;rotate_left 2)
      | (refine z46 (im_valOf_c ?_ ?_ ?_) rfl ?_ ?_;rotate_left 3)
      ); (focus ((repeat' (first | simp only [z1, z2, z3, Nat.reduceEqDiff, Nat.reduceLT, not_false_eq_true] | exact z28 | refine z29 ?_ ?_ | exact z31 | refine z32 ?_ ?_ | refine z30 ?_ | exact z33 | refine z34 rfl ?_ ?_ | refine z35 ?_ | exact z13 | exact z14 | exact z15 | exact z16 | refine z17 ?_ | refine z18 rfl ?_ | refine z19 rfl ?_ ?_ | (show lτ _ _ = some _; exact rfl) | exact z20 rfl rfl | refine z20 rfl ?_ | refine z21 ?_ | refine z23 ?_ | exact z24 | refine z25 ?_ rfl rfl ?_ | refine z22 ?_ | refine z26 ?_ rfl rfl ?_ ?_ | refine z27 ?_ rfl rfl ?_ ?_ ?_ | exact True.intro | exact z4 rfl | exact z5 | exact z6 | exact z7 | exact z8 | exact z9 | exact z10 | refine z36 ?_ | refine z37 rfl ?_ | exact z38 | exact z39 | refine z40 (xs := ?_) (ys := ?_) ?_ ?_ | refine z41 (xs := ?_) (ys := ?_) ?_ ?_ ?_ ?_ | refine z42 (xs := ?_) ?_ | refine z43 (xs := ?_) ?_ | refine z44 (x := ?_) (xs := ?_) ?_ ?_ | refine RowsAre.rep (x := ?_) (n := ?_) ?_ | (with_reducible show RowIs _ _ _; first | exact Int_row _ | exact Str_row _) | (with_reducible show RowIs _ _ _; first | exact GTxnPair_row _ | exact GTxnPair_mk _ _ | exact GTxnGuard_row _ | exact GTxnGuard_mk _ _ _ | exact GTxnSum_row _ | exact GTxnSum_mk _ _ _ | exact GTxn_row _ | exact GTxn_mk _ _ _) | with_reducible exact rfl | (refine z11 ?_; omega) | (refine z12 ?_; omega) | simp only [List.length_append, List.length_map, List.length_cons, List.length_nil, List.length_set, List.length_replicate])); (all_goals (fail_if_success (with_reducible show FZ _ _))); (all_goals (fail_if_success (with_reducible show List.contains _ _ = true))); (all_goals (fail_if_success (with_reducible show False))); (all_goals (fail_if_success (with_reducible show VSub _ _ _ _ _ _))))))))
    | ((with_reducible show CallL _ _ _ _);(first
      | ((first
      | (refine CallL.gv0 (im_in_c ?_ ?_ ?_) ?_ ?_;rotate_left 3)
      | (refine CallL.gv0 (im_isVal_c ?_) ?_ ?_;rotate_left 1)
      | (refine CallL.gv0 (im_isKey_c ?_) ?_ ?_;rotate_left 1)
      | (refine CallL.gv0 (im_keyOf_c ⟨?_,?_⟩) ?_ ?_;rotate_left 2)
      | (refine CallL.gv0 (im_pairsOk_1_c ⟨?_,?_⟩) ?_ ?_;rotate_left 2)
      | (refine CallL.gv0 (slices_IndexFunc_TxnPair_f_im_pairsOk_1_c ?_ ?_) ?_ ?_;rotate_left 2)
      | (refine CallL.gv0 (im_rising_TxnPair_f_im_keyOf_c ?_ ?_) ?_ ?_;rotate_left 2)
      | (refine CallL.gv0 (slices_ContainsFunc_TxnPair_f_im_pairsOk_1_c ?_ ?_) ?_ ?_;rotate_left 2)
      | (refine CallL.gv0 (im_TxnOk_4_c ⟨?_,?_,?_⟩) ?_ ?_;rotate_left 3)
      | (refine CallL.gv0 (im_TxnOk_5_c ⟨?_,?_,?_⟩) ?_ ?_;rotate_left 3)
      | (refine CallL.gv0 (im_own_c ?_) ?_ ?_;rotate_left 1)
      | (refine CallL.gv0 (im_TxnOk_1_c ⟨?_,?_,?_⟩) ?_ ?_;rotate_left 3)
      | (refine CallL.gv0 (slices_IndexFunc_TxnGuard_f_im_TxnOk_1_c ?_ ?_) ?_ ?_;rotate_left 2)
      | (refine CallL.gv0 (im_TxnOk_2_c ⟨?_,?_,?_⟩) ?_ ?_;rotate_left 3)
      | (refine CallL.gv0 (slices_IndexFunc_TxnSum_f_im_TxnOk_2_c ?_ ?_) ?_ ?_;rotate_left 2)
      | (refine CallL.gv0 (im_TxnOk_3_c ?_) ?_ ?_;rotate_left 1)
      | (refine CallL.gv0 (slices_IndexFunc_int_f_im_TxnOk_3_c ?_ ?_) ?_ ?_;rotate_left 2)
      | (refine CallL.gv0 (slices_ContainsFunc_TxnGuard_f_im_TxnOk_1_c ?_ ?_) ?_ ?_;rotate_left 2)
      | (refine CallL.gv0 (slices_ContainsFunc_TxnSum_f_im_TxnOk_2_c ?_ ?_) ?_ ?_;rotate_left 2)
      | (refine CallL.gv0 (slices_ContainsFunc_int_f_im_TxnOk_3_c ?_ ?_) ?_ ?_;rotate_left 2)
      | (refine CallL.gv0 (im_rising_TxnGuard_f_im_TxnOk_4_c ?_ ?_) ?_ ?_;rotate_left 2)
      | (refine CallL.gv0 (im_rising_TxnSum_f_im_TxnOk_5_c ?_ ?_) ?_ ?_;rotate_left 2)
      | (refine CallL.gv0 (im_rising_int_f_im_own_c ?_ ?_) ?_ ?_;rotate_left 2)
      | (refine CallL.gv0 (im_TxnOk_c ⟨?_,?_,?_⟩ ?_ ?_ ?_) ?_ ?_;rotate_left 6)
      | (refine CallL.gv0 (im_pairsOk_c ?_ ?_) ?_ ?_;rotate_left 2)
      | (refine CallL.gv0 (im_valOf_c ?_ ?_ ?_) ?_ ?_;rotate_left 3)
      ); (focus ((repeat' (first | simp only [z1, z2, z3, Nat.reduceEqDiff, Nat.reduceLT, not_false_eq_true] | exact z28 | refine z29 ?_ ?_ | exact z31 | refine z32 ?_ ?_ | refine z30 ?_ | exact z33 | refine z34 rfl ?_ ?_ | refine z35 ?_ | exact z13 | exact z14 | exact z15 | exact z16 | refine z17 ?_ | refine z18 rfl ?_ | refine z19 rfl ?_ ?_ | (show lτ _ _ = some _; exact rfl) | exact z20 rfl rfl | refine z20 rfl ?_ | refine z21 ?_ | refine z23 ?_ | exact z24 | refine z25 ?_ rfl rfl ?_ | refine z22 ?_ | refine z26 ?_ rfl rfl ?_ ?_ | refine z27 ?_ rfl rfl ?_ ?_ ?_ | exact True.intro | exact z4 rfl | exact z5 | exact z6 | exact z7 | exact z8 | exact z9 | exact z10 | refine z36 ?_ | refine z37 rfl ?_ | exact z38 | exact z39 | refine z40 (xs := ?_) (ys := ?_) ?_ ?_ | refine z41 (xs := ?_) (ys := ?_) ?_ ?_ ?_ ?_ | refine z42 (xs := ?_) ?_ | refine z43 (xs := ?_) ?_ | refine z44 (x := ?_) (xs := ?_) ?_ ?_ | refine RowsAre.rep (x := ?_) (n := ?_) ?_ | (with_reducible show RowIs _ _ _; first | exact Int_row _ | exact Str_row _) | (with_reducible show RowIs _ _ _; first | exact GTxnPair_row _ | exact GTxnPair_mk _ _ | exact GTxnGuard_row _ | exact GTxnGuard_mk _ _ _ | exact GTxnSum_row _ | exact GTxnSum_mk _ _ _ | exact GTxn_row _ | exact GTxn_mk _ _ _) | with_reducible exact rfl | (refine z11 ?_; omega) | (refine z12 ?_; omega) | simp only [List.length_append, List.length_map, List.length_cons, List.length_nil, List.length_set, List.length_replicate])); (all_goals (fail_if_success (with_reducible show FZ _ _))); (all_goals (fail_if_success (with_reducible show List.contains _ _ = true))); (all_goals (fail_if_success (with_reducible show False))); (all_goals (fail_if_success (with_reducible show VSub _ _ _ _ _ _))))))))
    | ((with_reducible show BackG _ _);(first
      | ((first
      | (guard_hyp t3;refine backR 2 (ix1 + 1) (Ent.places [] _ (by simp only [go_sem,reduceCtorEq,Nat.reduceAdd,Nat.reduceSub,Nat.reduceMul,Nat.reduceLeDiff,Nat.reduceLT,Nat.reduceEqDiff];rfl) rfl rfl (Nat.zero_le _) ?_ ?_) ?_ ?_;rotate_left 3;(focus ((try dsimp only);omega));rotate_right 3)
      | (guard_hyp t6;refine backR 2 (i + 1) (Ent.places [] _ (by simp only [go_sem,reduceCtorEq,Nat.reduceAdd,Nat.reduceSub,Nat.reduceMul,Nat.reduceLeDiff,Nat.reduceLT,Nat.reduceEqDiff];rfl) rfl rfl (Nat.zero_le _) ?_ ?_) ?_ ?_;rotate_left 3;(focus ((try dsimp only);omega));rotate_right 3)
      | (guard_hyp t7;refine backR 2 (ix1 + 1) (Ent.places [] _ (by simp only [go_sem,reduceCtorEq,Nat.reduceAdd,Nat.reduceSub,Nat.reduceMul,Nat.reduceLeDiff,Nat.reduceLT,Nat.reduceEqDiff];rfl) rfl rfl (Nat.zero_le _) ?_ ?_) ?_ ?_;rotate_left 3;(focus ((try dsimp only);omega));rotate_right 3)
      | (guard_hyp t16;refine backR 2 (i + 1) (Ent.places [] _ (by simp only [go_sem,reduceCtorEq,Nat.reduceAdd,Nat.reduceSub,Nat.reduceMul,Nat.reduceLeDiff,Nat.reduceLT,Nat.reduceEqDiff];rfl) rfl rfl (Nat.zero_le _) ?_ ?_) ?_ ?_;rotate_left 3;(focus ((try dsimp only);omega));rotate_right 3)
      | (guard_hyp t17;refine backR 2 (i + 1) (Ent.places [] _ (by simp only [go_sem,reduceCtorEq,Nat.reduceAdd,Nat.reduceSub,Nat.reduceMul,Nat.reduceLeDiff,Nat.reduceLT,Nat.reduceEqDiff];rfl) rfl rfl (Nat.zero_le _) ?_ ?_) ?_ ?_;rotate_left 3;(focus ((try dsimp only);omega));rotate_right 3)
      | (guard_hyp t18;refine backR 2 (i + 1) (Ent.places [] _ (by simp only [go_sem,reduceCtorEq,Nat.reduceAdd,Nat.reduceSub,Nat.reduceMul,Nat.reduceLeDiff,Nat.reduceLT,Nat.reduceEqDiff];rfl) rfl rfl (Nat.zero_le _) ?_ ?_) ?_ ?_;rotate_left 3;(focus ((try dsimp only);omega));rotate_right 3)
      | (guard_hyp t19;refine backR 2 (ix1 + 1) (Ent.places [] _ (by simp only [go_sem,reduceCtorEq,Nat.reduceAdd,Nat.reduceSub,Nat.reduceMul,Nat.reduceLeDiff,Nat.reduceLT,Nat.reduceEqDiff];rfl) rfl rfl (Nat.zero_le _) ?_ ?_) ?_ ?_;rotate_left 3;(focus ((try dsimp only);omega));rotate_right 3)
      | (guard_hyp t21;refine backR 2 (ix1 + 1) (Ent.places [] _ (by simp only [go_sem,reduceCtorEq,Nat.reduceAdd,Nat.reduceSub,Nat.reduceMul,Nat.reduceLeDiff,Nat.reduceLT,Nat.reduceEqDiff];rfl) rfl rfl (Nat.zero_le _) ?_ ?_) ?_ ?_;rotate_left 3;(focus ((try dsimp only);omega));rotate_right 3)
      | (guard_hyp t23;refine backR 2 (ix1 + 1) (Ent.places [] _ (by simp only [go_sem,reduceCtorEq,Nat.reduceAdd,Nat.reduceSub,Nat.reduceMul,Nat.reduceLeDiff,Nat.reduceLT,Nat.reduceEqDiff];rfl) rfl rfl (Nat.zero_le _) ?_ ?_) ?_ ?_;rotate_left 3;(focus ((try dsimp only);omega));rotate_right 3)
      | (guard_hyp t26;refine backR 4 (ix1 + 1) (Ent.places [.slot 2] _ (by simp only [go_sem,reduceCtorEq,Nat.reduceAdd,Nat.reduceSub,Nat.reduceMul,Nat.reduceLeDiff,Nat.reduceLT,Nat.reduceEqDiff];rfl) rfl rfl (Nat.zero_le _) ?_ ?_) ?_ ?_;rotate_left 3;(focus ((try dsimp only);omega));rotate_right 3)
      | (guard_hyp t26;refine backR 11 (?_,(ix2 + 1)) (Ent.places [.slot 9,.slot 2] _ (by simp only [go_sem,reduceCtorEq,Nat.reduceAdd,Nat.reduceSub,Nat.reduceMul,Nat.reduceLeDiff,Nat.reduceLT,Nat.reduceEqDiff];rfl) rfl rfl (Nat.zero_le _) ?_ ?_) ?_ ?_;rotate_left 1;rotate_left 3;(focus ((try dsimp only);omega));rotate_right 3)
      | (guard_hyp t26;refine backR 22 (?_,?_,(ix3 + 1)) (Ent.places [.slot 9,.slot 13,.slot 2] _ (by simp only [go_sem,reduceCtorEq,Nat.reduceAdd,Nat.reduceSub,Nat.reduceMul,Nat.reduceLeDiff,Nat.reduceLT,Nat.reduceEqDiff];rfl) rfl rfl (Nat.zero_le _) ?_ ?_) ?_ ?_;rotate_left 2;rotate_left 3;(focus ((try dsimp only);omega));rotate_right 3)
      ); (focus (repeat' (first | simp only [z1, z2, z3, Nat.reduceEqDiff, Nat.reduceLT, not_false_eq_true] | exact z28 | refine z29 ?_ ?_ | exact z31 | refine z32 ?_ ?_ | refine z30 ?_ | exact z33 | refine z34 rfl ?_ ?_ | refine z35 ?_ | exact z13 | exact z14 | exact z15 | exact z16 | refine z17 ?_ | refine z18 rfl ?_ | refine z19 rfl ?_ ?_ | (show lτ _ _ = some _; exact rfl) | exact z20 rfl rfl | refine z20 rfl ?_ | refine z21 ?_ | refine z23 ?_ | exact z24 | refine z25 ?_ rfl rfl ?_ | refine z22 ?_ | refine z26 ?_ rfl rfl ?_ ?_ | refine z27 ?_ rfl rfl ?_ ?_ ?_ | exact True.intro | exact z4 rfl | exact z5 | exact z6 | exact z7 | exact z8 | exact z9 | exact z10 | refine z36 ?_ | refine z37 rfl ?_ | exact z38 | exact z39 | refine z40 (xs := ?_) (ys := ?_) ?_ ?_ | refine z41 (xs := ?_) (ys := ?_) ?_ ?_ ?_ ?_ | refine z42 (xs := ?_) ?_ | refine z43 (xs := ?_) ?_ | refine z44 (x := ?_) (xs := ?_) ?_ ?_ | refine RowsAre.rep (x := ?_) (n := ?_) ?_ | (with_reducible show RowIs _ _ _; first | exact Int_row _ | exact Str_row _) | (with_reducible show RowIs _ _ _; first | exact GTxnPair_row _ | exact GTxnPair_mk _ _ | exact GTxnGuard_row _ | exact GTxnGuard_mk _ _ _ | exact GTxnSum_row _ | exact GTxnSum_mk _ _ _ | exact GTxn_row _ | exact GTxn_mk _ _ _) | with_reducible exact rfl | (refine z11 ?_; omega) | (refine z12 ?_; omega) | simp only [List.length_append, List.length_map, List.length_cons, List.length_nil, List.length_set, List.length_replicate]))); (focus (repeat' (first | simp only [z1, z2, z3, Nat.reduceEqDiff, Nat.reduceLT, not_false_eq_true] | exact z28 | refine z29 ?_ ?_ | exact z31 | refine z32 ?_ ?_ | refine z30 ?_ | exact z33 | refine z34 rfl ?_ ?_ | refine z35 ?_ | exact z13 | exact z14 | exact z15 | exact z16 | refine z17 ?_ | refine z18 rfl ?_ | refine z19 rfl ?_ ?_ | (show lτ _ _ = some _; exact rfl) | exact z20 rfl rfl | refine z20 rfl ?_ | refine z21 ?_ | refine z23 ?_ | exact z24 | refine z25 ?_ rfl rfl ?_ | refine z22 ?_ | refine z26 ?_ rfl rfl ?_ ?_ | refine z27 ?_ rfl rfl ?_ ?_ ?_ | exact True.intro | exact z4 rfl | exact z5 | exact z6 | exact z7 | exact z8 | exact z9 | exact z10 | refine z36 ?_ | refine z37 rfl ?_ | exact z38 | exact z39 | refine z40 (xs := ?_) (ys := ?_) ?_ ?_ | refine z41 (xs := ?_) (ys := ?_) ?_ ?_ ?_ ?_ | refine z42 (xs := ?_) ?_ | refine z43 (xs := ?_) ?_ | refine z44 (x := ?_) (xs := ?_) ?_ ?_ | refine RowsAre.rep (x := ?_) (n := ?_) ?_ | (with_reducible show RowIs _ _ _; first | exact Int_row _ | exact Str_row _) | (with_reducible show RowIs _ _ _; first | exact GTxnPair_row _ | exact GTxnPair_mk _ _ | exact GTxnGuard_row _ | exact GTxnGuard_mk _ _ _ | exact GTxnSum_row _ | exact GTxnSum_mk _ _ _ | exact GTxn_row _ | exact GTxn_mk _ _ _) | with_reducible exact rfl | (refine z11 ?_; omega) | (refine z12 ?_; omega) | simp only [List.length_append, List.length_map, List.length_cons, List.length_nil, List.length_set, List.length_replicate]))))
      | ((first
      | (guard_hyp t3;refine backR 2 (ix1 + 1) (Ent.places [] _ (by simp only [go_sem,reduceCtorEq,Nat.reduceAdd,Nat.reduceSub,Nat.reduceMul,Nat.reduceLeDiff,Nat.reduceLT,Nat.reduceEqDiff];rfl) rfl rfl (Nat.zero_le _) ?_ ?_) ?_ ?_)
      | (guard_hyp t6;refine backR 2 (i + 1) (Ent.places [] _ (by simp only [go_sem,reduceCtorEq,Nat.reduceAdd,Nat.reduceSub,Nat.reduceMul,Nat.reduceLeDiff,Nat.reduceLT,Nat.reduceEqDiff];rfl) rfl rfl (Nat.zero_le _) ?_ ?_) ?_ ?_)
      | (guard_hyp t7;refine backR 2 (ix1 + 1) (Ent.places [] _ (by simp only [go_sem,reduceCtorEq,Nat.reduceAdd,Nat.reduceSub,Nat.reduceMul,Nat.reduceLeDiff,Nat.reduceLT,Nat.reduceEqDiff];rfl) rfl rfl (Nat.zero_le _) ?_ ?_) ?_ ?_)
      | (guard_hyp t16;refine backR 2 (i + 1) (Ent.places [] _ (by simp only [go_sem,reduceCtorEq,Nat.reduceAdd,Nat.reduceSub,Nat.reduceMul,Nat.reduceLeDiff,Nat.reduceLT,Nat.reduceEqDiff];rfl) rfl rfl (Nat.zero_le _) ?_ ?_) ?_ ?_)
      | (guard_hyp t17;refine backR 2 (i + 1) (Ent.places [] _ (by simp only [go_sem,reduceCtorEq,Nat.reduceAdd,Nat.reduceSub,Nat.reduceMul,Nat.reduceLeDiff,Nat.reduceLT,Nat.reduceEqDiff];rfl) rfl rfl (Nat.zero_le _) ?_ ?_) ?_ ?_)
      | (guard_hyp t18;refine backR 2 (i + 1) (Ent.places [] _ (by simp only [go_sem,reduceCtorEq,Nat.reduceAdd,Nat.reduceSub,Nat.reduceMul,Nat.reduceLeDiff,Nat.reduceLT,Nat.reduceEqDiff];rfl) rfl rfl (Nat.zero_le _) ?_ ?_) ?_ ?_)
      | (guard_hyp t19;refine backR 2 (ix1 + 1) (Ent.places [] _ (by simp only [go_sem,reduceCtorEq,Nat.reduceAdd,Nat.reduceSub,Nat.reduceMul,Nat.reduceLeDiff,Nat.reduceLT,Nat.reduceEqDiff];rfl) rfl rfl (Nat.zero_le _) ?_ ?_) ?_ ?_)
      | (guard_hyp t21;refine backR 2 (ix1 + 1) (Ent.places [] _ (by simp only [go_sem,reduceCtorEq,Nat.reduceAdd,Nat.reduceSub,Nat.reduceMul,Nat.reduceLeDiff,Nat.reduceLT,Nat.reduceEqDiff];rfl) rfl rfl (Nat.zero_le _) ?_ ?_) ?_ ?_)
      | (guard_hyp t23;refine backR 2 (ix1 + 1) (Ent.places [] _ (by simp only [go_sem,reduceCtorEq,Nat.reduceAdd,Nat.reduceSub,Nat.reduceMul,Nat.reduceLeDiff,Nat.reduceLT,Nat.reduceEqDiff];rfl) rfl rfl (Nat.zero_le _) ?_ ?_) ?_ ?_)
      | (guard_hyp t26;refine backR 4 (ix1 + 1) (Ent.places [.slot 2] _ (by simp only [go_sem,reduceCtorEq,Nat.reduceAdd,Nat.reduceSub,Nat.reduceMul,Nat.reduceLeDiff,Nat.reduceLT,Nat.reduceEqDiff];rfl) rfl rfl (Nat.zero_le _) ?_ ?_) ?_ ?_)
      | (guard_hyp t26;refine backR 11 (?_,(ix2 + 1)) (Ent.places [.slot 9,.slot 2] _ (by simp only [go_sem,reduceCtorEq,Nat.reduceAdd,Nat.reduceSub,Nat.reduceMul,Nat.reduceLeDiff,Nat.reduceLT,Nat.reduceEqDiff];rfl) rfl rfl (Nat.zero_le _) ?_ ?_) ?_ ?_;rotate_left 1)
      | (guard_hyp t26;refine backR 22 (?_,?_,(ix3 + 1)) (Ent.places [.slot 9,.slot 13,.slot 2] _ (by simp only [go_sem,reduceCtorEq,Nat.reduceAdd,Nat.reduceSub,Nat.reduceMul,Nat.reduceLeDiff,Nat.reduceLT,Nat.reduceEqDiff];rfl) rfl rfl (Nat.zero_le _) ?_ ?_) ?_ ?_;rotate_left 2)
      ); (focus (repeat' (first | simp only [z1, z2, z3, Nat.reduceEqDiff, Nat.reduceLT, not_false_eq_true] | exact z28 | refine z29 ?_ ?_ | exact z31 | refine z32 ?_ ?_ | refine z30 ?_ | exact z33 | refine z34 rfl ?_ ?_ | refine z35 ?_ | exact z13 | exact z14 | exact z15 | exact z16 | refine z17 ?_ | refine z18 rfl ?_ | refine z19 rfl ?_ ?_ | (show lτ _ _ = some _; exact rfl) | exact z20 rfl rfl | refine z20 rfl ?_ | refine z21 ?_ | refine z23 ?_ | exact z24 | refine z25 ?_ rfl rfl ?_ | refine z22 ?_ | refine z26 ?_ rfl rfl ?_ ?_ | refine z27 ?_ rfl rfl ?_ ?_ ?_ | exact True.intro | exact z4 rfl | exact z5 | exact z6 | exact z7 | exact z8 | exact z9 | exact z10 | refine z36 ?_ | refine z37 rfl ?_ | exact z38 | exact z39 | refine z40 (xs := ?_) (ys := ?_) ?_ ?_ | refine z41 (xs := ?_) (ys := ?_) ?_ ?_ ?_ ?_ | refine z42 (xs := ?_) ?_ | refine z43 (xs := ?_) ?_ | refine z44 (x := ?_) (xs := ?_) ?_ ?_ | refine RowsAre.rep (x := ?_) (n := ?_) ?_ | (with_reducible show RowIs _ _ _; first | exact Int_row _ | exact Str_row _) | (with_reducible show RowIs _ _ _; first | exact GTxnPair_row _ | exact GTxnPair_mk _ _ | exact GTxnGuard_row _ | exact GTxnGuard_mk _ _ _ | exact GTxnSum_row _ | exact GTxnSum_mk _ _ _ | exact GTxn_row _ | exact GTxn_mk _ _ _) | with_reducible exact rfl | (refine z11 ?_; omega) | (refine z12 ?_; omega) | simp only [List.length_append, List.length_map, List.length_cons, List.length_nil, List.length_set, List.length_replicate]))); (focus (repeat' (first | simp only [z1, z2, z3, Nat.reduceEqDiff, Nat.reduceLT, not_false_eq_true] | exact z28 | refine z29 ?_ ?_ | exact z31 | refine z32 ?_ ?_ | refine z30 ?_ | exact z33 | refine z34 rfl ?_ ?_ | refine z35 ?_ | exact z13 | exact z14 | exact z15 | exact z16 | refine z17 ?_ | refine z18 rfl ?_ | refine z19 rfl ?_ ?_ | (show lτ _ _ = some _; exact rfl) | exact z20 rfl rfl | refine z20 rfl ?_ | refine z21 ?_ | refine z23 ?_ | exact z24 | refine z25 ?_ rfl rfl ?_ | refine z22 ?_ | refine z26 ?_ rfl rfl ?_ ?_ | refine z27 ?_ rfl rfl ?_ ?_ ?_ | exact True.intro | exact z4 rfl | exact z5 | exact z6 | exact z7 | exact z8 | exact z9 | exact z10 | refine z36 ?_ | refine z37 rfl ?_ | exact z38 | exact z39 | refine z40 (xs := ?_) (ys := ?_) ?_ ?_ | refine z41 (xs := ?_) (ys := ?_) ?_ ?_ ?_ ?_ | refine z42 (xs := ?_) ?_ | refine z43 (xs := ?_) ?_ | refine z44 (x := ?_) (xs := ?_) ?_ ?_ | refine RowsAre.rep (x := ?_) (n := ?_) ?_ | (with_reducible show RowIs _ _ _; first | exact Int_row _ | exact Str_row _) | (with_reducible show RowIs _ _ _; first | exact GTxnPair_row _ | exact GTxnPair_mk _ _ | exact GTxnGuard_row _ | exact GTxnGuard_mk _ _ _ | exact GTxnSum_row _ | exact GTxnSum_mk _ _ _ | exact GTxn_row _ | exact GTxn_mk _ _ _) | with_reducible exact rfl | (refine z11 ?_; omega) | (refine z12 ?_; omega) | simp only [List.length_append, List.length_map, List.length_cons, List.length_nil, List.length_set, List.length_replicate]))); rotate_left 1; (focus ((try dsimp only); first | omega | (simp only [List.length_set, List.length_append, List.length_cons, List.length_nil]; omega))))))
    | ((with_reducible show EndK _ _ _ _ _ _ _);(first
      | ((first
      | (guard_hyp t0;refine EndK.eqv (vs := ?_) (f := fun x : Bool => .lit (.bool x)) ?_ (by first|exact .inr rfl|exact .inl rfl) ?_ ?_ ?_;rotate_left 2)
      | (guard_hyp t1;refine EndK.eqv (vs := ?_) (f := fun x : Bool => .lit (.bool x)) ?_ (by first|exact .inr rfl|exact .inl rfl) ?_ ?_ ?_;rotate_left 2)
      | (guard_hyp t2;refine EndK.eqv (vs := ?_) (f := fun x : Bool => .lit (.bool x)) ?_ (by first|exact .inr rfl|exact .inl rfl) ?_ ?_ ?_;rotate_left 2)
      | (guard_hyp t3;refine EndK.eqv (vs := ?_) (f := fun x : Int => .lit (.int .i64 x)) ?_ (by first|exact .inr rfl|exact .inl rfl) ?_ ?_ ?_;rotate_left 2)
      | (guard_hyp t4;refine EndK.eqv (vs := ?_) (f := fun x : Bool => .lit (.bool x)) ?_ (by first|exact .inr rfl|exact .inl rfl) ?_ ?_ ?_;rotate_left 2)
      | (guard_hyp t5;refine EndK.eqv (vs := ?_) (f := fun x : Int => .lit (.int .i64 x)) ?_ (by first|exact .inr rfl|exact .inl rfl) ?_ ?_ ?_;rotate_left 2)
      | (guard_hyp t6;refine EndK.eqv (vs := ?_) (f := fun x : Bool => .lit (.bool x)) ?_ (by first|exact .inr rfl|exact .inl rfl) ?_ ?_ ?_;rotate_left 2)
      | (guard_hyp t7;refine EndK.eqv (vs := ?_) (f := fun x : Int => .lit (.int .i64 x)) ?_ (by first|exact .inr rfl|exact .inl rfl) ?_ ?_ ?_;rotate_left 2)
      | (guard_hyp t8;refine EndK.eqv (vs := ?_) (f := fun x : Bool => .lit (.bool x)) ?_ (by first|exact .inr rfl|exact .inl rfl) ?_ ?_ ?_;rotate_left 2)
      | (guard_hyp t9;refine EndK.eqv (vs := ?_) (f := fun x : Bool => .lit (.bool x)) ?_ (by first|exact .inr rfl|exact .inl rfl) ?_ ?_ ?_;rotate_left 2)
      | (guard_hyp t10;refine EndK.eqv (vs := ?_) (f := fun x : Bool => .lit (.bool x)) ?_ (by first|exact .inr rfl|exact .inl rfl) ?_ ?_ ?_;rotate_left 2)
      | (guard_hyp t11;refine EndK.eqv (vs := ?_) (f := fun x : Bool => .lit (.bool x)) ?_ (by first|exact .inr rfl|exact .inl rfl) ?_ ?_ ?_;rotate_left 2)
      | (guard_hyp t12;refine EndK.eqv (vs := ?_) (f := fun x : Bool => .lit (.bool x)) ?_ (by first|exact .inr rfl|exact .inl rfl) ?_ ?_ ?_;rotate_left 2)
      | (guard_hyp t13;refine EndK.eqv (vs := ?_) (f := fun x : Int => .lit (.int .i64 x)) ?_ (by first|exact .inr rfl|exact .inl rfl) ?_ ?_ ?_;rotate_left 2)
      | (guard_hyp t14;refine EndK.eqv (vs := ?_) (f := fun x : Int => .lit (.int .i64 x)) ?_ (by first|exact .inr rfl|exact .inl rfl) ?_ ?_ ?_;rotate_left 2)
      | (guard_hyp t15;refine EndK.eqv (vs := ?_) (f := fun x : Int => .lit (.int .i64 x)) ?_ (by first|exact .inr rfl|exact .inl rfl) ?_ ?_ ?_;rotate_left 2)
      | (guard_hyp t16;refine EndK.eqv (vs := ?_) (f := fun x : Bool => .lit (.bool x)) ?_ (by first|exact .inr rfl|exact .inl rfl) ?_ ?_ ?_;rotate_left 2)
      | (guard_hyp t17;refine EndK.eqv (vs := ?_) (f := fun x : Bool => .lit (.bool x)) ?_ (by first|exact .inr rfl|exact .inl rfl) ?_ ?_ ?_;rotate_left 2)
      | (guard_hyp t18;refine EndK.eqv (vs := ?_) (f := fun x : Bool => .lit (.bool x)) ?_ (by first|exact .inr rfl|exact .inl rfl) ?_ ?_ ?_;rotate_left 2)
      | (guard_hyp t19;refine EndK.eqv (vs := ?_) (f := fun x : Int => .lit (.int .i64 x)) ?_ (by first|exact .inr rfl|exact .inl rfl) ?_ ?_ ?_;rotate_left 2)
      | (guard_hyp t20;refine EndK.eqv (vs := ?_) (f := fun x : Bool => .lit (.bool x)) ?_ (by first|exact .inr rfl|exact .inl rfl) ?_ ?_ ?_;rotate_left 2)
      | (guard_hyp t21;refine EndK.eqv (vs := ?_) (f := fun x : Int => .lit (.int .i64 x)) ?_ (by first|exact .inr rfl|exact .inl rfl) ?_ ?_ ?_;rotate_left 2)
      | (guard_hyp t22;refine EndK.eqv (vs := ?_) (f := fun x : Bool => .lit (.bool x)) ?_ (by first|exact .inr rfl|exact .inl rfl) ?_ ?_ ?_;rotate_left 2)
      | (guard_hyp t23;refine EndK.eqv (vs := ?_) (f := fun x : Int => .lit (.int .i64 x)) ?_ (by first|exact .inr rfl|exact .inl rfl) ?_ ?_ ?_;rotate_left 2)
      | (guard_hyp t24;refine EndK.eqv (vs := ?_) (f := fun x : Bool => .lit (.bool x)) ?_ (by first|exact .inr rfl|exact .inl rfl) ?_ ?_ ?_;rotate_left 2)
      | (guard_hyp t25;refine EndK.eqv (vs := ?_) (f := fun x : Bool => .lit (.bool x)) ?_ (by first|exact .inr rfl|exact .inl rfl) ?_ ?_ ?_;rotate_left 2)
      | (guard_hyp t26;refine EndK.eqv (vs := ?_) (f := fun x : (List GTxnPair) × Int × (List Int) => .tup [.r (.rd 2 encGTxnPair x.1),.lit (.int .i64 x.2.1),.r (.rd 1 encInt x.2.2)]) (?_,?_,?_) (by first|exact .inr rfl|exact .inl rfl) ?_ ?_ ?_;rotate_left 4)
      ); (focus (simp only [go_sem, reduceCtorEq, Nat.reduceAdd, Nat.reduceSub, Nat.reduceMul, Nat.reduceLeDiff, Nat.reduceLT, Nat.reduceEqDiff]; exact rfl)); (focus (repeat' (first | simp only [z1, z2, z3, Nat.reduceEqDiff, Nat.reduceLT, not_false_eq_true] | exact z28 | refine z29 ?_ ?_ | exact z31 | refine z32 ?_ ?_ | refine z30 ?_ | exact z33 | refine z34 rfl ?_ ?_ | refine z35 ?_ | exact z13 | exact z14 | exact z15 | exact z16 | refine z17 ?_ | refine z18 rfl ?_ | refine z19 rfl ?_ ?_ | (show lτ _ _ = some _; exact rfl) | exact z20 rfl rfl | refine z20 rfl ?_ | refine z21 ?_ | refine z23 ?_ | exact z24 | refine z25 ?_ rfl rfl ?_ | refine z22 ?_ | refine z26 ?_ rfl rfl ?_ ?_ | refine z27 ?_ rfl rfl ?_ ?_ ?_ | exact True.intro | exact z4 rfl | exact z5 | exact z6 | exact z7 | exact z8 | exact z9 | exact z10 | refine z36 ?_ | refine z37 rfl ?_ | exact z38 | exact z39 | refine z40 (xs := ?_) (ys := ?_) ?_ ?_ | refine z41 (xs := ?_) (ys := ?_) ?_ ?_ ?_ ?_ | refine z42 (xs := ?_) ?_ | refine z43 (xs := ?_) ?_ | refine z44 (x := ?_) (xs := ?_) ?_ ?_ | refine RowsAre.rep (x := ?_) (n := ?_) ?_ | (with_reducible show RowIs _ _ _; first | exact Int_row _ | exact Str_row _) | (with_reducible show RowIs _ _ _; first | exact GTxnPair_row _ | exact GTxnPair_mk _ _ | exact GTxnGuard_row _ | exact GTxnGuard_mk _ _ _ | exact GTxnSum_row _ | exact GTxnSum_mk _ _ _ | exact GTxn_row _ | exact GTxn_mk _ _ _) | with_reducible exact rfl | (refine z11 ?_; omega) | (refine z12 ?_; omega) | simp only [List.length_append, List.length_map, List.length_cons, List.length_nil, List.length_set, List.length_replicate]))))))
    | (refine h1 _ _ ?_;clear h1 K1)
    | (with_reducible refine GTxnPair_ex _ _ ?_)
    | (with_reducible refine GTxnGuard_ex _ _ _ ?_)
    | (with_reducible refine GTxnSum_ex _ _ _ ?_)
    | (with_reducible refine GInt_ex _ ?_)
    | refine And.intro ?_ ?_
    | ((first|with_reducible show (_ : Int) ≤ _|with_reducible show (_ : Int) < _|with_reducible show (_ : Int) = _|with_reducible show (_ : Nat) ≤ _|with_reducible show (_ : Nat) < _|with_reducible show (_ : Nat) = _|with_reducible show ¬ _|with_reducible show _ ≠ _|with_reducible show False);omega)
    | (intro h;(try simp only [decide_eq_true_eq,decide_eq_false_iff_not,Int.not_lt,Int.not_le,beq_iff_eq,bne_iff_ne,beq_eq_false_iff_ne,bne_eq_false_iff_eq,ne_eq,Bool.not_eq_true',Bool.not_eq_false',Decidable.not_not] at h);(try contradiction)))
  all_goals (try clear h1); all_goals (try clear K1); all_goals (try clear hK); all_goals (try clear K); all_goals (try dsimp only); all_goals (try simp only [Bool.not_eq_false', Bool.not_eq_true', decide_eq_true_eq, decide_eq_false_iff_not] at *); all_goals (try simp only [GTxnPair_eta, GTxnGuard_eta, GTxnSum_eta, GTxn_eta] at *); all_goals (try clear im_in_c); all_goals (try clear im_isKey_c); all_goals (try clear im_isVal_c); all_goals (try clear im_keyOf_c); all_goals (try clear im_pairsOk_1_c); all_goals (try clear slices_IndexFunc_TxnPair_f_im_pairsOk_1_c); all_goals (try clear im_rising_TxnPair_f_im_keyOf_c); all_goals (try clear slices_ContainsFunc_TxnPair_f_im_pairsOk_1_c); all_goals (try clear im_TxnOk_4_c); all_goals (try clear im_TxnOk_5_c); all_goals (try clear im_own_c); all_goals (try clear im_TxnOk_1_c); all_goals (try clear slices_IndexFunc_TxnGuard_f_im_TxnOk_1_c); all_goals (try clear im_TxnOk_2_c); all_goals (try clear slices_IndexFunc_TxnSum_f_im_TxnOk_2_c); all_goals (try clear im_TxnOk_3_c); all_goals (try clear slices_IndexFunc_int_f_im_TxnOk_3_c); all_goals (try clear im_rising_TxnGuard_f_im_TxnOk_4_c); all_goals (try clear im_rising_TxnSum_f_im_TxnOk_5_c); all_goals (try clear im_rising_int_f_im_own_c); all_goals (try clear slices_ContainsFunc_TxnGuard_f_im_TxnOk_1_c); all_goals (try clear slices_ContainsFunc_TxnSum_f_im_TxnOk_2_c); all_goals (try clear slices_ContainsFunc_int_f_im_TxnOk_3_c); all_goals (try clear im_valOf_c); all_goals (try clear im_pairsOk_c); all_goals (try clear im_TxnOk_c)
  all_goals first
    | omega
    | (simp only [List.length_cons,List.length_nil,Nat.reduceAdd];done)
    | (simp only [List.length_set,List.length_append,List.length_cons,List.length_nil,List.length_map,List.length_take,List.length_drop];omega)
    | (obtain ⟨x,_,rfl⟩ := List.mem_map.1 (by assumption);rfl)
    | (obtain ⟨x,_,rfl⟩ := List.mem_map.1 (List.mem_of_mem_take (by assumption));rfl)
    | (obtain ⟨x,_,rfl⟩ := List.mem_map.1 (List.mem_of_mem_drop (List.mem_of_mem_take (by assumption)));rfl)
    | (simp (disch := omega) only [wr_id];omega)
    | (guard_hyp t0;first|(rw [im_in];all_goals first|grind|(repeat' split) <;> first|rfl|grind))
    | (guard_hyp t1;first|(rw [im_isKey];all_goals first|grind|(repeat' split) <;> first|rfl|grind))
    | (guard_hyp t2;first|(rw [im_isVal];all_goals first|grind|(repeat' split) <;> first|rfl|grind))
    | (guard_hyp t3;first|(rw [im_valOf_K1,im_valOf_L1] at hM;rw [im_valOf_K1];all_goals grind)|(rw [im_valOf_K1,im_valOf_L1] at hM;grind)|(rw [im_valOf];all_goals first|grind|(repeat' split) <;> first|rfl|grind))
    | (guard_hyp t4;first|(rw [im_pairsOk_1];all_goals first|grind|(repeat' split) <;> first|rfl|grind))
    | (guard_hyp t5;first|(rw [im_keyOf];all_goals first|grind|(repeat' split) <;> first|rfl|grind))
    | (guard_hyp t6;first|(rw [im_rising_TxnPair_f_im_keyOf_K1,im_rising_TxnPair_f_im_keyOf_L1] at hM;rw [im_rising_TxnPair_f_im_keyOf_K1];all_goals grind)|(rw [im_rising_TxnPair_f_im_keyOf_K1,im_rising_TxnPair_f_im_keyOf_L1] at hM;grind)|(rw [im_rising_TxnPair_f_im_keyOf];all_goals first|grind|(repeat' split) <;> first|rfl|grind))
    | (guard_hyp t7;first|(rw [slices_IndexFunc_TxnPair_f_im_pairsOk_1_K1,slices_IndexFunc_TxnPair_f_im_pairsOk_1_L1] at hM;rw [slices_IndexFunc_TxnPair_f_im_pairsOk_1_K1];all_goals grind)|(rw [slices_IndexFunc_TxnPair_f_im_pairsOk_1_K1,slices_IndexFunc_TxnPair_f_im_pairsOk_1_L1] at hM;grind)|(rw [slices_IndexFunc_TxnPair_f_im_pairsOk_1];all_goals first|grind|(repeat' split) <;> first|rfl|grind))
    | (guard_hyp t8;first|(rw [slices_ContainsFunc_TxnPair_f_im_pairsOk_1];all_goals first|grind|(repeat' split) <;> first|rfl|grind))
    | (guard_hyp t9;first|(rw [im_pairsOk];all_goals first|grind|(repeat' split) <;> first|rfl|grind))
    | (guard_hyp t10;first|(rw [im_TxnOk_1];all_goals first|grind|(repeat' split) <;> first|rfl|grind))
    | (guard_hyp t11;first|(rw [im_TxnOk_2];all_goals first|grind|(repeat' split) <;> first|rfl|grind))
    | (guard_hyp t12;first|(rw [im_TxnOk_3];all_goals first|grind|(repeat' split) <;> first|rfl|grind))
    | (guard_hyp t13;first|(rw [im_TxnOk_4];all_goals first|grind|(repeat' split) <;> first|rfl|grind))
    | (guard_hyp t14;first|(rw [im_TxnOk_5];all_goals first|grind|(repeat' split) <;> first|rfl|grind))
    | (guard_hyp t15;first|(rw [im_own];all_goals first|grind|(repeat' split) <;> first|rfl|grind))
    | (guard_hyp t16;first|(rw [im_rising_TxnGuard_f_im_TxnOk_4_K1,im_rising_TxnGuard_f_im_TxnOk_4_L1] at hM;rw [im_rising_TxnGuard_f_im_TxnOk_4_K1];all_goals grind)|(rw [im_rising_TxnGuard_f_im_TxnOk_4_K1,im_rising_TxnGuard_f_im_TxnOk_4_L1] at hM;grind)|(rw [im_rising_TxnGuard_f_im_TxnOk_4];all_goals first|grind|(repeat' split) <;> first|rfl|grind))
    | (guard_hyp t17;first|(rw [im_rising_TxnSum_f_im_TxnOk_5_K1,im_rising_TxnSum_f_im_TxnOk_5_L1] at hM;rw [im_rising_TxnSum_f_im_TxnOk_5_K1];all_goals grind)|(rw [im_rising_TxnSum_f_im_TxnOk_5_K1,im_rising_TxnSum_f_im_TxnOk_5_L1] at hM;grind)|(rw [im_rising_TxnSum_f_im_TxnOk_5];all_goals first|grind|(repeat' split) <;> first|rfl|grind))
    | (guard_hyp t18;first|(rw [im_rising_int_f_im_own_K1,im_rising_int_f_im_own_L1] at hM;rw [im_rising_int_f_im_own_K1];all_goals grind)|(rw [im_rising_int_f_im_own_K1,im_rising_int_f_im_own_L1] at hM;grind)|(rw [im_rising_int_f_im_own];all_goals first|grind|(repeat' split) <;> first|rfl|grind))
    | (guard_hyp t19;first|(rw [slices_IndexFunc_TxnGuard_f_im_TxnOk_1_K1,slices_IndexFunc_TxnGuard_f_im_TxnOk_1_L1] at hM;rw [slices_IndexFunc_TxnGuard_f_im_TxnOk_1_K1];all_goals grind)|(rw [slices_IndexFunc_TxnGuard_f_im_TxnOk_1_K1,slices_IndexFunc_TxnGuard_f_im_TxnOk_1_L1] at hM;grind)|(rw [slices_IndexFunc_TxnGuard_f_im_TxnOk_1];all_goals first|grind|(repeat' split) <;> first|rfl|grind))
    | (guard_hyp t20;first|(rw [slices_ContainsFunc_TxnGuard_f_im_TxnOk_1];all_goals first|grind|(repeat' split) <;> first|rfl|grind))
    | (guard_hyp t21;first|(rw [slices_IndexFunc_TxnSum_f_im_TxnOk_2_K1,slices_IndexFunc_TxnSum_f_im_TxnOk_2_L1] at hM;rw [slices_IndexFunc_TxnSum_f_im_TxnOk_2_K1];all_goals grind)|(rw [slices_IndexFunc_TxnSum_f_im_TxnOk_2_K1,slices_IndexFunc_TxnSum_f_im_TxnOk_2_L1] at hM;grind)|(rw [slices_IndexFunc_TxnSum_f_im_TxnOk_2];all_goals first|grind|(repeat' split) <;> first|rfl|grind))
    | (guard_hyp t22;first|(rw [slices_ContainsFunc_TxnSum_f_im_TxnOk_2];all_goals first|grind|(repeat' split) <;> first|rfl|grind))
    | (guard_hyp t23;first|(rw [slices_IndexFunc_int_f_im_TxnOk_3_K1,slices_IndexFunc_int_f_im_TxnOk_3_L1] at hM;rw [slices_IndexFunc_int_f_im_TxnOk_3_K1];all_goals grind)|(rw [slices_IndexFunc_int_f_im_TxnOk_3_K1,slices_IndexFunc_int_f_im_TxnOk_3_L1] at hM;grind)|(rw [slices_IndexFunc_int_f_im_TxnOk_3];all_goals first|grind|(repeat' split) <;> first|rfl|grind))
    | (guard_hyp t24;first|(rw [slices_ContainsFunc_int_f_im_TxnOk_3];all_goals first|grind|(repeat' split) <;> first|rfl|grind))
    | (guard_hyp t25;first|(rw [im_TxnOk];all_goals first|grind|(repeat' split) <;> first|rfl|grind))
    | (guard_hyp t26;first|(rw [im_TxnRun_K1,im_TxnRun_L1] at hM;rw [im_TxnRun_K1];all_goals grind)|(rw [im_TxnRun_K1,im_TxnRun_L1] at hM;grind)|(rw [im_TxnRun_K2,im_TxnRun_L2] at hM;rw [im_TxnRun_K2];all_goals grind)|(rw [im_TxnRun_K2,im_TxnRun_L2] at hM;grind)|(rw [im_TxnRun_K3,im_TxnRun_L3] at hM;rw [im_TxnRun_K3];all_goals grind)|(rw [im_TxnRun_K3,im_TxnRun_L3] at hM;grind)|(rw [im_TxnRun];all_goals first|grind|(repeat' split) <;> first|rfl|grind))
    | grind)
theorem im_in_c : Sim_in_c := layU11.1
theorem im_isKey_c : Sim_isKey_c := layU11.2.1 im_in_c
theorem im_isVal_c : Sim_isVal_c := layU11.2.2.1 im_in_c
theorem im_valOf_c : Sim_valOf_c := layU11.2.2.2.1
theorem im_pairsOk_1_c : Sim_pairsOk_1_c := layU11.2.2.2.2.1 im_isKey_c im_isVal_c
theorem im_keyOf_c : Sim_keyOf_c := layU11.2.2.2.2.2.1
theorem im_rising_TxnPair_f_im_keyOf_c : Sim_rising_TxnPair_f_im_keyOf_c := layU11.2.2.2.2.2.2.1 im_keyOf_c
theorem slices_IndexFunc_TxnPair_f_im_pairsOk_1_c : Sslices_IndexFunc_TxnPair_f_im_pairsOk_1_c := layU11.2.2.2.2.2.2.2.1 im_pairsOk_1_c
theorem slices_ContainsFunc_TxnPair_f_im_pairsOk_1_c : Sslices_ContainsFunc_TxnPair_f_im_pairsOk_1_c := layU11.2.2.2.2.2.2.2.2.1 slices_IndexFunc_TxnPair_f_im_pairsOk_1_c
theorem im_pairsOk_c : Sim_pairsOk_c := layU11.2.2.2.2.2.2.2.2.2.1 im_rising_TxnPair_f_im_keyOf_c slices_ContainsFunc_TxnPair_f_im_pairsOk_1_c
theorem im_TxnOk_1_c : Sim_TxnOk_1_c := layU11.2.2.2.2.2.2.2.2.2.2.1 im_isKey_c im_isVal_c
theorem im_TxnOk_2_c : Sim_TxnOk_2_c := layU11.2.2.2.2.2.2.2.2.2.2.2.1 im_isKey_c im_isVal_c
theorem im_TxnOk_3_c : Sim_TxnOk_3_c := layU11.2.2.2.2.2.2.2.2.2.2.2.2.1 im_isKey_c
theorem im_TxnOk_4_c : Sim_TxnOk_4_c := layU11.2.2.2.2.2.2.2.2.2.2.2.2.2.1
theorem im_TxnOk_5_c : Sim_TxnOk_5_c := layU11.2.2.2.2.2.2.2.2.2.2.2.2.2.2.1
theorem im_own_c : Sim_own_c := layU11.2.2.2.2.2.2.2.2.2.2.2.2.2.2.2.1
theorem im_rising_TxnGuard_f_im_TxnOk_4_c : Sim_rising_TxnGuard_f_im_TxnOk_4_c := layU11.2.2.2.2.2.2.2.2.2.2.2.2.2.2.2.2.1 im_TxnOk_4_c
theorem im_rising_TxnSum_f_im_TxnOk_5_c : Sim_rising_TxnSum_f_im_TxnOk_5_c := layU11.2.2.2.2.2.2.2.2.2.2.2.2.2.2.2.2.2.1 im_TxnOk_5_c
theorem im_rising_int_f_im_own_c : Sim_rising_int_f_im_own_c := layU11.2.2.2.2.2.2.2.2.2.2.2.2.2.2.2.2.2.2.1 im_own_c
theorem slices_IndexFunc_TxnGuard_f_im_TxnOk_1_c : Sslices_IndexFunc_TxnGuard_f_im_TxnOk_1_c := layU11.2.2.2.2.2.2.2.2.2.2.2.2.2.2.2.2.2.2.2.1 im_TxnOk_1_c
theorem slices_ContainsFunc_TxnGuard_f_im_TxnOk_1_c : Sslices_ContainsFunc_TxnGuard_f_im_TxnOk_1_c := layU11.2.2.2.2.2.2.2.2.2.2.2.2.2.2.2.2.2.2.2.2.1 slices_IndexFunc_TxnGuard_f_im_TxnOk_1_c
theorem slices_IndexFunc_TxnSum_f_im_TxnOk_2_c : Sslices_IndexFunc_TxnSum_f_im_TxnOk_2_c := layU11.2.2.2.2.2.2.2.2.2.2.2.2.2.2.2.2.2.2.2.2.2.1 im_TxnOk_2_c
theorem slices_ContainsFunc_TxnSum_f_im_TxnOk_2_c : Sslices_ContainsFunc_TxnSum_f_im_TxnOk_2_c := layU11.2.2.2.2.2.2.2.2.2.2.2.2.2.2.2.2.2.2.2.2.2.2.1 slices_IndexFunc_TxnSum_f_im_TxnOk_2_c
theorem slices_IndexFunc_int_f_im_TxnOk_3_c : Sslices_IndexFunc_int_f_im_TxnOk_3_c := layU11.2.2.2.2.2.2.2.2.2.2.2.2.2.2.2.2.2.2.2.2.2.2.2.1 im_TxnOk_3_c
theorem slices_ContainsFunc_int_f_im_TxnOk_3_c : Sslices_ContainsFunc_int_f_im_TxnOk_3_c := layU11.2.2.2.2.2.2.2.2.2.2.2.2.2.2.2.2.2.2.2.2.2.2.2.2.1 slices_IndexFunc_int_f_im_TxnOk_3_c
theorem im_TxnOk_c : Sim_TxnOk_c := layU11.2.2.2.2.2.2.2.2.2.2.2.2.2.2.2.2.2.2.2.2.2.2.2.2.2.1 im_rising_TxnGuard_f_im_TxnOk_4_c im_rising_TxnSum_f_im_TxnOk_5_c im_rising_int_f_im_own_c slices_ContainsFunc_TxnGuard_f_im_TxnOk_1_c slices_ContainsFunc_TxnSum_f_im_TxnOk_2_c slices_ContainsFunc_int_f_im_TxnOk_3_c
theorem im_TxnRun_c : Sim_TxnRun_c := layU11.2.2.2.2.2.2.2.2.2.2.2.2.2.2.2.2.2.2.2.2.2.2.2.2.2.2 im_in_c im_isVal_c im_valOf_c im_pairsOk_c im_TxnOk_c
end Go.Proofs.Ytghkelfpomfadaa
