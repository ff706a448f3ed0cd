/- The structs of this seat as plain Lean structures, and how they lie in cells. -/
import Derived.Test.YtlojldccjmkikaaGreatTy
import Derived.Test.YtlojldccjmkikaaGreatA4
set_option linter.unusedVariables false
set_option linter.unusedSimpArgs false
section
namespace Go.Proofs.YtlojldccjmkikaaGreat
open Go.Ae
set_option linter.unusedVariables false
attribute [go_sem] ty3 ty4 un4 ty5 ty9 ty22 ty23 ty24 ty25 ty27 ty29 ty33 ty35 ty36 ty38 ty39 ty42 ty44 ty45 ty47 ty54 ty57 ty63 ty66 ty82 ty91 ty101 ty103 ty105 ty108 ty110 ty122 ty123 ty125 ty130 ty137 ty141 ty144 ty148 ty151 ty152 ty156 ty157 ty158 ty160 ty164 ty167 ty168 ty170 ty176 ty177 ty179 ty182 ty184 ty185 ty186 ty187 ty188 ty190 ty192 ty199 ty201 ty213 ty221 ty223 ty225 ty228 el22 el23 el24 el25 fk27 el33 el36 fk39 el42 el45 el54 el57 fk82 el91 fk105 fk122 el141 fk144 fk148 el156 el157 el158 el167 el168 el185 el186 el187 el188 fk199 fk201 ft82_1 hb4 hb9 hb10 hb11 hb12 hb13 hb14 hb15 hb16 hb17 hb26 hb33 hb38 hb39 hb40 hb41 hb42 hb43 hb44 hb45 hb46 hb47 hb48 hb49 hb50 hb51 hb52 hb53 hb54 hb55 hb56 hb68 hb69 hb77 hb78 hb79 hb80 hb81 hb82 hb83 hb84 hb85 hb86 hb87 hb88 hb89 hb90 hb91 hb92 hb93 hb94 hb95 hb96 hb97 hb98 hb99 hb100 hb101 hb102 hb103 hb104 hb105 hb106 hb112 hb114 hb115 hb116 hb117 hb118 hb119 hb120 hb121 hb122 hb123 hb124 hb125 hb126 hb127 hb128 hb129 hb130 hb131 hb132 ov132 hb134 hb142 hb143 hb144 hb145 hb146 hb147 hb148 hb149 hb150 hb151 hb152 hb153 hb154 hb163 hb164 hb165 ov165
theorem mixedP : Tryz.prog.follows .mixedOrders = true := by kernel_rfl
def encInt (x : Int) : List RV := [.lit (.int .i64 x)]
def encU8 (x : UInt8) : List RV := [.lit (.int .u8 (x.toNat : Int))]
def encStr (x : ByteArray) : List RV := [.lit (.string x)]
theorem Int_row (x : Int) : RowIs encInt x [.lit (.int .i64 x)] := rfl
theorem Str_row (x : ByteArray) : RowIs encStr x [.lit (.string x)] := rfl
theorem GInt_ex {K : Int → Prop} (a : Int) (h : K a) : ∃ x : Int, ([.lit (.int .i64 x)] : List AV) = [.lit (.int .i64 a)] ∧ K x := ⟨a, rfl, h⟩
theorem GStr_ex {K : ByteArray → Prop} (a : ByteArray) (h : K a) : ∃ x : ByteArray, ([.lit (.string x)] : List AV) = [.lit (.string a)] ∧ K x := ⟨a, rfl, h⟩
attribute [go_sem] encInt encU8 encStr
theorem Int_lit (x : Int) (c : RV) (h : c ∈ encInt x) : LitR c := by
  simp only [encInt, List.mem_cons, List.not_mem_nil, or_false] at h; subst h; trivial
theorem Str_lit (x : ByteArray) (c : RV) (h : c ∈ encStr x) : LitR c := by
  simp only [encStr, List.mem_cons, List.not_mem_nil, or_false] at h; subst h; trivial
structure GCmd where
  Kind : Int
  Session : Int
  Call : Int
  At : Int
  To : Int
  Text : ByteArray
instance : Inhabited GCmd := ⟨⟨0, 0, 0, 0, 0, ⟨#[]⟩⟩⟩
def encGCmd (x : GCmd) : List RV := [.lit (.int .i64 x.Kind), .lit (.int .i64 x.Session), .lit (.int .i64 x.Call), .lit (.int .i64 x.At), .lit (.int .i64 x.To), .lit (.string x.Text)]
structure GTableRange where
  Lo : Int
  Hi : Int
  Node : Int
instance : Inhabited GTableRange := ⟨⟨0, 0, 0⟩⟩
def encGTableRange (x : GTableRange) : List RV := [.lit (.int .i64 x.Lo), .lit (.int .i64 x.Hi), .lit (.int .i64 x.Node)]
structure GTable where
  Epoch : Int
  Members : Int
  Ranges : List GTableRange
instance : Inhabited GTable := ⟨⟨0, 0, []⟩⟩
def encGTable (x : GTable) : List RV := [.lit (.int .i64 x.Epoch), .lit (.int .i64 x.Members), .rd 3 encGTableRange x.Ranges]
structure GPlanSeen where
  Session : Int
  Call : Int
  Code : Int
instance : Inhabited GPlanSeen := ⟨⟨0, 0, 0⟩⟩
def encGPlanSeen (x : GPlanSeen) : List RV := [.lit (.int .i64 x.Session), .lit (.int .i64 x.Call), .lit (.int .i64 x.Code)]
structure GPlan where
  At : Int
  Table : GTable
  Seen : List GPlanSeen
  Old : Int
  New : Int
instance : Inhabited GPlan := ⟨⟨0, default, [], 0, 0⟩⟩
def encGPlan (x : GPlan) : List RV := [.lit (.int .i64 x.At), .lit (.int .i64 x.Table.Epoch), .lit (.int .i64 x.Table.Members), .rd 3 encGTableRange x.Table.Ranges, .rd 3 encGPlanSeen x.Seen, .lit (.int .i64 x.Old), .lit (.int .i64 x.New)]
theorem GCmd_row (x : GCmd) : RowIs encGCmd x [.lit (.int .i64 x.Kind), .lit (.int .i64 x.Session), .lit (.int .i64 x.Call), .lit (.int .i64 x.At), .lit (.int .i64 x.To), .lit (.string x.Text)] := rfl
theorem GCmd_mk (a_Kind : Int) (a_Session : Int) (a_Call : Int) (a_At : Int) (a_To : Int) (a_Text : ByteArray) : RowIs encGCmd (⟨a_Kind, a_Session, a_Call, a_At, a_To, a_Text⟩ : GCmd) [.lit (.int .i64 a_Kind), .lit (.int .i64 a_Session), .lit (.int .i64 a_Call), .lit (.int .i64 a_At), .lit (.int .i64 a_To), .lit (.string a_Text)] := rfl
theorem GCmd_ex {K : GCmd → Prop} (a_Kind : Int) (a_Session : Int) (a_Call : Int) (a_At : Int) (a_To : Int) (a_Text : ByteArray) (h : K ⟨a_Kind, a_Session, a_Call, a_At, a_To, a_Text⟩) : ∃ x : GCmd, ([.lit (.int .i64 x.Kind), .lit (.int .i64 x.Session), .lit (.int .i64 x.Call), .lit (.int .i64 x.At), .lit (.int .i64 x.To), .lit (.string x.Text)] : List AV) = [.lit (.int .i64 a_Kind), .lit (.int .i64 a_Session), .lit (.int .i64 a_Call), .lit (.int .i64 a_At), .lit (.int .i64 a_To), .lit (.string a_Text)] ∧ K x := ⟨⟨a_Kind, a_Session, a_Call, a_At, a_To, a_Text⟩, rfl, h⟩
theorem GCmd_eta (x : GCmd) : GCmd.mk x.Kind x.Session x.Call x.At x.To x.Text = x := rfl
attribute [go_sem] encGCmd GCmd_eta
theorem GCmd_lit (x : GCmd) (c : RV) (h : c ∈ encGCmd x) : LitR c := by
  simp only [encGCmd, List.mem_cons, List.not_mem_nil, or_false] at h
  rcases h with rfl | rfl | rfl | rfl | rfl | rfl <;> trivial
theorem GTable_row (x : GTable) : RowIs encGTable x [.lit (.int .i64 x.Epoch), .lit (.int .i64 x.Members), .r (.rd 3 encGTableRange x.Ranges)] := rfl
theorem GTable_mk (a_Epoch : Int) (a_Members : Int) (a_Ranges : List GTableRange) : RowIs encGTable (⟨a_Epoch, a_Members, a_Ranges⟩ : GTable) [.lit (.int .i64 a_Epoch), .lit (.int .i64 a_Members), .r (.rd 3 encGTableRange a_Ranges)] := rfl
theorem GTable_ex {K : GTable → Prop} (a_Epoch : Int) (a_Members : Int) (a_Ranges : List GTableRange) (h : K ⟨a_Epoch, a_Members, a_Ranges⟩) : ∃ x : GTable, ([.lit (.int .i64 x.Epoch), .lit (.int .i64 x.Members), .r (.rd 3 encGTableRange x.Ranges)] : List AV) = [.lit (.int .i64 a_Epoch), .lit (.int .i64 a_Members), .r (.rd 3 encGTableRange a_Ranges)] ∧ K x := ⟨⟨a_Epoch, a_Members, a_Ranges⟩, rfl, h⟩
theorem GTable_eta (x : GTable) : GTable.mk x.Epoch x.Members x.Ranges = x := rfl
attribute [go_sem] encGTable GTable_eta
theorem GTableRange_row (x : GTableRange) : RowIs encGTableRange x [.lit (.int .i64 x.Lo), .lit (.int .i64 x.Hi), .lit (.int .i64 x.Node)] := rfl
theorem GTableRange_mk (a_Lo : Int) (a_Hi : Int) (a_Node : Int) : RowIs encGTableRange (⟨a_Lo, a_Hi, a_Node⟩ : GTableRange) [.lit (.int .i64 a_Lo), .lit (.int .i64 a_Hi), .lit (.int .i64 a_Node)] := rfl
theorem GTableRange_ex {K : GTableRange → Prop} (a_Lo : Int) (a_Hi : Int) (a_Node : Int) (h : K ⟨a_Lo, a_Hi, a_Node⟩) : ∃ x : GTableRange, ([.lit (.int .i64 x.Lo), .lit (.int .i64 x.Hi), .lit (.int .i64 x.Node)] : List AV) = [.lit (.int .i64 a_Lo), .lit (.int .i64 a_Hi), .lit (.int .i64 a_Node)] ∧ K x := ⟨⟨a_Lo, a_Hi, a_Node⟩, rfl, h⟩
theorem GTableRange_eta (x : GTableRange) : GTableRange.mk x.Lo x.Hi x.Node = x := rfl
attribute [go_sem] encGTableRange GTableRange_eta
theorem GTableRange_lit (x : GTableRange) (c : RV) (h : c ∈ encGTableRange x) : LitR c := by
  simp only [encGTableRange, List.mem_cons, List.not_mem_nil, or_false] at h
  rcases h with rfl | rfl | rfl <;> trivial
theorem GPlan_row (x : GPlan) : RowIs encGPlan x [.lit (.int .i64 x.At), .lit (.int .i64 x.Table.Epoch), .lit (.int .i64 x.Table.Members), .r (.rd 3 encGTableRange x.Table.Ranges), .r (.rd 3 encGPlanSeen x.Seen), .lit (.int .i64 x.Old), .lit (.int .i64 x.New)] := rfl
theorem GPlan_mk (a_At : Int) (a_Table_Epoch : Int) (a_Table_Members : Int) (a_Table_Ranges : List GTableRange) (a_Seen : List GPlanSeen) (a_Old : Int) (a_New : Int) : RowIs encGPlan (⟨a_At, ⟨a_Table_Epoch, a_Table_Members, a_Table_Ranges⟩, a_Seen, a_Old, a_New⟩ : GPlan) [.lit (.int .i64 a_At), .lit (.int .i64 a_Table_Epoch), .lit (.int .i64 a_Table_Members), .r (.rd 3 encGTableRange a_Table_Ranges), .r (.rd 3 encGPlanSeen a_Seen), .lit (.int .i64 a_Old), .lit (.int .i64 a_New)] := rfl
theorem GPlan_ex {K : GPlan → Prop} (a_At : Int) (a_Table_Epoch : Int) (a_Table_Members : Int) (a_Table_Ranges : List GTableRange) (a_Seen : List GPlanSeen) (a_Old : Int) (a_New : Int) (h : K ⟨a_At, ⟨a_Table_Epoch, a_Table_Members, a_Table_Ranges⟩, a_Seen, a_Old, a_New⟩) : ∃ x : GPlan, ([.lit (.int .i64 x.At), .lit (.int .i64 x.Table.Epoch), .lit (.int .i64 x.Table.Members), .r (.rd 3 encGTableRange x.Table.Ranges), .r (.rd 3 encGPlanSeen x.Seen), .lit (.int .i64 x.Old), .lit (.int .i64 x.New)] : List AV) = [.lit (.int .i64 a_At), .lit (.int .i64 a_Table_Epoch), .lit (.int .i64 a_Table_Members), .r (.rd 3 encGTableRange a_Table_Ranges), .r (.rd 3 encGPlanSeen a_Seen), .lit (.int .i64 a_Old), .lit (.int .i64 a_New)] ∧ K x := ⟨⟨a_At, ⟨a_Table_Epoch, a_Table_Members, a_Table_Ranges⟩, a_Seen, a_Old, a_New⟩, rfl, h⟩
theorem GPlan_eta (x : GPlan) : GPlan.mk x.At x.Table x.Seen x.Old x.New = x := rfl
attribute [go_sem] encGPlan GPlan_eta
theorem GPlanSeen_row (x : GPlanSeen) : RowIs encGPlanSeen x [.lit (.int .i64 x.Session), .lit (.int .i64 x.Call), .lit (.int .i64 x.Code)] := rfl
theorem GPlanSeen_mk (a_Session : Int) (a_Call : Int) (a_Code : Int) : RowIs encGPlanSeen (⟨a_Session, a_Call, a_Code⟩ : GPlanSeen) [.lit (.int .i64 a_Session), .lit (.int .i64 a_Call), .lit (.int .i64 a_Code)] := rfl
theorem GPlanSeen_ex {K : GPlanSeen → Prop} (a_Session : Int) (a_Call : Int) (a_Code : Int) (h : K ⟨a_Session, a_Call, a_Code⟩) : ∃ x : GPlanSeen, ([.lit (.int .i64 x.Session), .lit (.int .i64 x.Call), .lit (.int .i64 x.Code)] : List AV) = [.lit (.int .i64 a_Session), .lit (.int .i64 a_Call), .lit (.int .i64 a_Code)] ∧ K x := ⟨⟨a_Session, a_Call, a_Code⟩, rfl, h⟩
theorem GPlanSeen_eta (x : GPlanSeen) : GPlanSeen.mk x.Session x.Call x.Code = x := rfl
attribute [go_sem] encGPlanSeen GPlanSeen_eta
theorem GPlanSeen_lit (x : GPlanSeen) (c : RV) (h : c ∈ encGPlanSeen x) : LitR c := by
  simp only [encGPlanSeen, List.mem_cons, List.not_mem_nil, or_false] at h
  rcases h with rfl | rfl | rfl <;> trivial
end Go.Proofs.YtlojldccjmkikaaGreat
end
section
namespace Go.Proofs.YtlojldccjmkikaaGreat
open Go.Ae
theorem half_eq {n : Int} : n.fdiv (2 ^ (min (1 : Int).toNat 64)) = n / 2 := by
  have e : ((2 : Int) ^ (min (1 : Int).toNat 64)) = 2 := by decide
  rw [e, Int.fdiv_eq_ediv_of_nonneg _ (by decide)]
end Go.Proofs.YtlojldccjmkikaaGreat
end
