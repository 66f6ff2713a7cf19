/-
  The functions as plain partial functions, and plain lemmas about them: no condition.
-/
import Derived.Test.YtfanhhhgcabpnaaGreatDoorEC
import Derived.Test.YtfanhhhgcabpnaaGreatDoorED
import Derived.Lib.SlicesCompact
open Bool renaming and_self→Tn,and_true→Nn
open ByteArray renaming mk→vn
open Eq renaming trans→rn
open Int renaming tdiv→Po,tmod→Pq
open List renaming range→wo
open Option renaming bind→qn
set_option linter.all false
namespace Go.Tm
def insS:List Int→Int→List Int
 |[],n=>[n]
 |x::l,n=>if n≤x then(if n<x then n::x::l else x::l)else x::insS l n
def dsort(l:List Int):List Int:=l.foldl insS []
inductive ReachL (g:List (List Int)):Int→Int→Prop
 |one {a b:Int} {l:List Int} (h:g[a.toNat]?=some l) (hb:b∈l):ReachL g a b
 |step {a b c:Int} {l:List Int} (h:ReachL g a b) (hl:g[b.toNat]?=some l) (hc:c∈l):ReachL g a c
open Classical in
noncomputable def reachL(g:List (List Int)) (a:Int):List Int:=((wo g.length).map fun(k:Nat)=>(k:Int)).filter fun b=>decide (ReachL g a b)
end Go.Tm
set_option maxHeartbeats 1000000
set_option maxRecDepth 10000
namespace Go.Proofs.Dev
open Go Go.Tm
def e_str(x:ByteArray):D:=.v (.string x)
instance:Fr e_str:=⟨fun x=>by simp only[e_str,idfree,idfrees,Fr.l,Tn,Nn]⟩
theorem e_str_q{x}:e_str x=.v (.string x):=rn rfl rfl
def e_s_str(x:List ByteArray):D:=.sl 1 (x.map e_str)
instance:Fr e_s_str:=⟨fun x=>Fr.s _ x⟩
theorem e_s_str_q{x}:e_s_str x=.sl 1 (x.map e_str):=rn rfl rfl
structure GEnum where
 Name:ByteArray
 Members:(List ByteArray)
def e_GEnum(x:GEnum):D:=.agg [.v (.string x.Name),.sl 1 (x.Members.map e_str)]
instance:Fr e_GEnum:=⟨fun x=>by simp only[e_GEnum,idfree,idfrees,Fr.l,Tn,Nn]⟩
theorem e_GEnum_q{x}:e_GEnum x=.agg [.v (.string x.Name),.sl 1 (x.Members.map e_str)]:=rn rfl rfl
def e_s_GEnum(x:List GEnum):D:=.sl 2 (x.map e_GEnum)
instance:Fr e_s_GEnum:=⟨fun x=>Fr.s _ x⟩
theorem e_s_GEnum_q{x}:e_s_GEnum x=.sl 2 (x.map e_GEnum):=rn rfl rfl
def e_i64(x:Int):D:=.v (.int .i64 x)
instance:Fr e_i64:=⟨fun x=>by simp only[e_i64,idfree,idfrees,Fr.l,Tn,Nn]⟩
theorem e_i64_q{x}:e_i64 x=.v (.int .i64 x):=rn rfl rfl
structure GType where
 Kind:Int
 Enum:Int
def e_GType(x:GType):D:=.agg [.v (.int .i64 x.Kind),.v (.int .i64 x.Enum)]
instance:Fr e_GType:=⟨fun x=>by simp only[e_GType,idfree,idfrees,Fr.l,Tn,Nn]⟩
theorem e_GType_q{x}:e_GType x=.agg [.v (.int .i64 x.Kind),.v (.int .i64 x.Enum)]:=rn rfl rfl
structure GDateRange where
 From:Int
 To:Int
def e_GDateRange(x:GDateRange):D:=.agg [.v (.int .i64 x.From),.v (.int .i64 x.To)]
instance:Fr e_GDateRange:=⟨fun x=>by simp only[e_GDateRange,idfree,idfrees,Fr.l,Tn,Nn]⟩
theorem e_GDateRange_q{x}:e_GDateRange x=.agg [.v (.int .i64 x.From),.v (.int .i64 x.To)]:=rn rfl rfl
structure GRow where
 Valid:GDateRange
 Lo:Int
 Hi:Int
 N:Int
def e_GRow(x:GRow):D:=.agg [.v (.int .i64 x.Valid.From),.v (.int .i64 x.Valid.To),.v (.int .i64 x.Lo),.v (.int .i64 x.Hi),.v (.int .i64 x.N)]
instance:Fr e_GRow:=⟨fun x=>by simp only[e_GRow,idfree,idfrees,Fr.l,Tn,Nn]⟩
theorem e_GRow_q{x}:e_GRow x=.agg [.v (.int .i64 x.Valid.From),.v (.int .i64 x.Valid.To),.v (.int .i64 x.Lo),.v (.int .i64 x.Hi),.v (.int .i64 x.N)]:=rn rfl rfl
def e_s_GRow(x:List GRow):D:=.sl 5 (x.map e_GRow)
instance:Fr e_s_GRow:=⟨fun x=>Fr.s _ x⟩
theorem e_s_GRow_q{x}:e_s_GRow x=.sl 5 (x.map e_GRow):=rn rfl rfl
structure GTable where
 Name:ByteArray
 Key:GType
 Value:GType
 Rows:(List GRow)
def e_GTable(x:GTable):D:=.agg [.v (.string x.Name),.v (.int .i64 x.Key.Kind),.v (.int .i64 x.Key.Enum),.v (.int .i64 x.Value.Kind),.v (.int .i64 x.Value.Enum),.sl 5 (x.Rows.map e_GRow)]
instance:Fr e_GTable:=⟨fun x=>by simp only[e_GTable,idfree,idfrees,Fr.l,Tn,Nn]⟩
theorem e_GTable_q{x}:e_GTable x=.agg [.v (.string x.Name),.v (.int .i64 x.Key.Kind),.v (.int .i64 x.Key.Enum),.v (.int .i64 x.Value.Kind),.v (.int .i64 x.Value.Enum),.sl 5 (x.Rows.map e_GRow)]:=rn rfl rfl
def e_s_GTable(x:List GTable):D:=.sl 6 (x.map e_GTable)
instance:Fr e_s_GTable:=⟨fun x=>Fr.s _ x⟩
theorem e_s_GTable_q{x}:e_s_GTable x=.sl 6 (x.map e_GTable):=rn rfl rfl
structure GField where
 Name:ByteArray
 Type_:GType
def e_GField(x:GField):D:=.agg [.v (.string x.Name),.v (.int .i64 x.Type_.Kind),.v (.int .i64 x.Type_.Enum)]
instance:Fr e_GField:=⟨fun x=>by simp only[e_GField,idfree,idfrees,Fr.l,Tn,Nn]⟩
theorem e_GField_q{x}:e_GField x=.agg [.v (.string x.Name),.v (.int .i64 x.Type_.Kind),.v (.int .i64 x.Type_.Enum)]:=rn rfl rfl
def e_s_GField(x:List GField):D:=.sl 3 (x.map e_GField)
instance:Fr e_s_GField:=⟨fun x=>Fr.s _ x⟩
theorem e_s_GField_q{x}:e_s_GField x=.sl 3 (x.map e_GField):=rn rfl rfl
structure GNode where
 Op:Int
 N:Int
def e_GNode(x:GNode):D:=.agg [.v (.int .i64 x.Op),.v (.int .i64 x.N)]
instance:Fr e_GNode:=⟨fun x=>by simp only[e_GNode,idfree,idfrees,Fr.l,Tn,Nn]⟩
theorem e_GNode_q{x}:e_GNode x=.agg [.v (.int .i64 x.Op),.v (.int .i64 x.N)]:=rn rfl rfl
def e_s_GNode(x:List GNode):D:=.sl 2 (x.map e_GNode)
instance:Fr e_s_GNode:=⟨fun x=>Fr.s _ x⟩
theorem e_s_GNode_q{x}:e_s_GNode x=.sl 2 (x.map e_GNode):=rn rfl rfl
structure GRule where
 Name:ByteArray
 Def:Int
 Parent:Int
 Priority:Int
 Valid:GDateRange
 Guard:(List GNode)
 Value:(List GNode)
 Source:ByteArray
def e_GRule(x:GRule):D:=.agg [.v (.string x.Name),.v (.int .i64 x.Def),.v (.int .i64 x.Parent),.v (.int .i64 x.Priority),.v (.int .i64 x.Valid.From),.v (.int .i64 x.Valid.To),.sl 2 (x.Guard.map e_GNode),.sl 2 (x.Value.map e_GNode),.v (.string x.Source)]
instance:Fr e_GRule:=⟨fun x=>by simp only[e_GRule,idfree,idfrees,Fr.l,Tn,Nn]⟩
theorem e_GRule_q{x}:e_GRule x=.agg [.v (.string x.Name),.v (.int .i64 x.Def),.v (.int .i64 x.Parent),.v (.int .i64 x.Priority),.v (.int .i64 x.Valid.From),.v (.int .i64 x.Valid.To),.sl 2 (x.Guard.map e_GNode),.sl 2 (x.Value.map e_GNode),.v (.string x.Source)]:=rn rfl rfl
def e_s_GRule(x:List GRule):D:=.sl 9 (x.map e_GRule)
instance:Fr e_s_GRule:=⟨fun x=>Fr.s _ x⟩
theorem e_s_GRule_q{x}:e_s_GRule x=.sl 9 (x.map e_GRule):=rn rfl rfl
structure GScope where
 Name:ByteArray
 MemberScope:Int
 Inputs:(List GField)
 Defs:(List GField)
 Rules:(List GRule)
def e_GScope(x:GScope):D:=.agg [.v (.string x.Name),.v (.int .i64 x.MemberScope),.sl 3 (x.Inputs.map e_GField),.sl 3 (x.Defs.map e_GField),.sl 9 (x.Rules.map e_GRule)]
instance:Fr e_GScope:=⟨fun x=>by simp only[e_GScope,idfree,idfrees,Fr.l,Tn,Nn]⟩
theorem e_GScope_q{x}:e_GScope x=.agg [.v (.string x.Name),.v (.int .i64 x.MemberScope),.sl 3 (x.Inputs.map e_GField),.sl 3 (x.Defs.map e_GField),.sl 9 (x.Rules.map e_GRule)]:=rn rfl rfl
def e_s_GScope(x:List GScope):D:=.sl 5 (x.map e_GScope)
instance:Fr e_s_GScope:=⟨fun x=>Fr.s _ x⟩
theorem e_s_GScope_q{x}:e_s_GScope x=.sl 5 (x.map e_GScope):=rn rfl rfl
structure GLaw where
 Enums:(List GEnum)
 Tables:(List GTable)
 Scopes:(List GScope)
def e_GLaw(x:GLaw):D:=.agg [.sl 2 (x.Enums.map e_GEnum),.sl 6 (x.Tables.map e_GTable),.sl 5 (x.Scopes.map e_GScope)]
instance:Fr e_GLaw:=⟨fun x=>by simp only[e_GLaw,idfree,idfrees,Fr.l,Tn,Nn]⟩
theorem e_GLaw_q{x}:e_GLaw x=.agg [.sl 2 (x.Enums.map e_GEnum),.sl 6 (x.Tables.map e_GTable),.sl 5 (x.Scopes.map e_GScope)]:=rn rfl rfl
def e_bool(x:Bool):D:=.v (.bool x)
instance:Fr e_bool:=⟨fun x=>by simp only[e_bool,idfree,idfrees,Fr.l,Tn,Nn]⟩
theorem e_bool_q{x}:e_bool x=.v (.bool x):=rn rfl rfl
def e_s_i64(x:List Int):D:=.sl 1 (x.map e_i64)
instance:Fr e_s_i64:=⟨fun x=>Fr.s _ x⟩
theorem e_s_i64_q{x}:e_s_i64 x=.sl 1 (x.map e_i64):=rn rfl rfl
def e_s_s_i64(x:List (List Int)):D:=.sl 1 (x.map e_s_i64)
instance:Fr e_s_s_i64:=⟨fun x=>Fr.s _ x⟩
theorem e_s_s_i64_q{x}:e_s_s_i64 x=.sl 1 (x.map e_s_i64):=rn rfl rfl
structure GLawError where
 Code:Int
 Section:Int
 Item:Int
 Element:Int
def e_GLawError(x:GLawError):D:=.agg [.v (.int .i64 x.Code),.v (.int .i64 x.Section),.v (.int .i64 x.Item),.v (.int .i64 x.Element)]
instance:Fr e_GLawError:=⟨fun x=>by simp only[e_GLawError,idfree,idfrees,Fr.l,Tn,Nn]⟩
theorem e_GLawError_q{x}:e_GLawError x=.agg [.v (.int .i64 x.Code),.v (.int .i64 x.Section),.v (.int .i64 x.Item),.v (.int .i64 x.Element)]:=rn rfl rfl
def e_s_GType(x:List GType):D:=.sl 2 (x.map e_GType)
instance:Fr e_s_GType:=⟨fun x=>Fr.s _ x⟩
theorem e_s_GType_q{x}:e_s_GType x=.sl 2 (x.map e_GType):=rn rfl rfl
structure GSignature where
 Enums:(List GEnum)
 Tables:(List GTable)
 Inputs:(List GType)
 Defs:(List GType)
 MemberDefs:(List GType)
 HasMembers:Bool
def e_GSignature(x:GSignature):D:=.agg [.sl 2 (x.Enums.map e_GEnum),.sl 6 (x.Tables.map e_GTable),.sl 2 (x.Inputs.map e_GType),.sl 2 (x.Defs.map e_GType),.sl 2 (x.MemberDefs.map e_GType),.v (.bool x.HasMembers)]
instance:Fr e_GSignature:=⟨fun x=>by simp only[e_GSignature,idfree,idfrees,Fr.l,Tn,Nn]⟩
theorem e_GSignature_q{x}:e_GSignature x=.agg [.sl 2 (x.Enums.map e_GEnum),.sl 6 (x.Tables.map e_GTable),.sl 2 (x.Inputs.map e_GType),.sl 2 (x.Defs.map e_GType),.sl 2 (x.MemberDefs.map e_GType),.v (.bool x.HasMembers)]:=rn rfl rfl
def e_s_s_GNode(x:List (List GNode)):D:=.sl 1 (x.map e_s_GNode)
instance:Fr e_s_s_GNode:=⟨fun x=>Fr.s _ x⟩
theorem e_s_s_GNode_q{x}:e_s_s_GNode x=.sl 1 (x.map e_s_GNode):=rn rfl rfl
def e_u8(x:Int):D:=.v (.int .u8 x)
instance:Fr e_u8:=⟨fun x=>by simp only[e_u8,idfree,idfrees,Fr.l,Tn,Nn]⟩
theorem e_u8_q{x}:e_u8 x=.v (.int .u8 x):=rn rfl rfl
def e_p_i64(x:Int):D:=.pt (e_i64 x)
instance:Fr e_p_i64:=⟨fun x=>Fr.h (e:=e_i64) x⟩
theorem e_p_i64_q{x}:e_p_i64 x=.pt (e_i64 x):=rn rfl rfl
def e_p_GScope(x:GScope):D:=.pt (e_GScope x)
instance:Fr e_p_GScope:=⟨fun x=>Fr.h (e:=e_GScope) x⟩
theorem e_p_GScope_q{x}:e_p_GScope x=.pt (e_GScope x):=rn rfl rfl
def e_p_GRule(x:GRule):D:=.pt (e_GRule x)
instance:Fr e_p_GRule:=⟨fun x=>Fr.h (e:=e_GRule) x⟩
theorem e_p_GRule_q{x}:e_p_GRule x=.pt (e_GRule x):=rn rfl rfl
def e_p_GField(x:GField):D:=.pt (e_GField x)
instance:Fr e_p_GField:=⟨fun x=>Fr.h (e:=e_GField) x⟩
theorem e_p_GField_q{x}:e_p_GField x=.pt (e_GField x):=rn rfl rfl
def e_p_str(x:ByteArray):D:=.pt (e_str x)
instance:Fr e_p_str:=⟨fun x=>Fr.h (e:=e_str) x⟩
theorem e_p_str_q{x}:e_p_str x=.pt (e_str x):=rn rfl rfl
def e_p_GRow(x:GRow):D:=.pt (e_GRow x)
instance:Fr e_p_GRow:=⟨fun x=>Fr.h (e:=e_GRow) x⟩
theorem e_p_GRow_q{x}:e_p_GRow x=.pt (e_GRow x):=rn rfl rfl
structure GCalendar where
 Weekend:Int
 Holidays:(List Int)
def e_GCalendar(x:GCalendar):D:=.agg [.v (.int .i64 x.Weekend),.sl 1 (x.Holidays.map e_i64)]
instance:Fr e_GCalendar:=⟨fun x=>by simp only[e_GCalendar,idfree,idfrees,Fr.l,Tn,Nn]⟩
theorem e_GCalendar_q{x}:e_GCalendar x=.agg [.v (.int .i64 x.Weekend),.sl 1 (x.Holidays.map e_i64)]:=rn rfl rfl
structure GPayConfig where
 Def:Int
 Rounding:Int
 PayDay:Int
 RecoveryCap:Int
 RecoveryFloor:Int
 FirstMonth:Int
 AppealDays:Int
 Calendar:GCalendar
def e_GPayConfig(x:GPayConfig):D:=.agg [.v (.int .i64 x.Def),.v (.int .i64 x.Rounding),.v (.int .i64 x.PayDay),.v (.int .i64 x.RecoveryCap),.v (.int .i64 x.RecoveryFloor),.v (.int .i64 x.FirstMonth),.v (.int .i64 x.AppealDays),.v (.int .i64 x.Calendar.Weekend),.sl 1 (x.Calendar.Holidays.map e_i64)]
instance:Fr e_GPayConfig:=⟨fun x=>by simp only[e_GPayConfig,idfree,idfrees,Fr.l,Tn,Nn]⟩
theorem e_GPayConfig_q{x}:e_GPayConfig x=.agg [.v (.int .i64 x.Def),.v (.int .i64 x.Rounding),.v (.int .i64 x.PayDay),.v (.int .i64 x.RecoveryCap),.v (.int .i64 x.RecoveryFloor),.v (.int .i64 x.FirstMonth),.v (.int .i64 x.AppealDays),.v (.int .i64 x.Calendar.Weekend),.sl 1 (x.Calendar.Holidays.map e_i64)]:=rn rfl rfl
structure GValue where
 Kind:Int
 Enum:Int
 N:Int
def e_GValue(x:GValue):D:=.agg [.v (.int .i64 x.Kind),.v (.int .i64 x.Enum),.v (.int .i64 x.N)]
instance:Fr e_GValue:=⟨fun x=>by simp only[e_GValue,idfree,idfrees,Fr.l,Tn,Nn]⟩
theorem e_GValue_q{x}:e_GValue x=.agg [.v (.int .i64 x.Kind),.v (.int .i64 x.Enum),.v (.int .i64 x.N)]:=rn rfl rfl
structure GFact where
 Id:Int
 Member:Int
 Input:Int
 Value:GValue
 Valid:GDateRange
 Recorded:Int
def e_GFact(x:GFact):D:=.agg [.v (.int .i64 x.Id),.v (.int .i64 x.Member),.v (.int .i64 x.Input),.v (.int .i64 x.Value.Kind),.v (.int .i64 x.Value.Enum),.v (.int .i64 x.Value.N),.v (.int .i64 x.Valid.From),.v (.int .i64 x.Valid.To),.v (.int .i64 x.Recorded)]
instance:Fr e_GFact:=⟨fun x=>by simp only[e_GFact,idfree,idfrees,Fr.l,Tn,Nn]⟩
theorem e_GFact_q{x}:e_GFact x=.agg [.v (.int .i64 x.Id),.v (.int .i64 x.Member),.v (.int .i64 x.Input),.v (.int .i64 x.Value.Kind),.v (.int .i64 x.Value.Enum),.v (.int .i64 x.Value.N),.v (.int .i64 x.Valid.From),.v (.int .i64 x.Valid.To),.v (.int .i64 x.Recorded)]:=rn rfl rfl
def e_s_GFact(x:List GFact):D:=.sl 9 (x.map e_GFact)
instance:Fr e_s_GFact:=⟨fun x=>Fr.s _ x⟩
theorem e_s_GFact_q{x}:e_s_GFact x=.sl 9 (x.map e_GFact):=rn rfl rfl
structure GHousehold where
 Id:Int
 Scope:Int
 Members:Int
 Facts:(List GFact)
def e_GHousehold(x:GHousehold):D:=.agg [.v (.int .i64 x.Id),.v (.int .i64 x.Scope),.v (.int .i64 x.Members),.sl 9 (x.Facts.map e_GFact)]
instance:Fr e_GHousehold:=⟨fun x=>by simp only[e_GHousehold,idfree,idfrees,Fr.l,Tn,Nn]⟩
theorem e_GHousehold_q{x}:e_GHousehold x=.agg [.v (.int .i64 x.Id),.v (.int .i64 x.Scope),.v (.int .i64 x.Members),.sl 9 (x.Facts.map e_GFact)]:=rn rfl rfl
structure GAward where
 Month:Int
 Cents:Int
 Code:Int
def e_GAward(x:GAward):D:=.agg [.v (.int .i64 x.Month),.v (.int .i64 x.Cents),.v (.int .i64 x.Code)]
instance:Fr e_GAward:=⟨fun x=>by simp only[e_GAward,idfree,idfrees,Fr.l,Tn,Nn]⟩
theorem e_GAward_q{x}:e_GAward x=.agg [.v (.int .i64 x.Month),.v (.int .i64 x.Cents),.v (.int .i64 x.Code)]:=rn rfl rfl
def e_s_GDateRange(x:List GDateRange):D:=.sl 2 (x.map e_GDateRange)
instance:Fr e_s_GDateRange:=⟨fun x=>Fr.s _ x⟩
theorem e_s_GDateRange_q{x}:e_s_GDateRange x=.sl 2 (x.map e_GDateRange):=rn rfl rfl
def e_s_GValue(x:List GValue):D:=.sl 3 (x.map e_GValue)
instance:Fr e_s_GValue:=⟨fun x=>Fr.s _ x⟩
theorem e_s_GValue_q{x}:e_s_GValue x=.sl 3 (x.map e_GValue):=rn rfl rfl
def e_s_s_GValue(x:List (List GValue)):D:=.sl 1 (x.map e_s_GValue)
instance:Fr e_s_s_GValue:=⟨fun x=>Fr.s _ x⟩
theorem e_s_s_GValue_q{x}:e_s_s_GValue x=.sl 1 (x.map e_s_GValue):=rn rfl rfl
structure GCase where
 Date:Int
 Inputs:(List GValue)
 Members:(List (List GValue))
def e_GCase(x:GCase):D:=.agg [.v (.int .i64 x.Date),.sl 3 (x.Inputs.map e_GValue),.sl 1 (x.Members.map e_s_GValue)]
instance:Fr e_GCase:=⟨fun x=>by simp only[e_GCase,idfree,idfrees,Fr.l,Tn,Nn]⟩
theorem e_GCase_q{x}:e_GCase x=.agg [.v (.int .i64 x.Date),.sl 3 (x.Inputs.map e_GValue),.sl 1 (x.Members.map e_s_GValue)]:=rn rfl rfl
structure GEvalError where
 Code:Int
 Member:Int
 Def:Int
 Rule:Int
def e_GEvalError(x:GEvalError):D:=.agg [.v (.int .i64 x.Code),.v (.int .i64 x.Member),.v (.int .i64 x.Def),.v (.int .i64 x.Rule)]
instance:Fr e_GEvalError:=⟨fun x=>by simp only[e_GEvalError,idfree,idfrees,Fr.l,Tn,Nn]⟩
theorem e_GEvalError_q{x}:e_GEvalError x=.agg [.v (.int .i64 x.Code),.v (.int .i64 x.Member),.v (.int .i64 x.Def),.v (.int .i64 x.Rule)]:=rn rfl rfl
def e_u64(x:Int):D:=.v (.int .u64 x)
instance:Fr e_u64:=⟨fun x=>by simp only[e_u64,idfree,idfrees,Fr.l,Tn,Nn]⟩
theorem e_u64_q{x}:e_u64 x=.v (.int .u64 x):=rn rfl rfl
def e_s_bool(x:List Bool):D:=.sl 1 (x.map e_bool)
instance:Fr e_s_bool:=⟨fun x=>Fr.s _ x⟩
theorem e_s_bool_q{x}:e_s_bool x=.sl 1 (x.map e_bool):=rn rfl rfl
structure GInterp_needs where
 scope:GScope
 memberScope:GScope
 defs:(List Bool)
 memberDefs:(List Bool)
def e_GInterp_needs(x:GInterp_needs):D:=.agg [.v (.string x.scope.Name),.v (.int .i64 x.scope.MemberScope),.sl 3 (x.scope.Inputs.map e_GField),.sl 3 (x.scope.Defs.map e_GField),.sl 9 (x.scope.Rules.map e_GRule),.v (.string x.memberScope.Name),.v (.int .i64 x.memberScope.MemberScope),.sl 3 (x.memberScope.Inputs.map e_GField),.sl 3 (x.memberScope.Defs.map e_GField),.sl 9 (x.memberScope.Rules.map e_GRule),.sl 1 (x.defs.map e_bool),.sl 1 (x.memberDefs.map e_bool)]
instance:Fr e_GInterp_needs:=⟨fun x=>by simp only[e_GInterp_needs,idfree,idfrees,Fr.l,Tn,Nn]⟩
theorem e_GInterp_needs_q{x}:e_GInterp_needs x=.agg [.v (.string x.scope.Name),.v (.int .i64 x.scope.MemberScope),.sl 3 (x.scope.Inputs.map e_GField),.sl 3 (x.scope.Defs.map e_GField),.sl 9 (x.scope.Rules.map e_GRule),.v (.string x.memberScope.Name),.v (.int .i64 x.memberScope.MemberScope),.sl 3 (x.memberScope.Inputs.map e_GField),.sl 3 (x.memberScope.Defs.map e_GField),.sl 9 (x.memberScope.Rules.map e_GRule),.sl 1 (x.defs.map e_bool),.sl 1 (x.memberDefs.map e_bool)]:=rn rfl rfl
structure GMemberResult where
 Values:(List GValue)
 Rules:(List Int)
def e_GMemberResult(x:GMemberResult):D:=.agg [.sl 3 (x.Values.map e_GValue),.sl 1 (x.Rules.map e_i64)]
instance:Fr e_GMemberResult:=⟨fun x=>by simp only[e_GMemberResult,idfree,idfrees,Fr.l,Tn,Nn]⟩
theorem e_GMemberResult_q{x}:e_GMemberResult x=.agg [.sl 3 (x.Values.map e_GValue),.sl 1 (x.Rules.map e_i64)]:=rn rfl rfl
def e_s_GMemberResult(x:List GMemberResult):D:=.sl 2 (x.map e_GMemberResult)
instance:Fr e_s_GMemberResult:=⟨fun x=>Fr.s _ x⟩
theorem e_s_GMemberResult_q{x}:e_s_GMemberResult x=.sl 2 (x.map e_GMemberResult):=rn rfl rfl
structure GResult where
 Values:(List GValue)
 Rules:(List Int)
 Members:(List GMemberResult)
def e_GResult(x:GResult):D:=.agg [.sl 3 (x.Values.map e_GValue),.sl 1 (x.Rules.map e_i64),.sl 2 (x.Members.map e_GMemberResult)]
instance:Fr e_GResult:=⟨fun x=>by simp only[e_GResult,idfree,idfrees,Fr.l,Tn,Nn]⟩
theorem e_GResult_q{x}:e_GResult x=.agg [.sl 3 (x.Values.map e_GValue),.sl 1 (x.Rules.map e_i64),.sl 2 (x.Members.map e_GMemberResult)]:=rn rfl rfl
structure GEnv where
 Date:Int
 Inputs:(List GValue)
 Defs:(List GValue)
 Members:(List (List GValue))
 MemberTypes:(List GType)
 Tables:(List GTable)
def e_GEnv(x:GEnv):D:=.agg [.v (.int .i64 x.Date),.sl 3 (x.Inputs.map e_GValue),.sl 3 (x.Defs.map e_GValue),.sl 1 (x.Members.map e_s_GValue),.sl 2 (x.MemberTypes.map e_GType),.sl 6 (x.Tables.map e_GTable)]
instance:Fr e_GEnv:=⟨fun x=>by simp only[e_GEnv,idfree,idfrees,Fr.l,Tn,Nn]⟩
theorem e_GEnv_q{x}:e_GEnv x=.agg [.v (.int .i64 x.Date),.sl 3 (x.Inputs.map e_GValue),.sl 3 (x.Defs.map e_GValue),.sl 1 (x.Members.map e_s_GValue),.sl 2 (x.MemberTypes.map e_GType),.sl 6 (x.Tables.map e_GTable)]:=rn rfl rfl
def e_p_GInterp_needs(x:GInterp_needs):D:=.pt (e_GInterp_needs x)
instance:Fr e_p_GInterp_needs:=⟨fun x=>Fr.h (e:=e_GInterp_needs) x⟩
theorem e_p_GInterp_needs_q{x}:e_p_GInterp_needs x=.pt (e_GInterp_needs x):=rn rfl rfl
def e_p_GEnv(x:GEnv):D:=.pt (e_GEnv x)
instance:Fr e_p_GEnv:=⟨fun x=>Fr.h (e:=e_GEnv) x⟩
theorem e_p_GEnv_q{x}:e_p_GEnv x=.pt (e_GEnv x):=rn rfl rfl
structure GEval_evaluator where
 nodes:(List GNode)
 starts:(List Int)
 env:GEnv
def e_GEval_evaluator(x:GEval_evaluator):D:=.agg [.sl 2 (x.nodes.map e_GNode),.sl 1 (x.starts.map e_i64),.v (.int .i64 x.env.Date),.sl 3 (x.env.Inputs.map e_GValue),.sl 3 (x.env.Defs.map e_GValue),.sl 1 (x.env.Members.map e_s_GValue),.sl 2 (x.env.MemberTypes.map e_GType),.sl 6 (x.env.Tables.map e_GTable)]
instance:Fr e_GEval_evaluator:=⟨fun x=>by simp only[e_GEval_evaluator,idfree,idfrees,Fr.l,Tn,Nn]⟩
theorem e_GEval_evaluator_q{x}:e_GEval_evaluator x=.agg [.sl 2 (x.nodes.map e_GNode),.sl 1 (x.starts.map e_i64),.v (.int .i64 x.env.Date),.sl 3 (x.env.Inputs.map e_GValue),.sl 3 (x.env.Defs.map e_GValue),.sl 1 (x.env.Members.map e_s_GValue),.sl 2 (x.env.MemberTypes.map e_GType),.sl 6 (x.env.Tables.map e_GTable)]:=rn rfl rfl
structure GRuletree_tree where
 parent:(List Int)
 priority:(List Int)
 outcome:(List Int)
def e_GRuletree_tree(x:GRuletree_tree):D:=.agg [.sl 1 (x.parent.map e_i64),.sl 1 (x.priority.map e_i64),.sl 1 (x.outcome.map e_i64)]
instance:Fr e_GRuletree_tree:=⟨fun x=>by simp only[e_GRuletree_tree,idfree,idfrees,Fr.l,Tn,Nn]⟩
theorem e_GRuletree_tree_q{x}:e_GRuletree_tree x=.agg [.sl 1 (x.parent.map e_i64),.sl 1 (x.priority.map e_i64),.sl 1 (x.outcome.map e_i64)]:=rn rfl rfl
structure GGuerdonlaw36_Query where
 Month:Int
 Recorded:Int
 Day:Int
def e_GGuerdonlaw36_Query(x:GGuerdonlaw36_Query):D:=.agg [.v (.int .i64 x.Month),.v (.int .i64 x.Recorded),.v (.int .i64 x.Day)]
instance:Fr e_GGuerdonlaw36_Query:=⟨fun x=>by simp only[e_GGuerdonlaw36_Query,idfree,idfrees,Fr.l,Tn,Nn]⟩
theorem e_GGuerdonlaw36_Query_q{x}:e_GGuerdonlaw36_Query x=.agg [.v (.int .i64 x.Month),.v (.int .i64 x.Recorded),.v (.int .i64 x.Day)]:=rn rfl rfl
def e_s_GAward(x:List GAward):D:=.sl 3 (x.map e_GAward)
instance:Fr e_s_GAward:=⟨fun x=>Fr.s _ x⟩
theorem e_s_GAward_q{x}:e_s_GAward x=.sl 3 (x.map e_GAward):=rn rfl rfl
structure GPosting where
 Date:Int
 Month:Int
 Kind:Int
 Cents:Int
def e_GPosting(x:GPosting):D:=.agg [.v (.int .i64 x.Date),.v (.int .i64 x.Month),.v (.int .i64 x.Kind),.v (.int .i64 x.Cents)]
instance:Fr e_GPosting:=⟨fun x=>by simp only[e_GPosting,idfree,idfrees,Fr.l,Tn,Nn]⟩
theorem e_GPosting_q{x}:e_GPosting x=.agg [.v (.int .i64 x.Date),.v (.int .i64 x.Month),.v (.int .i64 x.Kind),.v (.int .i64 x.Cents)]:=rn rfl rfl
def e_s_GPosting(x:List GPosting):D:=.sl 4 (x.map e_GPosting)
instance:Fr e_s_GPosting:=⟨fun x=>Fr.s _ x⟩
theorem e_s_GPosting_q{x}:e_s_GPosting x=.sl 4 (x.map e_GPosting):=rn rfl rfl
structure GAppeal where
 Id:Int
 From:Int
 To:Int
 Filed:Int
 Deadline:Int
 State:Int
 Cents:Int
def e_GAppeal(x:GAppeal):D:=.agg [.v (.int .i64 x.Id),.v (.int .i64 x.From),.v (.int .i64 x.To),.v (.int .i64 x.Filed),.v (.int .i64 x.Deadline),.v (.int .i64 x.State),.v (.int .i64 x.Cents)]
instance:Fr e_GAppeal:=⟨fun x=>by simp only[e_GAppeal,idfree,idfrees,Fr.l,Tn,Nn]⟩
theorem e_GAppeal_q{x}:e_GAppeal x=.agg [.v (.int .i64 x.Id),.v (.int .i64 x.From),.v (.int .i64 x.To),.v (.int .i64 x.Filed),.v (.int .i64 x.Deadline),.v (.int .i64 x.State),.v (.int .i64 x.Cents)]:=rn rfl rfl
def e_s_GAppeal(x:List GAppeal):D:=.sl 7 (x.map e_GAppeal)
instance:Fr e_s_GAppeal:=⟨fun x=>Fr.s _ x⟩
theorem e_s_GAppeal_q{x}:e_s_GAppeal x=.sl 7 (x.map e_GAppeal):=rn rfl rfl
structure GAccount where
 Household:GHousehold
 Postings:(List GPosting)
 Appeals:(List GAppeal)
 Date:Int
 LastMonth:Int
def e_GAccount(x:GAccount):D:=.agg [.v (.int .i64 x.Household.Id),.v (.int .i64 x.Household.Scope),.v (.int .i64 x.Household.Members),.sl 9 (x.Household.Facts.map e_GFact),.sl 4 (x.Postings.map e_GPosting),.sl 7 (x.Appeals.map e_GAppeal),.v (.int .i64 x.Date),.v (.int .i64 x.LastMonth)]
instance:Fr e_GAccount:=⟨fun x=>by simp only[e_GAccount,idfree,idfrees,Fr.l,Tn,Nn]⟩
theorem e_GAccount_q{x}:e_GAccount x=.agg [.v (.int .i64 x.Household.Id),.v (.int .i64 x.Household.Scope),.v (.int .i64 x.Household.Members),.sl 9 (x.Household.Facts.map e_GFact),.sl 4 (x.Postings.map e_GPosting),.sl 7 (x.Appeals.map e_GAppeal),.v (.int .i64 x.Date),.v (.int .i64 x.LastMonth)]:=rn rfl rfl
structure GCoverageHole where
 Outcome:Int
 RuleA:Int
 RuleB:Int
 Inputs:(List GValue)
def e_GCoverageHole(x:GCoverageHole):D:=.agg [.v (.int .i64 x.Outcome),.v (.int .i64 x.RuleA),.v (.int .i64 x.RuleB),.sl 3 (x.Inputs.map e_GValue)]
instance:Fr e_GCoverageHole:=⟨fun x=>by simp only[e_GCoverageHole,idfree,idfrees,Fr.l,Tn,Nn]⟩
theorem e_GCoverageHole_q{x}:e_GCoverageHole x=.agg [.v (.int .i64 x.Outcome),.v (.int .i64 x.RuleA),.v (.int .i64 x.RuleB),.sl 3 (x.Inputs.map e_GValue)]:=rn rfl rfl
def ze:=(And.intro (And.intro (And.intro (And.intro (And.intro (And.intro (And.intro @e_str_q @e_s_str_q) (And.intro @e_GEnum_q @e_s_GEnum_q)) (And.intro (And.intro @e_i64_q @e_GType_q) (And.intro @e_GDateRange_q @e_GRow_q))) (And.intro (And.intro (And.intro @e_s_GRow_q @e_GTable_q) (And.intro @e_s_GTable_q @e_GField_q)) (And.intro (And.intro @e_s_GField_q @e_GNode_q) (And.intro @e_s_GNode_q @e_GRule_q)))) (And.intro (And.intro (And.intro (And.intro @e_s_GRule_q @e_GScope_q) (And.intro @e_s_GScope_q @e_GLaw_q)) (And.intro (And.intro @e_bool_q @e_s_i64_q) (And.intro @e_s_s_i64_q @e_GLawError_q))) (And.intro (And.intro (And.intro @e_s_GType_q @e_GSignature_q) (And.intro @e_s_s_GNode_q @e_u8_q)) (And.intro (And.intro @e_p_i64_q @e_p_GScope_q) (And.intro @e_p_GRule_q @e_p_GField_q))))) (And.intro (And.intro (And.intro (And.intro (And.intro @e_p_str_q @e_p_GRow_q) (And.intro @e_GCalendar_q @e_GPayConfig_q)) (And.intro (And.intro @e_GValue_q @e_GFact_q) (And.intro @e_s_GFact_q @e_GHousehold_q))) (And.intro (And.intro (And.intro @e_GAward_q @e_s_GDateRange_q) (And.intro @e_s_GValue_q @e_s_s_GValue_q)) (And.intro (And.intro @e_GCase_q @e_GEvalError_q) (And.intro @e_u64_q @e_s_bool_q)))) (And.intro (And.intro (And.intro (And.intro @e_GInterp_needs_q @e_GMemberResult_q) (And.intro @e_s_GMemberResult_q @e_GResult_q)) (And.intro (And.intro @e_GEnv_q @e_p_GInterp_needs_q) (And.intro @e_p_GEnv_q @e_GEval_evaluator_q))) (And.intro (And.intro (And.intro @e_GRuletree_tree_q @e_GGuerdonlaw36_Query_q) (And.intro @e_s_GAward_q @e_GPosting_q)) (And.intro (And.intro @e_s_GPosting_q @e_GAppeal_q) (And.intro @e_s_GAppeal_q @e_GAccount_q)))))) @e_GCoverageHole_q)
theorem zz:type_of% (And.intro @zx @ze):=And.intro @zx @ze
theorem zg:type_of% (And.intro @zq @ze):=And.intro @zq @ze
theorem tz{N:Nat}{s S:St}(ρ:Org) (h:SqL (Sq ρ s.m 9) s.t S.t∧EtQ ρ s.m ρ S.m:=by first|(simp only[zg];done)|(simp only[zg, *];done)) (hk:keepB ρ N=true:=by rfl) (h3:(ρ.filterMap (·.1)).Nodup:=by decide):Tells N s S:=Tells.q ρ hk h3 h
theorem ez{rs:List RV}{o:D}{s:St}(h:endF (ressD s rs) s.m o:=by simp only[zz,zr];exact fq (by first|(simp only[zg];done)|(simp only[zg, *];done)|(simp only[zg, *,List.drop_zero,Nat.zero_add,List.length_map];done))):EndF rs o .ret s:=er h
instance:Enc (List (List GNode)) e_s_s_GNode:=⟨trivial⟩
instance:Enc (List (List GValue)) e_s_s_GValue:=⟨trivial⟩
instance:Enc (List (List Int)) e_s_s_i64:=⟨trivial⟩
instance:Enc (List Bool) e_s_bool:=⟨trivial⟩
instance:Enc (List ByteArray) e_s_str:=⟨trivial⟩
instance:Enc (List GAppeal) e_s_GAppeal:=⟨trivial⟩
instance:Enc (List GAward) e_s_GAward:=⟨trivial⟩
instance:Enc (List GDateRange) e_s_GDateRange:=⟨trivial⟩
instance:Enc (List GEnum) e_s_GEnum:=⟨trivial⟩
instance:Enc (List GFact) e_s_GFact:=⟨trivial⟩
instance:Enc (List GField) e_s_GField:=⟨trivial⟩
instance:Enc (List GMemberResult) e_s_GMemberResult:=⟨trivial⟩
instance:Enc (List GNode) e_s_GNode:=⟨trivial⟩
instance:Enc (List GPosting) e_s_GPosting:=⟨trivial⟩
instance:Enc (List GRow) e_s_GRow:=⟨trivial⟩
instance:Enc (List GRule) e_s_GRule:=⟨trivial⟩
instance:Enc (List GScope) e_s_GScope:=⟨trivial⟩
instance:Enc (List GTable) e_s_GTable:=⟨trivial⟩
instance:Enc (List GType) e_s_GType:=⟨trivial⟩
instance:Enc (List GValue) e_s_GValue:=⟨trivial⟩
instance:Enc (List Int) e_s_i64:=⟨trivial⟩
instance:Enc Bool e_bool:=⟨trivial⟩
instance:Enc ByteArray e_str:=⟨trivial⟩
instance:Enc GAccount e_GAccount:=⟨trivial⟩
instance:Enc GAppeal e_GAppeal:=⟨trivial⟩
instance:Enc GAward e_GAward:=⟨trivial⟩
instance:Enc GCalendar e_GCalendar:=⟨trivial⟩
instance:Enc GCase e_GCase:=⟨trivial⟩
instance:Enc GCoverageHole e_GCoverageHole:=⟨trivial⟩
instance:Enc GDateRange e_GDateRange:=⟨trivial⟩
instance:Enc GEnum e_GEnum:=⟨trivial⟩
instance:Enc GEnv e_GEnv:=⟨trivial⟩
instance:Enc GEvalError e_GEvalError:=⟨trivial⟩
instance:Enc GEval_evaluator e_GEval_evaluator:=⟨trivial⟩
instance:Enc GFact e_GFact:=⟨trivial⟩
instance:Enc GField e_GField:=⟨trivial⟩
instance:Enc GGuerdonlaw36_Query e_GGuerdonlaw36_Query:=⟨trivial⟩
instance:Enc GHousehold e_GHousehold:=⟨trivial⟩
instance:Enc GInterp_needs e_GInterp_needs:=⟨trivial⟩
instance:Enc GLaw e_GLaw:=⟨trivial⟩
instance:Enc GLawError e_GLawError:=⟨trivial⟩
instance:Enc GMemberResult e_GMemberResult:=⟨trivial⟩
instance:Enc GNode e_GNode:=⟨trivial⟩
instance:Enc GPayConfig e_GPayConfig:=⟨trivial⟩
instance:Enc GPosting e_GPosting:=⟨trivial⟩
instance:Enc GResult e_GResult:=⟨trivial⟩
instance:Enc GRow e_GRow:=⟨trivial⟩
instance:Enc GRule e_GRule:=⟨trivial⟩
instance:Enc GRuletree_tree e_GRuletree_tree:=⟨trivial⟩
instance:Enc GScope e_GScope:=⟨trivial⟩
instance:Enc GSignature e_GSignature:=⟨trivial⟩
instance:Enc GTable e_GTable:=⟨trivial⟩
instance:Enc GType e_GType:=⟨trivial⟩
instance:Enc GValue e_GValue:=⟨trivial⟩
instance:Enc Int e_i64:=⟨trivial⟩
end Go.Proofs.Dev
namespace Go.Proofs.Dev
open Go Go.Tm
noncomputable section
def same_smallScope_L5(t0:GScope):Int→Option (Ex Int Unit Bool):=fun s6=>
 if s6<(t0.Inputs.length:Int)then
  (idx t0.Inputs s6).bind fun x8=>
  if 80<(x8.Name.size:Int)then
   some (Ex.ret false)
  else
  some (Ex.go (wrapF .i64 (s6+1)))
 else
 some (Ex.brk ())
def same_smallScope_L4(t0:GScope):Int→Option (Ex Int Unit Bool):=fun s11=>
 if s11<(t0.Defs.length:Int)then
  (idx t0.Defs s11).bind fun x13=>
  if 80<(x13.Name.size:Int)then
   some (Ex.ret false)
  else
  some (Ex.go (wrapF .i64 (s11+1)))
 else
 some (Ex.brk ())
def same_smallScope_L3(t0:GScope):Int→Option (Ex Int Unit Bool):=fun s16=>
 if s16<(t0.Rules.length:Int)then
  (idx t0.Rules s16).bind fun x18=>
  qn (α:=Bool) (
   if¬80<(x18.Name.size:Int)then
    if¬80<(x18.Source.size:Int)then
     if¬50<(x18.Guard.length:Int)then
      some (decide (50<(x18.Value.length:Int)))
     else
     some true
    else
    some true
   else
   some true) fun j22=>
  if j22=true then
   some (Ex.ret false)
  else
  some (Ex.go (wrapF .i64 (s16+1)))
 else
 some (Ex.brk ())
def same_smallScope(t0:GScope):Option Bool:=
 qn (α:=Bool) (
  if¬80<(t0.Name.size:Int)then
   if¬14<(t0.Inputs.length:Int)then
    if¬14<(t0.Defs.length:Int)then
     some (decide (60<(t0.Rules.length:Int)))
    else
    some true
   else
   some true
  else
  some true) fun j4=>
 if j4=true then
  some false
 else
 (loopO (same_smallScope_L5 t0) 0).bind fun y=>match y with
 |.inr v=>some v
 |.inl _=>
 (loopO (same_smallScope_L4 t0) 0).bind fun y=>match y with
 |.inr v=>some v
 |.inl _=>
 (loopO (same_smallScope_L3 t0) 0).bind fun y=>match y with
 |.inr v=>some v
 |.inl _=>
 some true
def same_SmallLaw_L8(t0:GLaw) (s5:Int):Int→Option (Ex Int Unit (Ex Int Unit Bool)):=fun s11=>
 (idx t0.Enums s5).bind fun x12=>
 if s11<(x12.Members.length:Int)then
  (idx x12.Members s11).bind fun x14=>
  if 80<(x14.size:Int)then
   some (Ex.ret (Ex.ret false))
  else
  some (Ex.go (wrapF .i64 (s11+1)))
 else
 some (Ex.brk ())
def same_SmallLaw_L13(t0:GLaw):Int→Option (Ex Int Unit Bool):=fun s5=>
 if s5<(t0.Enums.length:Int)then
  qn (α:=Bool) (
   (idx t0.Enums s5).bind fun x7=>
   if¬80<(x7.Name.size:Int)then
    some (decide (20<(x7.Members.length:Int)))
   else
   some true) fun j9=>
  if j9=true then
   some (Ex.ret false)
  else
  (loopO (same_SmallLaw_L8 t0 s5) 0).bind fun y=>match y with
  |.inr v=>some v
  |.inl _=>
  some (Ex.go (wrapF .i64 (s5+1)))
 else
 some (Ex.brk ())
def same_SmallLaw_L12(t0:GLaw):(Int×Int)→Option (Ex (Int×Int) Unit Bool):=fun(s18,s19)=>
 if s19<(t0.Tables.length:Int)then
  (idx t0.Tables s19).bind fun x21=>
  qn (α:=Bool) (
   if¬80<(x21.Name.size:Int)then
    some (decide (150<(wrapF .i64 (s18+(x21.Rows.length:Int)))))
   else
   some true) fun j23=>
  if j23=true then
   some (Ex.ret false)
  else
  some (Ex.go ((wrapF .i64 (s18+(x21.Rows.length:Int))),(wrapF .i64 (s19+1))))
 else
 some (Ex.brk ())
def same_SmallLaw_L11(t0:GLaw):(Int×Int)→Option (Ex (Int×Int) Unit Bool):=fun(s27,s28)=>
 if s28<(t0.Scopes.length:Int)then
  (idx t0.Scopes s28).bind fun x30=>
  qn (α:=Bool) (
   if¬60<(wrapF .i64 (s27+(x30.Rules.length:Int)))then
    (same_smallScope x30).bind fun x32=>
    some (!x32)
   else
   some true) fun j33=>
  if j33=true then
   some (Ex.ret false)
  else
  some (Ex.go ((wrapF .i64 (s27+(x30.Rules.length:Int))),(wrapF .i64 (s28+1))))
 else
 some (Ex.brk ())
def same_SmallLaw(t0:GLaw):Option Bool:=
 qn (α:=Bool) (
  if¬9<(t0.Enums.length:Int)then
   if¬9<(t0.Tables.length:Int)then
    some (decide (5<(t0.Scopes.length:Int)))
   else
   some true
  else
  some true) fun j3=>
 if j3=true then
  some false
 else
 (loopO (same_SmallLaw_L13 t0) 0).bind fun y=>match y with
 |.inr v=>some v
 |.inl _=>
 (loopO (same_SmallLaw_L12 t0) (0,0)).bind fun y=>match y with
 |.inr v=>some v
 |.inl _=>
 (loopO (same_SmallLaw_L11 t0) (0,0)).bind fun y=>match y with
 |.inr v=>some v
 |.inl _=>
 some true
def lexer_isLower(t0:Int):Option Bool:=
 qn (α:=Bool) (
  if 97≤t0 then
   some (decide (t0≤122))
  else
  some false) fun j2=>
 some j2
def lexer_isDigit(t0:Int):Option Bool:=
 qn (α:=Bool) (
  if 48≤t0 then
   some (decide (t0≤57))
  else
  some false) fun j2=>
 some j2
def lexer_nameLength_L1(t0:ByteArray):Int→Option (Ex Int Int Unit):=fun s1=>
 qn (α:=Bool) (
  if s1<(t0.size:Int)then
   (sidx t0 s1).bind fun x3=>
   (lexer_isLower x3).bind fun x4=>
   if x4=false then
    (lexer_isDigit x3).bind fun x6=>
    if x6=false then
     some (x3==95)
    else
    some true
   else
   some true
  else
  some false) fun j8=>
 if j8=true then
  some (Ex.go (wrapF .i64 (s1+1)))
 else
 some (Ex.brk s1)
def lexer_nameLength(t0:ByteArray):Option Int:=
 (loopO (lexer_nameLength_L1 t0) 0).bind fun y=>match y with
 |.inr _=>none
 |.inl b11=>
 some b11
def lexer_reserved(t0:ByteArray):Option Bool:=
 qn (α:=Bool) (
  if t0=(vn #[105,102])then
   some true
  else
  if t0=(vn #[116,104,101,110])then
   some true
  else
  if t0=(vn #[101,108,115,101])then
   some true
  else
  if t0=(vn #[111,114])then
   some true
  else
  if t0=(vn #[97,110,100])then
   some true
  else
  if t0=(vn #[110,111,116])then
   some true
  else
  if t0=(vn #[116,114,117,101])then
   some true
  else
  if t0=(vn #[102,97,108,115,101])then
   some true
  else
  if t0=(vn #[116,111,100,97,121])then
   some true
  else
  if t0=(vn #[115,104,97,114,101])then
   some true
  else
  if t0=(vn #[100,105,118])then
   some true
  else
  if t0=(vn #[114,111,117,110,100])then
   some true
  else
  if t0=(vn #[109,105,110])then
   some true
  else
  if t0=(vn #[109,97,120])then
   some true
  else
  if t0=(vn #[112,108,117,115])then
   some true
  else
  if t0=(vn #[109,111,110,116,104,115])then
   some true
  else
  if t0=(vn #[100,97,121,115])then
   some true
  else
  if t0=(vn #[121,101,97,114,115])then
   some true
  else
  if t0=(vn #[121,101,97,114])then
   some true
  else
  if t0=(vn #[109,111,110,116,104])then
   some true
  else
  if t0=(vn #[116,97,98])then
   some true
  else
  if t0=(vn #[98,97,110,100])then
   some true
  else
  if t0=(vn #[99,111,117,110,116])then
   some true
  else
  if t0=(vn #[115,117,109])then
   some true
  else
  if t0=(vn #[97,108,108])then
   some true
  else
  if t0=(vn #[97,110,121])then
   some true
  else
  if t0=(vn #[109,111,115,116])then
   some true
  else
  if t0=(vn #[101,110,117,109])then
   some true
  else
  if t0=(vn #[116,97,98,108,101])then
   some true
  else
  if t0=(vn #[114,111,119])then
   some true
  else
  if t0=(vn #[115,99,111,112,101])then
   some true
  else
  if t0=(vn #[109,101,109,98,101,114,115])then
   some true
  else
  if t0=(vn #[105,110,112,117,116])then
   some true
  else
  if t0=(vn #[100,101,102])then
   some true
  else
  if t0=(vn #[114,117,108,101])then
   some true
  else
  if t0=(vn #[111,102])then
   some true
  else
  if t0=(vn #[111,118,101,114])then
   some true
  else
  if t0=(vn #[112,114,105,111])then
   some true
  else
  if t0=(vn #[102,114,111,109])then
   some true
  else
  if t0=(vn #[116,111])then
   some true
  else
  if t0=(vn #[101,110,100])then
   some true
  else
  if t0=(vn #[119,104,101,110])then
   some true
  else
  if t0=(vn #[105,115])then
   some true
  else
  if t0=(vn #[115,114,99])then
   some true
  else
  if t0=(vn #[98,111,111,108])then
   some true
  else
  if t0=(vn #[105,110,116])then
   some true
  else
  if t0=(vn #[109,111,110,101,121])then
   some true
  else
  if t0=(vn #[114,97,116,101])then
   some true
  else
  if t0=(vn #[100,97,116,101])then
   some true
  else
  if t0=(vn #[100,111,119,110])then
   some true
  else
  if t0=(vn #[117,112])then
   some true
  else
  if t0=(vn #[122,101,114,111])then
   some true
  else
  if t0=(vn #[97,119,97,121])then
   some true
  else
  if t0=(vn #[104,97,108,102])then
   some true
  else
  some (decide (t0=(vn #[101,118,101,110])))) fun j55=>
 if j55=true then
  some true
 else
 some false
def lexer_IsIdentifier(t0:ByteArray):Option Bool:=
 qn (α:=Bool) (
  if¬t0=(vn #[])then
   (sidx t0 0).bind fun x2=>
   (lexer_isLower x2).bind fun x3=>
   if x3=true then
    (lexer_nameLength t0).bind fun x5=>
    if x5=(t0.size:Int)then
     if(t0.size:Int)≤16 then
      (lexer_reserved t0).bind fun x8=>
      some (!x8)
     else
     some false
    else
    some false
   else
   some false
  else
  some false) fun j9=>
 some j9
def slices_IndexFunc_api_Enum_api_Enum_L1(t0:List GEnum) (t1:(GEnum→Option Bool)):Int→Option (Ex Int Unit Int):=fun s1=>
 if s1<(t0.length:Int)then
  (idx t0 s1).bind fun x3=>
  (t1 x3).bind fun x4=>
  if x4=true then
   some (Ex.ret s1)
  else
  some (Ex.go (wrapF .i64 (s1+1)))
 else
 some (Ex.brk ())
def slices_IndexFunc_api_Enum_api_Enum(t0:List GEnum) (t1:(GEnum→Option Bool)):Option Int:=
 (loopO (slices_IndexFunc_api_Enum_api_Enum_L1 t0 t1) 0).bind fun y=>match y with
 |.inr v=>some v
 |.inl _=>
 some (-1)
def slices_ContainsFunc_api_Enum_api_Enum(t0:List GEnum) (t1:(GEnum→Option Bool)):Option Bool:=
 (slices_IndexFunc_api_Enum_api_Enum t0 t1).bind fun x1=>
 some (decide (0≤x1))
def law_hasEnum_c1(t0:GEnum) (t1:ByteArray):Option Bool:=
 some (decide (t0.Name=t1))
def law_hasEnum(t0:List GEnum) (t1:ByteArray):Option Bool:=
 (slices_ContainsFunc_api_Enum_api_Enum t0 (fun x900=>law_hasEnum_c1 x900 t1)).bind fun x1=>
 some x1
def slices_Index_string_string_L1(t0:List ByteArray) (t1:ByteArray):Int→Option (Ex Int Unit Int):=fun s1=>
 if s1<(t0.length:Int)then
  (idx t0 s1).bind fun x3=>
  if t1=x3 then
   some (Ex.ret s1)
  else
  some (Ex.go (wrapF .i64 (s1+1)))
 else
 some (Ex.brk ())
def slices_Index_string_string(t0:List ByteArray) (t1:ByteArray):Option Int:=
 (loopO (slices_Index_string_string_L1 t0 t1) 0).bind fun y=>match y with
 |.inr v=>some v
 |.inl _=>
 some (-1)
def slices_Contains_string_string(t0:List ByteArray) (t1:ByteArray):Option Bool:=
 (slices_Index_string_string t0 t1).bind fun x1=>
 some (decide (0≤x1))
def law_checkEnum_L1(t2:GEnum):Int→Option (Ex Int Unit (Int×Int)):=fun s8=>
 if s8<(t2.Members.length:Int)then
  (idx t2.Members s8).bind fun x10=>
  (lexer_IsIdentifier x10).bind fun x11=>
  if x11=false then
   some (Ex.ret (2,(wrapF .i64 (100+s8))))
  else
  (subh t2.Members s8).bind fun x13=>
  (slices_Contains_string_string x13 x10).bind fun x14=>
  if x14=true then
   some (Ex.ret (7,(wrapF .i64 (100+s8))))
  else
  some (Ex.go (wrapF .i64 (s8+1)))
 else
 some (Ex.brk ())
def law_checkEnum(t0:GLaw) (t1:Int) (t2:GEnum):Option (Int×Int):=
 (lexer_IsIdentifier t2.Name).bind fun x1=>
 if x1=false then
  some (2,0)
 else
 (subh t0.Enums t1).bind fun x3=>
 (law_hasEnum x3 t2.Name).bind fun x4=>
 if x4=true then
  some (7,0)
 else
 if(t2.Members.length:Int)=0 then
  some (5,0)
 else
 if 16<(t2.Members.length:Int)then
  some (4,116)
 else
 (loopO (law_checkEnum_L1 t2) 0).bind fun y=>match y with
 |.inr v=>some v
 |.inl _=>
 some (0,0)
def law_checkEnums_L1(t0:GLaw):Int→Option (Ex Int Unit GLawError):=fun s2=>
 if s2<(t0.Enums.length:Int)then
  (idx t0.Enums s2).bind fun x4=>
  (law_checkEnum t0 s2 x4).bind fun x5=>
  if¬x5.1=0 then
   some (Ex.ret (GLawError.mk x5.1 1 s2 x5.2))
  else
  some (Ex.go (wrapF .i64 (s2+1)))
 else
 some (Ex.brk ())
def law_checkEnums(t0:GLaw):Option GLawError:=
 if 8<(t0.Enums.length:Int)then
  some (GLawError.mk 4 1 8 0)
 else
 (loopO (law_checkEnums_L1 t0) 0).bind fun y=>match y with
 |.inr v=>some v
 |.inl _=>
 some (GLawError.mk 0 0 0 0)
def value_ValidType(t0:GType) (t1:List GEnum):Option Bool:=
 qn (α:=Bool) (
  if t0.Kind=1 then
   some true
  else
  if t0.Kind=2 then
   some true
  else
  if t0.Kind=3 then
   some true
  else
  if t0.Kind=4 then
   some true
  else
  some (t0.Kind==5)) fun j5=>
 if j5=true then
  some (t0.Enum==0)
 else
 if t0.Kind=6 then
  qn (α:=Bool) (
   if 0≤t0.Enum then
    some (decide (t0.Enum<(t1.length:Int)))
   else
   some false) fun j9=>
  some j9
 else
 some false
def value_Bounds(t0:GType) (t1:List GEnum):Option (Int×Int):=
 (value_ValidType t0 t1).bind fun x1=>
 if x1=false then
  some (0,(-1))
 else
 if t0.Kind=1 then
  some (0,1)
 else
 if t0.Kind=2 then
  some ((-1000000000000),1000000000000)
 else
 if t0.Kind=3 then
  some ((-1000000000000000),1000000000000000)
 else
 if t0.Kind=4 then
  some ((-1000000000),1000000000)
 else
 if t0.Kind=5 then
  some (0,109572)
 else
 (idx t1 t0.Enum).bind fun x8=>
 some (0,(wrapF .i64 ((x8.Members.length:Int)-1)))
def daterange_Valid(t0:GDateRange):Option Bool:=
 qn (α:=Bool) (
  if 0≤t0.From then
   if t0.From≤t0.To then
    some (decide (t0.To≤109573))
   else
   some false
  else
  some false) fun j3=>
 some j3
def table_first_api_Row_L1(t0:List GRow) (t1:(GRow→Option Bool)):Int→Option (Ex Int Unit (Int×Bool)):=fun s1=>
 if s1<(t0.length:Int)then
  (idx t0 s1).bind fun x3=>
  (t1 x3).bind fun x4=>
  if x4=true then
   some (Ex.ret (s1,true))
  else
  some (Ex.go (wrapF .i64 (s1+1)))
 else
 some (Ex.brk ())
def table_first_api_Row(t0:List GRow) (t1:(GRow→Option Bool)):Option (Int×Bool):=
 (loopO (table_first_api_Row_L1 t0 t1) 0).bind fun y=>match y with
 |.inr v=>some v
 |.inl _=>
 some (0,false)
def daterange_hasDate(t0:GDateRange):Option Bool:=
 qn (α:=Bool) (
  (daterange_Valid t0).bind fun x1=>
  if x1=true then
   some (decide (t0.From<t0.To))
  else
  some false) fun j3=>
 some j3
def daterange_Intersect(t0:GDateRange) (t1:GDateRange):Option (GDateRange×Bool):=
 qn (α:=Bool) (
  (daterange_hasDate t0).bind fun x1=>
  if x1=true then
   (daterange_hasDate t1).bind fun x3=>
   some (!x3)
  else
  some true) fun j4=>
 if j4=true then
  some ((GDateRange.mk 0 0),false)
 else
 if(min t0.To t1.To)≤(max t0.From t1.From)then
  some ((GDateRange.mk 0 0),false)
 else
 some ((GDateRange.mk (max t0.From t1.From) (min t0.To t1.To)),true)
def table_conflict(t0:GRow) (t1:GRow):Option Bool:=
 (daterange_Intersect t0.Valid t1.Valid).bind fun x1=>
 qn (α:=Bool) (
  if x1.2=true then
   some (decide ((max t0.Lo t1.Lo)<(min t0.Hi t1.Hi)))
  else
  some false) fun j3=>
 some j3
def table_Validate_c1(t0:GRow) (t1:GRow):Option Bool:=
 (table_conflict t0 t1).bind fun x1=>
 some x1
def table_Validate_L1(t0:GTable) (x7:(Int×Int)) (x8:(Int×Int)):Int→Option (Ex Int Unit (Int×Int)):=fun s9=>
 if s9<(t0.Rows.length:Int)then
  (idx t0.Rows s9).bind fun x11=>
  qn (α:=Bool) (
   (daterange_Valid x11.Valid).bind fun x12=>
   if x12=true then
    if¬x11.Valid.From=x11.Valid.To then
     some (decide (x11.Hi≤x11.Lo))
    else
    some true
   else
   some true) fun j15=>
  if j15=true then
   some (Ex.ret (s9,3))
  else
  qn (α:=Bool) (
   if¬x11.Lo<x7.1 then
    if¬x7.2<x11.Lo then
     if¬(wrapF .i64 (x11.Hi-1))<x7.1 then
      some (decide (x7.2<(wrapF .i64 (x11.Hi-1))))
     else
     some true
    else
    some true
   else
   some true) fun j20=>
  if j20=true then
   some (Ex.ret (s9,3))
  else
  qn (α:=Bool) (
   if¬x11.N<x8.1 then
    some (decide (x8.2<x11.N))
   else
   some true) fun j23=>
  if j23=true then
   some (Ex.ret (s9,3))
  else
  (subh t0.Rows s9).bind fun x25=>
  (table_first_api_Row x25 (fun x900=>table_Validate_c1 x900 x11)).bind fun x26=>
  if x26.2=true then
   some (Ex.ret (s9,11))
  else
  some (Ex.go (wrapF .i64 (s9+1)))
 else
 some (Ex.brk ())
def table_Validate(t0:GTable) (t1:List GEnum):Option (Int×Int):=
 if 64<(t0.Rows.length:Int)then
  some (64,4)
 else
 qn (α:=Bool) (
  (value_ValidType t0.Key t1).bind fun x2=>
  if x2=true then
   (value_ValidType t0.Value t1).bind fun x4=>
   some (!x4)
  else
  some true) fun j5=>
 if j5=true then
  some ((-1),8)
 else
 (value_Bounds t0.Key t1).bind fun x7=>
 (value_Bounds t0.Value t1).bind fun x8=>
 (loopO (table_Validate_L1 t0 x7 x8) 0).bind fun y=>match y with
 |.inr v=>some v
 |.inl _=>
 some (0,0)
def slices_IndexFunc_api_Table_api_Table_L1(t0:List GTable) (t1:(GTable→Option Bool)):Int→Option (Ex Int Unit Int):=fun s1=>
 if s1<(t0.length:Int)then
  (idx t0 s1).bind fun x3=>
  (t1 x3).bind fun x4=>
  if x4=true then
   some (Ex.ret s1)
  else
  some (Ex.go (wrapF .i64 (s1+1)))
 else
 some (Ex.brk ())
def slices_IndexFunc_api_Table_api_Table(t0:List GTable) (t1:(GTable→Option Bool)):Option Int:=
 (loopO (slices_IndexFunc_api_Table_api_Table_L1 t0 t1) 0).bind fun y=>match y with
 |.inr v=>some v
 |.inl _=>
 some (-1)
def slices_ContainsFunc_api_Table_api_Table(t0:List GTable) (t1:(GTable→Option Bool)):Option Bool:=
 (slices_IndexFunc_api_Table_api_Table t0 t1).bind fun x1=>
 some (decide (0≤x1))
def law_hasTable_c1(t0:GTable) (t1:ByteArray):Option Bool:=
 some (decide (t0.Name=t1))
def law_hasTable(t0:List GTable) (t1:ByteArray):Option Bool:=
 (slices_ContainsFunc_api_Table_api_Table t0 (fun x900=>law_hasTable_c1 x900 t1)).bind fun x1=>
 some x1
def law_checkTables_L1(t0:GLaw):Int→Option (Ex Int Unit GLawError):=fun s2=>
 if s2<(t0.Tables.length:Int)then
  (idx t0.Tables s2).bind fun x4=>
  (table_Validate x4 t0.Enums).bind fun x5=>
  qn (α:=(Int×Int)) (
   (lexer_IsIdentifier x4.Name).bind fun x6=>
   if x6=false then
    some (2,0)
   else
   qn (α:=Bool) (
    (law_hasEnum t0.Enums x4.Name).bind fun x8=>
    if x8=false then
     (subh t0.Tables s2).bind fun x10=>
     (law_hasTable x10 x4.Name).bind fun x11=>
     some x11
    else
    some true) fun j12=>
   if j12=true then
    some (7,0)
   else
   if¬x5.2=0 then
    if¬x5.1=(-1)then
     some (x5.2,(wrapF .i64 (100+x5.1)))
    else
    some (x5.2,0)
   else
   some (0,0)) fun(j16,j17)=>
  if¬j16=0 then
   some (Ex.ret (GLawError.mk j16 2 s2 j17))
  else
  some (Ex.go (wrapF .i64 (s2+1)))
 else
 some (Ex.brk ())
def law_checkTables(t0:GLaw):Option GLawError:=
 if 8<(t0.Tables.length:Int)then
  some (GLawError.mk 4 2 8 0)
 else
 (loopO (law_checkTables_L1 t0) 0).bind fun y=>match y with
 |.inr v=>some v
 |.inl _=>
 some (GLawError.mk 0 0 0 0)
def law_fieldTypes_L1(t0:List GField):((List GType)×Int)→Option (Ex ((List GType)×Int) (List GType) Unit):=fun(s1,s2)=>
 if s2<(t0.length:Int)then
  (idx t0 s2).bind fun x4=>
  (app 16 s1 ([x4.Type_])).bind fun x5=>
  some (Ex.go (x5,(wrapF .i64 (s2+1))))
 else
 some (Ex.brk s1)
def law_fieldTypes(t0:List GField):Option (List GType):=
 (loopO (law_fieldTypes_L1 t0) (([]:List GType),0)).bind fun y=>match y with
 |.inr _=>none
 |.inl b8=>
 some b8
def law_sharedSignature(t0:GLaw) (t1:Int):Option GSignature:=
 (idx t0.Scopes t1).bind fun x1=>
 (law_fieldTypes x1.Inputs).bind fun x2=>
 (law_fieldTypes x1.Defs).bind fun x3=>
 qn (α:=((List GType)×Bool)) (
  qn (α:=Bool) (
   if 0≤x1.MemberScope then
    some (decide (x1.MemberScope<(t0.Scopes.length:Int)))
   else
   some false) fun j5=>
  if j5=true then
   (idx t0.Scopes x1.MemberScope).bind fun x7=>
   (law_fieldTypes x7.Defs).bind fun x8=>
   some (x8,true)
  else
  some (([]:List GType),false)) fun(j9,j10)=>
 some (GSignature.mk t0.Enums t0.Tables x2 x3 j9 j10)
def deps_reached(t0:List (List Int)) (t1:Int):Option (List Int):=
 if t0.length≤1048576∧(∀l∈t0,l.length≤1048576∧∀e∈l,0≤e∧e<t0.length)∧0≤t1∧t1<t0.length then
  some (reachL t0 t1)
 else none
def slices_Sort_int_int(t0:List Int):Option (List Int):=if t0.length≤8796093022208 then some (t0.mergeSort fun x y=>decide (x≤y))else none
def slices_Compact_int_int(t0:List Int):Option (List Int):=if t0.length≤8796093022208 then some (Go.Lib.compact t0)else none
def expr_distinct(t0:List Int):Option (List Int):=
 (slices_Sort_int_int t0).bind fun x1=>
 (slices_Compact_int_int x1).bind fun x2=>
 some x2
def expr_References_L1(t0:List GNode):((List Int)×(List Int)×(List Int)×Int)→Option (Ex ((List Int)×(List Int)×(List Int)×Int) ((List Int)×(List Int)×(List Int)) Unit):=fun(s1,s2,s3,s4)=>
 if s4<(t0.length:Int)then
  qn (α:=((List Int)×(List Int)×(List Int))) (
   (idx t0 s4).bind fun x6=>
   if x6.Op=7 then
    (app 8 s1 ([x6.N])).bind fun x8=>
    some (x8,s2,s3)
   else
   if x6.Op=8 then
    (app 8 s2 ([x6.N])).bind fun x10=>
    some (s1,x10,s3)
   else
   qn (α:=Bool) (
    if x6.Op=36 then
     some true
    else
    if x6.Op=37 then
     some true
    else
    if x6.Op=38 then
     some true
    else
    some (x6.Op==39)) fun j14=>
   if j14=true then
    (app 8 s3 ([x6.N])).bind fun x16=>
    some (s1,s2,x16)
   else
   some (s1,s2,s3)) fun(j17,j18,j19)=>
  some (Ex.go (j17,j18,j19,(wrapF .i64 (s4+1))))
 else
 some (Ex.brk (s1,s2,s3))
def expr_References(t0:List GNode):Option ((List Int)×(List Int)×(List Int)):=
 (loopO (expr_References_L1 t0) (([]:List Int),([]:List Int),([]:List Int),0)).bind fun y=>match y with
 |.inr _=>none
 |.inl (b24,b25,b26)=>
 (expr_distinct b24).bind fun x27=>
 (expr_distinct b25).bind fun x28=>
 (expr_distinct b26).bind fun x29=>
 some (x27,x28,x29)
def deps_definitionsOf_L3(t1:Int) (x1:((List Int)×(List Int)×(List Int))):((List Int)×Int)→Option (Ex ((List Int)×Int) (List Int) Unit):=fun(s3,s4)=>
 if s4<(x1.2.1.length:Int)then
  qn (α:=(List Int)) (
   (idx x1.2.1 s4).bind fun x6=>
   qn (α:=Bool) (
    if 0≤x6 then
     some (decide (x6<t1))
    else
    some false) fun j8=>
   if j8=true then
    (app 8 s3 ([x6])).bind fun x10=>
    some x10
   else
   some s3) fun j11=>
  some (Ex.go (j11,(wrapF .i64 (s4+1))))
 else
 some (Ex.brk s3)
def deps_definitionsOf_L2(t1:Int) (x2:((List Int)×(List Int)×(List Int))):((List Int)×Int)→Option (Ex ((List Int)×Int) (List Int) Unit):=fun(s15,s16)=>
 if s16<(x2.2.1.length:Int)then
  qn (α:=(List Int)) (
   (idx x2.2.1 s16).bind fun x18=>
   qn (α:=Bool) (
    if 0≤x18 then
     some (decide (x18<t1))
    else
    some false) fun j20=>
   if j20=true then
    (app 8 s15 ([x18])).bind fun x22=>
    some x22
   else
   some s15) fun j23=>
  some (Ex.go (j23,(wrapF .i64 (s16+1))))
 else
 some (Ex.brk s15)
def deps_definitionsOf(t0:GRule) (t1:Int):Option (List Int):=
 (expr_References t0.Guard).bind fun x1=>
 (expr_References t0.Value).bind fun x2=>
 (loopO (deps_definitionsOf_L3 t1 x1) (([]:List Int),0)).bind fun y=>match y with
 |.inr _=>none
 |.inl b14=>
 (loopO (deps_definitionsOf_L2 t1 x2) (b14,0)).bind fun y=>match y with
 |.inr _=>none
 |.inl b26=>
 some b26
def deps_sortedSet(t0:List Int):Option (List Int):=
 (slices_Sort_int_int t0).bind fun x1=>
 (slices_Compact_int_int x1).bind fun x2=>
 some x2
def deps_allDirect(t0:GScope):Option (List (List Int)):=
 if t0.Defs.length≤1048576∧t0.Rules.length≤1048576∧(∀r∈t0.Rules,r.Guard.length≤1048576∧r.Value.length≤1048576)then
  ((wo t0.Defs.length).mapM fun(d:Nat)=>((t0.Rules.filter fun(r:GRule)=>r.Def==(d:Int)).mapM fun r=>deps_definitionsOf r t0.Defs.length).bind fun ls=>some (dsort ls.flatten))
 else none
def deps_Transitive(t0:GScope) (t1:Int):Option (List Int):=
 qn (α:=Bool) (
  if¬t1<0 then
   some (decide ((t0.Defs.length:Int)≤t1))
  else
  some true) fun j2=>
 if j2=true then
  some ([])
 else
 (deps_allDirect t0).bind fun x4=>
 (deps_reached x4 t1).bind fun x5=>
 some x5
def slices_IndexFunc_api_Scope_api_Scope_L1(t0:List GScope) (t1:(GScope→Option Bool)):Int→Option (Ex Int Unit Int):=fun s1=>
 if s1<(t0.length:Int)then
  (idx t0 s1).bind fun x3=>
  (t1 x3).bind fun x4=>
  if x4=true then
   some (Ex.ret s1)
  else
  some (Ex.go (wrapF .i64 (s1+1)))
 else
 some (Ex.brk ())
def slices_IndexFunc_api_Scope_api_Scope(t0:List GScope) (t1:(GScope→Option Bool)):Option Int:=
 (loopO (slices_IndexFunc_api_Scope_api_Scope_L1 t0 t1) 0).bind fun y=>match y with
 |.inr v=>some v
 |.inl _=>
 some (-1)
def slices_ContainsFunc_api_Scope_api_Scope(t0:List GScope) (t1:(GScope→Option Bool)):Option Bool:=
 (slices_IndexFunc_api_Scope_api_Scope t0 t1).bind fun x1=>
 some (decide (0≤x1))
def law_checkScope_c1(t0:GScope) (t1:GScope):Option Bool:=
 some (decide (t0.Name=t1.Name))
def law_checkField_c1(t0:GField) (t1:GField):Option Bool:=
 some (decide (t0.Name=t1.Name))
def slices_IndexFunc_api_Field_api_Field_L1(t0:List GField) (t1:(GField→Option Bool)):Int→Option (Ex Int Unit Int):=fun s1=>
 if s1<(t0.length:Int)then
  (idx t0 s1).bind fun x3=>
  (t1 x3).bind fun x4=>
  if x4=true then
   some (Ex.ret s1)
  else
  some (Ex.go (wrapF .i64 (s1+1)))
 else
 some (Ex.brk ())
def slices_IndexFunc_api_Field_api_Field(t0:List GField) (t1:(GField→Option Bool)):Option Int:=
 (loopO (slices_IndexFunc_api_Field_api_Field_L1 t0 t1) 0).bind fun y=>match y with
 |.inr v=>some v
 |.inl _=>
 some (-1)
def slices_ContainsFunc_api_Field_api_Field(t0:List GField) (t1:(GField→Option Bool)):Option Bool:=
 (slices_IndexFunc_api_Field_api_Field t0 t1).bind fun x1=>
 some (decide (0≤x1))
def law_checkField(t0:GLaw) (t1:GField) (t2:List GField) (t3:List GField):Option Int:=
 (lexer_IsIdentifier t1.Name).bind fun x1=>
 if x1=false then
  some 2
 else
 qn (α:=Bool) (
  (slices_ContainsFunc_api_Field_api_Field t2 (fun x900=>law_checkField_c1 x900 t1)).bind fun x3=>
  if x3=false then
   (slices_ContainsFunc_api_Field_api_Field t3 (fun x900=>law_checkField_c1 x900 t1)).bind fun x5=>
   some x5
  else
  some true) fun j6=>
 if j6=true then
  some 7
 else
 (value_ValidType t1.Type_ t0.Enums).bind fun x8=>
 if x8=false then
  some 8
 else
 some 0
def slices_IndexFunc_api_Rule_api_Rule_L1(t0:List GRule) (t1:(GRule→Option Bool)):Int→Option (Ex Int Unit Int):=fun s1=>
 if s1<(t0.length:Int)then
  (idx t0 s1).bind fun x3=>
  (t1 x3).bind fun x4=>
  if x4=true then
   some (Ex.ret s1)
  else
  some (Ex.go (wrapF .i64 (s1+1)))
 else
 some (Ex.brk ())
def slices_IndexFunc_api_Rule_api_Rule(t0:List GRule) (t1:(GRule→Option Bool)):Option Int:=
 (loopO (slices_IndexFunc_api_Rule_api_Rule_L1 t0 t1) 0).bind fun y=>match y with
 |.inr v=>some v
 |.inl _=>
 some (-1)
def slices_ContainsFunc_api_Rule_api_Rule(t0:List GRule) (t1:(GRule→Option Bool)):Option Bool:=
 (slices_IndexFunc_api_Rule_api_Rule t0 t1).bind fun x1=>
 some (decide (0≤x1))
def law_checkRule_c1(t0:GRule) (t1:GRule):Option Bool:=
 some (decide (t0.Name=t1.Name))
def strings_Contains(t0:ByteArray) (t1:ByteArray):Option Bool:=
 if t1.size=1 then some (t0.data.toList.contains (t1.data.toList.headD 0))else none
def law_validSource_L1(t0:ByteArray):Int→Option (Ex Int Unit Bool):=fun s5=>
 if s5<(t0.size:Int)then
  qn (α:=Bool) (
   (sidx t0 s5).bind fun x7=>
   if¬x7<32 then
    some (decide (126<x7))
   else
   some true) fun j9=>
  if j9=true then
   some (Ex.ret false)
  else
  some (Ex.go (wrapF .i64 (s5+1)))
 else
 some (Ex.brk ())
def law_validSource(t0:ByteArray):Option Bool:=
 qn (α:=Bool) (
  if¬64<(t0.size:Int)then
   (strings_Contains t0 (vn #[34])).bind fun x2=>
   some x2
  else
  some true) fun j3=>
 if j3=true then
  some false
 else
 (loopO (law_validSource_L1 t0) 0).bind fun y=>match y with
 |.inr v=>some v
 |.inl _=>
 some true
def expr_Arity(t0:Int):Option Int:=
 qn (α:=Bool) (
  if t0=1 then
   some true
  else
  if t0=2 then
   some true
  else
  if t0=3 then
   some true
  else
  if t0=4 then
   some true
  else
  if t0=5 then
   some true
  else
  if t0=6 then
   some true
  else
  if t0=7 then
   some true
  else
  if t0=8 then
   some true
  else
  if t0=9 then
   some true
  else
  if t0=35 then
   some true
  else
  if t0=36 then
   some true
  else
  if t0=37 then
   some true
  else
  if t0=38 then
   some true
  else
  some (t0==39)) fun j14=>
 if j14=true then
  some 0
 else
 qn (α:=Bool) (
  if t0=10 then
   some true
  else
  if t0=25 then
   some true
  else
  if t0=31 then
   some true
  else
  if t0=32 then
   some true
  else
  if t0=33 then
   some true
  else
  some (t0==34)) fun j21=>
 if j21=true then
  some 1
 else
 qn (α:=Bool) (
  if t0=11 then
   some true
  else
  if t0=12 then
   some true
  else
  if t0=13 then
   some true
  else
  if t0=14 then
   some true
  else
  if t0=15 then
   some true
  else
  if t0=16 then
   some true
  else
  if t0=17 then
   some true
  else
  if t0=18 then
   some true
  else
  if t0=19 then
   some true
  else
  if t0=20 then
   some true
  else
  if t0=21 then
   some true
  else
  if t0=22 then
   some true
  else
  if t0=23 then
   some true
  else
  if t0=24 then
   some true
  else
  if t0=27 then
   some true
  else
  if t0=28 then
   some true
  else
  if t0=29 then
   some true
  else
  some (t0==30)) fun j40=>
 if j40=true then
  some 2
 else
 if t0=26 then
  some 3
 else
 some (-1)
def expr_structure_L1(t0:List GNode):((List Int)×(List Int)×Int)→Option (Ex ((List Int)×(List Int)×Int) ((List Int)×(List Int)) ((List Int)×Int×Int)):=fun(s4,s5,s6)=>
 if s6<(t0.length:Int)then
  (idx t0 s6).bind fun x8=>
  (expr_Arity x8.Op).bind fun x9=>
  if x9<0 then
   some (Ex.ret ([],s6,2))
  else
  if(s5.length:Int)<x9 then
   some (Ex.ret ([],s6,5))
  else
  (idx s4 s6).bind fun x12=>
  (put s4 s6 s6).bind fun x13=>
  qn (α:=(List Int)) (
   if 0<x9 then
    (idx s5 (wrapF .i64 ((s5.length:Int)-x9))).bind fun x15=>
    (idx x13 s6).bind fun x16=>
    (put x13 s6 x15).bind fun x17=>
    some x17
   else
   some x13) fun j18=>
  (subh s5 (wrapF .i64 ((s5.length:Int)-x9))).bind fun x19=>
  (idx j18 s6).bind fun x20=>
  (app 8 x19 ([x20])).bind fun x21=>
  if 12<(x21.length:Int)then
   some (Ex.ret ([],s6,16))
  else
  some (Ex.go (j18,x21,(wrapF .i64 (s6+1))))
 else
 some (Ex.brk (s4,s5))
def expr_structure(t0:List GNode):Option ((List Int)×Int×Int):=
 if 48<(t0.length:Int)then
  some ([],0,4)
 else
 if(t0.length:Int)=0 then
  some ([],0,5)
 else
 (mks 8 0 (t0.length:Int) (t0.length:Int)).bind fun x3=>
 (loopO (expr_structure_L1 t0) (x3,([]:List Int),0)).bind fun y=>match y with
 |.inr v=>some v
 |.inl (b26,b27)=>
 if 1<(b27.length:Int)then
  some ([],(t0.length:Int),4)
 else
 some (b26,0,0)
def expr_UsesN(t0:Int):Option Bool:=
 qn (α:=Bool) (
  if t0=1 then
   some true
  else
  if t0=2 then
   some true
  else
  if t0=3 then
   some true
  else
  if t0=4 then
   some true
  else
  if t0=5 then
   some true
  else
  if t0=6 then
   some true
  else
  if t0=7 then
   some true
  else
  if t0=8 then
   some true
  else
  if t0=14 then
   some true
  else
  if t0=15 then
   some true
  else
  if t0=16 then
   some true
  else
  if t0=33 then
   some true
  else
  if t0=34 then
   some true
  else
  if t0=36 then
   some true
  else
  if t0=37 then
   some true
  else
  if t0=38 then
   some true
  else
  some (t0==39)) fun j17=>
 if j17=true then
  some true
 else
 some false
def expr_literalType(t0:Int) (t1:Int) (t2:GSignature):Option (GType×Int):=
 (value_Bounds (GType.mk t1 0) t2.Enums).bind fun x1=>
 qn (α:=Bool) (
  if¬t0<x1.1 then
   some (decide (x1.2<t0))
  else
  some true) fun j3=>
 if j3=true then
  some ((GType.mk 0 0),3)
 else
 some ((GType.mk t1 0),0)
def expr_enumType(t0:Int) (t1:GSignature):Option (GType×Int):=
 if t0<0 then
  some ((GType.mk 0 0),3)
 else
 qn (α:=Bool) (
  if¬(t1.Enums.length:Int)≤(wrapF .i64 (Po t0 16))then
   (idx t1.Enums (wrapF .i64 (Po t0 16))).bind fun x3=>
   some (decide ((x3.Members.length:Int)≤(Pq t0 16)))
  else
  some true) fun j4=>
 if j4=true then
  some ((GType.mk 0 0),6)
 else
 some ((GType.mk 6 (wrapF .i64 (Po t0 16))),0)
def expr_listedType(t0:Int) (t1:List GType) (t2:GSignature):Option (GType×Int):=
 qn (α:=Bool) (
  if¬t0<0 then
   some (decide ((t1.length:Int)≤t0))
  else
  some true) fun j2=>
 if j2=true then
  some ((GType.mk 0 0),6)
 else
 (idx t1 t0).bind fun x4=>
 (value_ValidType x4 t2.Enums).bind fun x5=>
 if x5=false then
  some ((GType.mk 0 0),8)
 else
 some (x4,0)
def expr_validMode(t0:Int):Option Bool:=
 qn (α:=Bool) (
  if 0≤t0 then
   some (decide (t0≤5))
  else
  some false) fun j2=>
 some j2
def expr_tableType(t0:GNode) (t1:GType) (t2:GSignature):Option (GType×Int):=
 qn (α:=(Int⊕(GType×Int))) (
  if t0.Op=34 then
   qn (α:=Bool) (
    if¬t0.N<0 then
     (expr_validMode (Pq t0.N 8)).bind fun x3=>
     some (!x3)
    else
    some true) fun j4=>
   if j4=true then
    some (Sum.inr ((GType.mk 0 0),3))
   else
   some (Sum.inl (wrapF .i64 (Po t0.N 8)))
  else
  some (Sum.inl t0.N)) fun z=>match z with
 |.inr v=>some v
 |.inl j6=>
 qn (α:=Bool) (
  if¬j6<0 then
   some (decide ((t2.Tables.length:Int)≤j6))
  else
  some true) fun j8=>
 if j8=true then
  some ((GType.mk 0 0),6)
 else
 (idx t2.Tables j6).bind fun x10=>
 qn (α:=Bool) (
  (value_ValidType x10.Key t2.Enums).bind fun x11=>
  if x11=true then
   (value_ValidType x10.Value t2.Enums).bind fun x13=>
   if x13=true then
    some (!((t1.Kind==x10.Key.Kind)&&(t1.Enum==x10.Key.Enum)))
   else
   some true
  else
  some true) fun j15=>
 if j15=true then
  some ((GType.mk 0 0),8)
 else
 if t0.Op=34 then
  qn (α:=Bool) (
   if x10.Key.Kind=3 then
    some (x10.Value.Kind !=4)
   else
   some true) fun j19=>
  if j19=true then
   some ((GType.mk 0 0),8)
  else
  some (x10.Key,0)
 else
 some (x10.Value,0)
def expr_isNumber(t0:Int):Option Bool:=
 qn (α:=Bool) (
  if¬t0=2 then
   if¬t0=3 then
    some (t0==4)
   else
   some true
  else
  some true) fun j3=>
 some j3
def expr_memberType(t0:GNode) (t1:GSignature):Option (GType×Int):=
 if t1.HasMembers=false then
  some ((GType.mk 0 0),6)
 else
 if t0.Op=35 then
  some ((GType.mk 2 0),0)
 else
 (expr_listedType t0.N t1.MemberDefs t1).bind fun x3=>
 if¬x3.2=0 then
  some ((GType.mk 0 0),x3.2)
 else
 qn (α:=Bool) (
  if t0.Op=36 then
   if¬x3.1.Kind=2 then
    some (x3.1.Kind==3)
   else
   some true
  else
  qn (α:=Bool) (
   if t0.Op=37 then
    some true
   else
   some (t0.Op==38)) fun j8=>
  if j8=true then
   some (x3.1.Kind==1)
  else
  if t0.Op=39 then
   (expr_isNumber x3.1.Kind).bind fun x11=>
   if x11=false then
    some (x3.1.Kind==5)
   else
   some true
  else
  some false) fun j13=>
 if j13=false then
  some ((GType.mk 0 0),8)
 else
 some (x3.1,0)
def expr_productType(t0:Int) (t1:Int) (t2:Int):Option (GType×Bool):=
 if t0=14 then
  qn (α:=Bool) (
   if t2=4 then
    if¬t1=3 then
     some (t1==4)
    else
    some true
   else
   some false) fun j4=>
  some ((GType.mk t1 0),j4)
 else
 if t2=2 then
  qn (α:=Bool) (
   if¬t1=2 then
    some (t1==3)
   else
   some true) fun j7=>
  some ((GType.mk t1 0),j7)
 else
 qn (α:=Bool) (
  if t0=15 then
   if t1=3 then
    some (t2==3)
   else
   some false
  else
  some false) fun j10=>
 if j10=true then
  some ((GType.mk 4 0),true)
 else
 some ((GType.mk 0 0),false)
def expr_resultType(t0:Int) (t1:List GType):Option (GType×Bool):=
 if t0=10 then
  (idx t1 0).bind fun x2=>
  (expr_isNumber x2.Kind).bind fun x3=>
  some (x2,x3)
 else
 if t0=25 then
  (idx t1 0).bind fun x5=>
  some ((GType.mk 1 0),(x5.Kind==1))
 else
 qn (α:=Bool) (
  if t0=11 then
   some true
  else
  some (t0==12)) fun j7=>
 if j7=true then
  qn (α:=(Int×Int×Bool)) (
   (idx t1 0).bind fun x9=>
   (idx t1 1).bind fun x10=>
   if x9.Kind=x10.Kind∧x9.Enum=x10.Enum then
    (expr_isNumber x9.Kind).bind fun x12=>
    some (x9.Kind,x9.Enum,x12)
   else
   some (x9.Kind,x9.Enum,false)) fun(j13,j14,j15)=>
  some ((GType.mk j13 j14),j15)
 else
 qn (α:=Bool) (
  if t0=13 then
   some true
  else
  if t0=14 then
   some true
  else
  some (t0==15)) fun j18=>
 if j18=true then
  (idx t1 0).bind fun x20=>
  (idx t1 1).bind fun x21=>
  (expr_productType t0 x20.Kind x21.Kind).bind fun x22=>
  some (x22.1,x22.2)
 else
 if t0=16 then
  qn (α:=(Int×Int×Bool)) (
   (idx t1 0).bind fun x24=>
   if x24.Kind=3 then
    (idx t1 1).bind fun x26=>
    some (x24.Kind,x24.Enum,(x26.Kind==3))
   else
   some (x24.Kind,x24.Enum,false)) fun(j27,j28,j29)=>
  some ((GType.mk j27 j28),j29)
 else
 qn (α:=Bool) (
  if t0=17 then
   some true
  else
  some (t0==18)) fun j31=>
 if j31=true then
  qn (α:=(Int×Int×Bool)) (
   (idx t1 0).bind fun x33=>
   (idx t1 1).bind fun x34=>
   if x33.Kind=x34.Kind∧x33.Enum=x34.Enum then
    (expr_isNumber x33.Kind).bind fun x36=>
    if x36=false then
     some (x33.Kind,x33.Enum,(x33.Kind==5))
    else
    some (x33.Kind,x33.Enum,true)
   else
   some (x33.Kind,x33.Enum,false)) fun(j38,j39,j40)=>
  some ((GType.mk j38 j39),j40)
 else
 qn (α:=Bool) (
  if t0=19 then
   some true
  else
  some (t0==20)) fun j42=>
 if j42=true then
  (idx t1 0).bind fun x44=>
  (idx t1 1).bind fun x45=>
  some ((GType.mk 1 0),((x44.Kind==x45.Kind)&&(x44.Enum==x45.Enum)))
 else
 qn (α:=Bool) (
  if t0=21 then
   some true
  else
  some (t0==22)) fun j47=>
 if j47=true then
  qn (α:=Bool) (
   (idx t1 0).bind fun x49=>
   (idx t1 1).bind fun x50=>
   if x49.Kind=x50.Kind∧x49.Enum=x50.Enum then
    (expr_isNumber x49.Kind).bind fun x52=>
    if x52=false then
     some (x49.Kind==5)
    else
    some true
   else
   some false) fun j54=>
  some ((GType.mk 1 0),j54)
 else
 qn (α:=Bool) (
  if t0=23 then
   some true
  else
  some (t0==24)) fun j56=>
 if j56=true then
  qn (α:=Bool) (
   (idx t1 0).bind fun x58=>
   if x58.Kind=1 then
    (idx t1 1).bind fun x60=>
    some (x60.Kind==1)
   else
   some false) fun j61=>
  some ((GType.mk 1 0),j61)
 else
 if t0=26 then
  qn (α:=(Int×Int×Bool)) (
   (idx t1 1).bind fun x63=>
   (idx t1 0).bind fun x64=>
   if x64.Kind=1 then
    (idx t1 2).bind fun x66=>
    some (x63.Kind,x63.Enum,((x63.Kind==x66.Kind)&&(x63.Enum==x66.Enum)))
   else
   some (x63.Kind,x63.Enum,false)) fun(j67,j68,j69)=>
  some ((GType.mk j67 j68),j69)
 else
 qn (α:=Bool) (
  if t0=27 then
   some true
  else
  some (t0==28)) fun j71=>
 if j71=true then
  qn (α:=(Int×Int×Bool)) (
   (idx t1 0).bind fun x73=>
   if x73.Kind=5 then
    (idx t1 1).bind fun x75=>
    some (x73.Kind,x73.Enum,(x75.Kind==2))
   else
   some (x73.Kind,x73.Enum,false)) fun(j76,j77,j78)=>
  some ((GType.mk j76 j77),j78)
 else
 qn (α:=Bool) (
  if t0=29 then
   some true
  else
  some (t0==30)) fun j80=>
 if j80=true then
  qn (α:=Bool) (
   (idx t1 0).bind fun x82=>
   if x82.Kind=5 then
    (idx t1 1).bind fun x84=>
    some (x84.Kind==5)
   else
   some false) fun j85=>
  some ((GType.mk 2 0),j85)
 else
 qn (α:=Bool) (
  if t0=31 then
   some true
  else
  some (t0==32)) fun j87=>
 if j87=true then
  (idx t1 0).bind fun x89=>
  some ((GType.mk 2 0),(x89.Kind==5))
 else
 some ((GType.mk 0 0),false)
def expr_nodeType(t0:GNode) (t1:List GType) (t2:GSignature):Option (GType×Int):=
 qn (α:=(Unit⊕(GType×Int))) (
  if t0.Op=1 then
   (expr_literalType t0.N 1 t2).bind fun x2=>
   some (Sum.inr (x2.1,x2.2))
  else
  if t0.Op=2 then
   (expr_literalType t0.N 2 t2).bind fun x4=>
   some (Sum.inr (x4.1,x4.2))
  else
  if t0.Op=3 then
   (expr_literalType t0.N 3 t2).bind fun x6=>
   some (Sum.inr (x6.1,x6.2))
  else
  if t0.Op=4 then
   (expr_literalType t0.N 4 t2).bind fun x8=>
   some (Sum.inr (x8.1,x8.2))
  else
  if t0.Op=5 then
   (expr_literalType t0.N 5 t2).bind fun x10=>
   some (Sum.inr (x10.1,x10.2))
  else
  if t0.Op=6 then
   (expr_enumType t0.N t2).bind fun x12=>
   some (Sum.inr (x12.1,x12.2))
  else
  if t0.Op=7 then
   (expr_listedType t0.N t2.Inputs t2).bind fun x14=>
   some (Sum.inr (x14.1,x14.2))
  else
  if t0.Op=8 then
   (expr_listedType t0.N t2.Defs t2).bind fun x16=>
   some (Sum.inr (x16.1,x16.2))
  else
  if t0.Op=9 then
   some (Sum.inr ((GType.mk 5 0),0))
  else
  qn (α:=Bool) (
   if t0.Op=33 then
    some true
   else
   some (t0.Op==34)) fun j19=>
  if j19=true then
   (idx t1 0).bind fun x21=>
   (expr_tableType t0 x21 t2).bind fun x22=>
   some (Sum.inr (x22.1,x22.2))
  else
  qn (α:=Bool) (
   if t0.Op=35 then
    some true
   else
   if t0.Op=36 then
    some true
   else
   if t0.Op=37 then
    some true
   else
   if t0.Op=38 then
    some true
   else
   some (t0.Op==39)) fun j27=>
  if j27=true then
   (expr_memberType t0 t2).bind fun x29=>
   some (Sum.inr (x29.1,x29.2))
  else
  qn (α:=Bool) (
   if t0.Op=14 then
    some true
   else
   if t0.Op=15 then
    some true
   else
   some (t0.Op==16)) fun j32=>
  if j32=true then
   (expr_validMode t0.N).bind fun x34=>
   if x34=false then
    some (Sum.inr ((GType.mk 0 0),3))
   else
   some (Sum.inl ())
  else
  some (Sum.inl ())) fun z=>match z with
 |.inr v=>some v
 |.inl _=>
 (expr_resultType t0.Op t1).bind fun x36=>
 if x36.2=false then
  some ((GType.mk 0 0),8)
 else
 some (x36.1,0)
def expr_TypeOf_L1(t0:List GNode) (t1:GSignature):((List GType)×Int)→Option (Ex ((List GType)×Int) (List GType) (GType×Int×Int)):=fun(s3,s4)=>
 if s4<(t0.length:Int)then
  (idx t0 s4).bind fun x6=>
  qn (α:=Bool) (
   if¬x6.N=0 then
    (expr_UsesN x6.Op).bind fun x8=>
    some (!x8)
   else
   some false) fun j9=>
  if j9=true then
   some (Ex.ret ((GType.mk 0 0),s4,2))
  else
  (expr_Arity x6.Op).bind fun x11=>
  (subl s3 (wrapF .i64 ((s3.length:Int)-x11))).bind fun x12=>
  (expr_nodeType x6 x12 t1).bind fun x13=>
  if¬x13.2=0 then
   some (Ex.ret ((GType.mk 0 0),s4,x13.2))
  else
  (subh s3 (wrapF .i64 ((s3.length:Int)-x11))).bind fun x15=>
  (app 16 x15 ([x13.1])).bind fun x16=>
  some (Ex.go (x16,(wrapF .i64 (s4+1))))
 else
 some (Ex.brk s3)
def expr_TypeOf(t0:List GNode) (t1:GSignature):Option (GType×Int×Int):=
 (expr_structure t0).bind fun x1=>
 if¬x1.2.2=0 then
  some ((GType.mk 0 0),x1.2.1,x1.2.2)
 else
 (loopO (expr_TypeOf_L1 t0 t1) (([]:List GType),0)).bind fun y=>match y with
 |.inr v=>some v
 |.inl b19=>
 (idx b19 0).bind fun x20=>
 some (x20,0,0)
def law_checkType(t0:List GNode) (t1:GSignature) (t2:GType):Option Int:=
 (expr_TypeOf t0 t1).bind fun x1=>
 if¬x1.2.2=0 then
  some x1.2.2
 else
 if¬(x1.1.Kind=t2.Kind∧x1.1.Enum=t2.Enum)then
  some 8
 else
 some 0
def law_checkRule_L1(x1:GRule) (x2:List GRule):(Int×Int)→Option (Ex (Int×Int) Int Unit):=fun(s3,s4)=>
 if s4<(x2.length:Int)then
  qn (α:=Int) (
   (idx x2 s4).bind fun x6=>
   if x6.Def=x1.Def then
    some (wrapF .i64 (s3+1))
   else
   some s3) fun j8=>
  some (Ex.go (j8,(wrapF .i64 (s4+1))))
 else
 some (Ex.brk s3)
def law_checkRule(t0:GScope) (t1:Int) (t2:GSignature):Option Int:=
 (idx t0.Rules t1).bind fun x1=>
 (subh t0.Rules t1).bind fun x2=>
 (loopO (law_checkRule_L1 x1 x2) (0,0)).bind fun y=>match y with
 |.inr _=>none
 |.inl b11=>
 (lexer_IsIdentifier x1.Name).bind fun x12=>
 if x12=false then
  some 2
 else
 (subh t0.Rules t1).bind fun x14=>
 (slices_ContainsFunc_api_Rule_api_Rule x14 (fun x900=>law_checkRule_c1 x900 x1)).bind fun x15=>
 if x15=true then
  some 7
 else
 qn (α:=Bool) (
  if¬x1.Def<0 then
   some (decide ((t0.Defs.length:Int)≤x1.Def))
  else
  some true) fun j18=>
 if j18=true then
  some 6
 else
 qn (α:=Bool) (
  if¬x1.Parent=(-1)then
   if¬x1.Parent<0 then
    if¬t1≤x1.Parent then
     (idx t0.Rules x1.Parent).bind fun x23=>
     some (x23.Def !=x1.Def)
    else
    some true
   else
   some true
  else
  some false) fun j24=>
 if j24=true then
  some 9
 else
 qn (α:=Bool) (
  if¬x1.Priority<0 then
   some (decide (9<x1.Priority))
  else
  some true) fun j27=>
 if j27=true then
  some 3
 else
 qn (α:=Bool) (
  if¬x1.Valid.From<0 then
   if¬x1.Valid.To≤x1.Valid.From then
    some (decide (109573<x1.Valid.To))
   else
   some true
  else
  some true) fun j31=>
 if j31=true then
  some 3
 else
 if 8≤b11 then
  some 4
 else
 (law_validSource x1.Source).bind fun x34=>
 if x34=false then
  some 2
 else
 qn (α:=(Unit⊕Int)) (
  if 0<(x1.Guard.length:Int)then
   (law_checkType x1.Guard t2 (GType.mk 1 0)).bind fun x37=>
   if¬x37=0 then
    some (Sum.inr x37)
   else
   some (Sum.inl ())
  else
  some (Sum.inl ())) fun z=>match z with
 |.inr v=>some v
 |.inl _=>
 (idx t0.Defs x1.Def).bind fun x39=>
 (law_checkType x1.Value t2 x39.Type_).bind fun x40=>
 some x40
def slices_Index_int_int_L1(t0:List Int) (t1:Int):Int→Option (Ex Int Unit Int):=fun s1=>
 if s1<(t0.length:Int)then
  (idx t0 s1).bind fun x3=>
  if t1=x3 then
   some (Ex.ret s1)
  else
  some (Ex.go (wrapF .i64 (s1+1)))
 else
 some (Ex.brk ())
def slices_Index_int_int(t0:List Int) (t1:Int):Option Int:=
 (loopO (slices_Index_int_int_L1 t0 t1) 0).bind fun y=>match y with
 |.inr v=>some v
 |.inl _=>
 some (-1)
def slices_Contains_int_int(t0:List Int) (t1:Int):Option Bool:=
 (slices_Index_int_int t0 t1).bind fun x1=>
 some (decide (0≤x1))
def law_checkScope_L7(t0:GLaw) (x1:GScope):Int→Option (Ex Int Unit (Int×Int)):=fun s20=>
 if s20<(x1.Inputs.length:Int)then
  (idx x1.Inputs s20).bind fun x22=>
  (subh x1.Inputs s20).bind fun x23=>
  (law_checkField t0 x22 x23 ([])).bind fun x24=>
  if¬x24=0 then
   some (Ex.ret (x24,(wrapF .i64 (100+s20))))
  else
  some (Ex.go (wrapF .i64 (s20+1)))
 else
 some (Ex.brk ())
def law_checkScope_L6(t0:GLaw) (x1:GScope):Int→Option (Ex Int Unit (Int×Int)):=fun s27=>
 if s27<(x1.Defs.length:Int)then
  (idx x1.Defs s27).bind fun x29=>
  (subh x1.Defs s27).bind fun x30=>
  (law_checkField t0 x29 x1.Inputs x30).bind fun x31=>
  if¬x31=0 then
   some (Ex.ret (x31,(wrapF .i64 (200+s27))))
  else
  some (Ex.go (wrapF .i64 (s27+1)))
 else
 some (Ex.brk ())
def law_checkScope_L5(x1:GScope) (x34:GSignature):Int→Option (Ex Int Unit (Int×Int)):=fun s35=>
 if s35<(x1.Rules.length:Int)then
  (law_checkRule x1 s35 x34).bind fun x37=>
  if¬x37=0 then
   some (Ex.ret (x37,(wrapF .i64 (300+s35))))
  else
  some (Ex.go (wrapF .i64 (s35+1)))
 else
 some (Ex.brk ())
def law_checkScope_L4(x1:GScope):Int→Option (Ex Int Unit (Int×Int)):=fun s40=>
 if s40<(x1.Defs.length:Int)then
  (deps_Transitive x1 s40).bind fun x42=>
  (slices_Contains_int_int x42 s40).bind fun x43=>
  if x43=true then
   some (Ex.ret (9,(wrapF .i64 (200+s40))))
  else
  some (Ex.go (wrapF .i64 (s40+1)))
 else
 some (Ex.brk ())
def law_checkScope(t0:GLaw) (t1:Int):Option (Int×Int):=
 (idx t0.Scopes t1).bind fun x1=>
 (subh t0.Scopes t1).bind fun x2=>
 qn (α:=Bool) (
  (law_hasEnum t0.Enums x1.Name).bind fun x3=>
  if x3=false then
   (law_hasTable t0.Tables x1.Name).bind fun x5=>
   if x5=false then
    (slices_ContainsFunc_api_Scope_api_Scope x2 (fun x900=>law_checkScope_c1 x900 x1)).bind fun x7=>
    some x7
   else
   some true
  else
  some true) fun j8=>
 (lexer_IsIdentifier x1.Name).bind fun x9=>
 if x9=false then
  some (2,0)
 else
 if j8=true then
  some (7,0)
 else
 qn (α:=Bool) (
  if¬x1.MemberScope=(-1)then
   if¬x1.MemberScope<0 then
    if¬t1≤x1.MemberScope then
     (idx x2 x1.MemberScope).bind fun x15=>
     some (x15.MemberScope !=(-1))
    else
    some true
   else
   some true
  else
  some false) fun j16=>
 if j16=true then
  some (6,0)
 else
 if 12<(x1.Inputs.length:Int)then
  some (4,112)
 else
 if 12<(x1.Defs.length:Int)then
  some (4,212)
 else
 (loopO (law_checkScope_L7 t0 x1) 0).bind fun y=>match y with
 |.inr v=>some v
 |.inl _=>
 (loopO (law_checkScope_L6 t0 x1) 0).bind fun y=>match y with
 |.inr v=>some v
 |.inl _=>
 (law_sharedSignature t0 t1).bind fun x34=>
 (loopO (law_checkScope_L5 x1 x34) 0).bind fun y=>match y with
 |.inr v=>some v
 |.inl _=>
 (loopO (law_checkScope_L4 x1) 0).bind fun y=>match y with
 |.inr v=>some v
 |.inl _=>
 some (0,0)
def law_checkScopes_L1(t0:GLaw):Int→Option (Ex Int Unit GLawError):=fun s2=>
 if s2<(t0.Scopes.length:Int)then
  (law_checkScope t0 s2).bind fun x4=>
  if¬x4.1=0 then
   some (Ex.ret (GLawError.mk x4.1 3 s2 x4.2))
  else
  some (Ex.go (wrapF .i64 (s2+1)))
 else
 some (Ex.brk ())
def law_checkScopes(t0:GLaw):Option GLawError:=
 if 4<(t0.Scopes.length:Int)then
  some (GLawError.mk 4 3 4 0)
 else
 (loopO (law_checkScopes_L1 t0) 0).bind fun y=>match y with
 |.inr v=>some v
 |.inl _=>
 some (GLawError.mk 0 0 0 0)
def law_Validate(t0:GLaw):Option GLawError:=
 (law_checkEnums t0).bind fun x1=>
 if¬x1.Code=0 then
  some x1
 else
 (law_checkTables t0).bind fun x3=>
 if¬x3.Code=0 then
  some x3
 else
 (law_checkScopes t0).bind fun x5=>
 some x5
def ref08_lower(t0:Int):Option Bool:=
 qn (α:=Bool) (
  if 97≤t0 then
   some (decide (t0≤122))
  else
  some false) fun j2=>
 some j2
def ref08_digit(t0:Int):Option Bool:=
 qn (α:=Bool) (
  if 48≤t0 then
   some (decide (t0≤57))
  else
  some false) fun j2=>
 some j2
def ref08_word(t0:Int):Option Bool:=
 qn (α:=Bool) (
  (ref08_lower t0).bind fun x1=>
  if x1=false then
   (ref08_digit t0).bind fun x3=>
   if x3=false then
    some (t0==95)
   else
   some true
  else
  some true) fun j5=>
 some j5
def ref08_Reserved  : Option (List ByteArray):=
 some ([(vn #[105,102]),(vn #[116,104,101,110]),(vn #[101,108,115,101]),(vn #[111,114]),(vn #[97,110,100]),(vn #[110,111,116]),(vn #[116,114,117,101]),(vn #[102,97,108,115,101]),(vn #[116,111,100,97,121]),(vn #[115,104,97,114,101]),(vn #[100,105,118]),(vn #[114,111,117,110,100]),(vn #[109,105,110]),(vn #[109,97,120]),(vn #[112,108,117,115]),(vn #[109,111,110,116,104,115]),(vn #[100,97,121,115]),(vn #[121,101,97,114,115]),(vn #[121,101,97,114]),(vn #[109,111,110,116,104]),(vn #[116,97,98]),(vn #[98,97,110,100]),(vn #[99,111,117,110,116]),(vn #[115,117,109]),(vn #[97,108,108]),(vn #[97,110,121]),(vn #[109,111,115,116]),(vn #[101,110,117,109]),(vn #[116,97,98,108,101]),(vn #[114,111,119]),(vn #[115,99,111,112,101]),(vn #[109,101,109,98,101,114,115]),(vn #[105,110,112,117,116]),(vn #[100,101,102]),(vn #[114,117,108,101]),(vn #[111,102]),(vn #[111,118,101,114]),(vn #[112,114,105,111]),(vn #[102,114,111,109]),(vn #[116,111]),(vn #[101,110,100]),(vn #[119,104,101,110]),(vn #[105,115]),(vn #[115,114,99]),(vn #[98,111,111,108]),(vn #[105,110,116]),(vn #[109,111,110,101,121]),(vn #[114,97,116,101]),(vn #[100,97,116,101]),(vn #[100,111,119,110]),(vn #[117,112]),(vn #[122,101,114,111]),(vn #[97,119,97,121]),(vn #[104,97,108,102]),(vn #[101,118,101,110])])
def ref08_IsIdentifier_L3(t0:ByteArray):Int→Option (Ex Int Unit Bool):=fun s7=>
 if s7<(t0.size:Int)then
  (sidx t0 s7).bind fun x9=>
  (ref08_word x9).bind fun x10=>
  if x10=false then
   some (Ex.ret false)
  else
  some (Ex.go (wrapF .i64 (s7+1)))
 else
 some (Ex.brk ())
def ref08_IsIdentifier_L2(t0:ByteArray) (x13:List ByteArray):Int→Option (Ex Int Unit Bool):=fun s14=>
 if s14<(x13.length:Int)then
  (idx x13 s14).bind fun x16=>
  if x16=t0 then
   some (Ex.ret false)
  else
  some (Ex.go (wrapF .i64 (s14+1)))
 else
 some (Ex.brk ())
def ref08_IsIdentifier(t0:ByteArray):Option Bool:=
 qn (α:=Bool) (
  if¬(t0.size:Int)=0 then
   if¬16<(t0.size:Int)then
    (sidx t0 0).bind fun x3=>
    (ref08_lower x3).bind fun x4=>
    some (!x4)
   else
   some true
  else
  some true) fun j5=>
 if j5=true then
  some false
 else
 (loopO (ref08_IsIdentifier_L3 t0) 0).bind fun y=>match y with
 |.inr v=>some v
 |.inl _=>
 (ref08_Reserved).bind fun x13=>
 (loopO (ref08_IsIdentifier_L2 t0 x13) 0).bind fun y=>match y with
 |.inr v=>some v
 |.inl _=>
 some true
def ref17_nameTaken_L5(t0:GLaw) (t1:Int) (t2:Int) (t3:ByteArray):Int→Option (Ex Int Unit Bool):=fun s1=>
 if s1<(t0.Enums.length:Int)then
  qn (α:=Bool) (
   if¬1<t1 then
    if s1<t2 then
     (idx t0.Enums s1).bind fun x5=>
     some (decide (x5.Name=t3))
    else
    some false
   else
   (idx t0.Enums s1).bind fun x6=>
   some (decide (x6.Name=t3))) fun j7=>
  if j7=true then
   some (Ex.ret true)
  else
  some (Ex.go (wrapF .i64 (s1+1)))
 else
 some (Ex.brk ())
def ref17_nameTaken_L4(t0:GLaw) (t1:Int) (t2:Int) (t3:ByteArray):Int→Option (Ex Int Unit Bool):=fun s10=>
 if s10<(t0.Tables.length:Int)then
  qn (α:=Bool) (
   if¬2<t1 then
    if t1=2 then
     if s10<t2 then
      (idx t0.Tables s10).bind fun x15=>
      some (decide (x15.Name=t3))
     else
     some false
    else
    some false
   else
   (idx t0.Tables s10).bind fun x16=>
   some (decide (x16.Name=t3))) fun j17=>
  if j17=true then
   some (Ex.ret true)
  else
  some (Ex.go (wrapF .i64 (s10+1)))
 else
 some (Ex.brk ())
def ref17_nameTaken_L3(t0:GLaw) (t1:Int) (t2:Int) (t3:ByteArray):Int→Option (Ex Int Unit Bool):=fun s20=>
 if s20<(t0.Scopes.length:Int)then
  qn (α:=Bool) (
   if t1=3 then
    if s20<t2 then
     (idx t0.Scopes s20).bind fun x24=>
     some (decide (x24.Name=t3))
    else
    some false
   else
   some false) fun j25=>
  if j25=true then
   some (Ex.ret true)
  else
  some (Ex.go (wrapF .i64 (s20+1)))
 else
 some (Ex.brk ())
def ref17_nameTaken(t0:GLaw) (t1:Int) (t2:Int) (t3:ByteArray):Option Bool:=
 (loopO (ref17_nameTaken_L5 t0 t1 t2 t3) 0).bind fun y=>match y with
 |.inr v=>some v
 |.inl _=>
 (loopO (ref17_nameTaken_L4 t0 t1 t2 t3) 0).bind fun y=>match y with
 |.inr v=>some v
 |.inl _=>
 (loopO (ref17_nameTaken_L3 t0 t1 t2 t3) 0).bind fun y=>match y with
 |.inr v=>some v
 |.inl _=>
 some false
def ref17_enumError_L8(t1:Int) (x1:GEnum) (s9:Int) (x11:ByteArray):Int→Option (Ex Int Unit (Ex (Int×Int) Unit GLawError)):=fun s14=>
 if s14<s9 then
  (idx x1.Members s14).bind fun x16=>
  if x16=x11 then
   some (Ex.ret (Ex.ret (GLawError.mk 7 1 t1 (wrapF .i64 (100+s9)))))
  else
  some (Ex.go (wrapF .i64 (s14+1)))
 else
 some (Ex.brk ())
def ref17_enumError_L9(t1:Int) (x1:GEnum):(Int×Int)→Option (Ex (Int×Int) Unit GLawError):=fun(s8,s9)=>
 if s9<(x1.Members.length:Int)then
  (idx x1.Members s9).bind fun x11=>
  (ref08_IsIdentifier x11).bind fun x12=>
  if x12=false then
   some (Ex.ret (GLawError.mk 2 1 t1 (wrapF .i64 (100+s9))))
  else
  (loopO (ref17_enumError_L8 t1 x1 s9 x11) 0).bind fun y=>match y with
  |.inr v=>some v
  |.inl _=>
  some (Ex.go ((wrapF .i64 (100+s9)),(wrapF .i64 (s9+1))))
 else
 some (Ex.brk ())
def ref17_enumError(t0:GLaw) (t1:Int):Option GLawError:=
 (idx t0.Enums t1).bind fun x1=>
 (ref08_IsIdentifier x1.Name).bind fun x2=>
 if x2=false then
  some (GLawError.mk 2 1 t1 0)
 else
 (ref17_nameTaken t0 1 t1 x1.Name).bind fun x4=>
 if x4=true then
  some (GLawError.mk 7 1 t1 0)
 else
 if(x1.Members.length:Int)=0 then
  some (GLawError.mk 5 1 t1 0)
 else
 if 16<(x1.Members.length:Int)then
  some (GLawError.mk 4 1 t1 116)
 else
 (loopO (ref17_enumError_L9 t1 x1) (0,0)).bind fun y=>match y with
 |.inr v=>some v
 |.inl _=>
 some (GLawError.mk 0 0 0 0)
def ref09_ValidType(t0:GType) (t1:List GEnum):Option Bool:=
 if t0.Kind=6 then
  qn (α:=Bool) (
   if 0≤t0.Enum then
    some (decide (t0.Enum<(t1.length:Int)))
   else
   some false) fun j3=>
  some j3
 else
 qn (α:=Bool) (
  if 1≤t0.Kind then
   if t0.Kind≤5 then
    some (t0.Enum==0)
   else
   some false
  else
  some false) fun j6=>
 some j6
def ref05_Valid(t0:GDateRange):Option Bool:=
 qn (α:=Bool) (
  if 0≤t0.From then
   if t0.From≤t0.To then
    some (decide (t0.To≤109573))
   else
   some false
  else
  some false) fun j3=>
 some j3
def ref09_Bounds(t0:GType) (t1:List GEnum):Option (Int×Int):=
 (ref09_ValidType t0 t1).bind fun x1=>
 if x1=false then
  some (0,(-1))
 else
 if t0.Kind=1 then
  some (0,1)
 else
 if t0.Kind=2 then
  some ((-1000000000000),1000000000000)
 else
 if t0.Kind=3 then
  some ((-1000000000000000),1000000000000000)
 else
 if t0.Kind=4 then
  some ((-1000000000),1000000000)
 else
 if t0.Kind=5 then
  some (0,109572)
 else
 (idx t1 t0.Enum).bind fun x8=>
 some (0,(wrapF .i64 ((x8.Members.length:Int)-1)))
def ref09_In(t0:Int) (t1:GType) (t2:List GEnum):Option Bool:=
 (ref09_Bounds t1 t2).bind fun x1=>
 qn (α:=Bool) (
  if x1.1≤t0 then
   some (decide (t0≤x1.2))
  else
  some false) fun j3=>
 some j3
def ref12_wrong(t0:GRow) (t1:GTable) (t2:List GEnum):Option Bool:=
 qn (α:=Bool) (
  (ref05_Valid t0.Valid).bind fun x1=>
  if x1=true then
   if¬t0.Valid.From=t0.Valid.To then
    some (decide (t0.Hi≤t0.Lo))
   else
   some true
  else
  some true) fun j4=>
 if j4=true then
  some true
 else
 qn (α:=Bool) (
  (ref09_In t0.Lo t1.Key t2).bind fun x6=>
  if x6=true then
   (ref09_In (wrapF .i64 (t0.Hi-1)) t1.Key t2).bind fun x8=>
   if x8=true then
    (ref09_In t0.N t1.Value t2).bind fun x10=>
    some (!x10)
   else
   some true
  else
  some true) fun j11=>
 some j11
def ref05_Intersect(t0:GDateRange) (t1:GDateRange):Option (GDateRange×Bool):=
 qn (α:=Bool) (
  (ref05_Valid t0).bind fun x1=>
  if x1=true then
   (ref05_Valid t1).bind fun x3=>
   some (!x3)
  else
  some true) fun j4=>
 if j4=true then
  some ((GDateRange.mk 0 0),false)
 else
 if(min t0.To t1.To)≤(max t0.From t1.From)then
  some ((GDateRange.mk 0 0),false)
 else
 some ((GDateRange.mk (max t0.From t1.From) (min t0.To t1.To)),true)
def ref12_conflict(t0:GRow) (t1:GRow):Option Bool:=
 (ref05_Intersect t0.Valid t1.Valid).bind fun x1=>
 qn (α:=Bool) (
  if x1.2=true then
   some (decide ((max t0.Lo t1.Lo)<(min t0.Hi t1.Hi)))
  else
  some false) fun j3=>
 some j3
def ref12_Validate_L8(t0:GTable) (s7:Int) (x9:GRow):Int→Option (Ex Int Unit (Ex Int Unit (Int×Int))):=fun s12=>
 if s12<s7 then
  (idx t0.Rows s12).bind fun x14=>
  (ref12_conflict x14 x9).bind fun x15=>
  if x15=true then
   some (Ex.ret (Ex.ret (s7,11)))
  else
  some (Ex.go (wrapF .i64 (s12+1)))
 else
 some (Ex.brk ())
def ref12_Validate_L9(t0:GTable) (t1:List GEnum):Int→Option (Ex Int Unit (Int×Int)):=fun s7=>
 if s7<(t0.Rows.length:Int)then
  (idx t0.Rows s7).bind fun x9=>
  (ref12_wrong x9 t0 t1).bind fun x10=>
  if x10=true then
   some (Ex.ret (s7,3))
  else
  (loopO (ref12_Validate_L8 t0 s7 x9) 0).bind fun y=>match y with
  |.inr v=>some v
  |.inl _=>
  some (Ex.go (wrapF .i64 (s7+1)))
 else
 some (Ex.brk ())
def ref12_Validate(t0:GTable) (t1:List GEnum):Option (Int×Int):=
 if 64<(t0.Rows.length:Int)then
  some (64,4)
 else
 qn (α:=Bool) (
  (ref09_ValidType t0.Key t1).bind fun x2=>
  if x2=true then
   (ref09_ValidType t0.Value t1).bind fun x4=>
   some (!x4)
  else
  some true) fun j5=>
 if j5=true then
  some ((-1),8)
 else
 (loopO (ref12_Validate_L9 t0 t1) 0).bind fun y=>match y with
 |.inr v=>some v
 |.inl _=>
 some (0,0)
def ref17_tableError(t0:GLaw) (t1:Int):Option GLawError:=
 (idx t0.Tables t1).bind fun x1=>
 (ref08_IsIdentifier x1.Name).bind fun x2=>
 if x2=false then
  some (GLawError.mk 2 2 t1 0)
 else
 (ref17_nameTaken t0 2 t1 x1.Name).bind fun x4=>
 if x4=true then
  some (GLawError.mk 7 2 t1 0)
 else
 (ref12_Validate x1 t0.Enums).bind fun x6=>
 if x6.2=0 then
  some (GLawError.mk 0 0 0 0)
 else
 qn (α:=Int) (
  if 0≤x6.1 then
   some (wrapF .i64 (100+x6.1))
  else
  some 0) fun j9=>
 some (GLawError.mk x6.2 2 t1 j9)
def ref17_hasField_L1(t0:List GField) (t1:Int) (t2:ByteArray):Int→Option (Ex Int Unit Bool):=fun s1=>
 qn (α:=Bool) (
  if s1<t1 then
   some (decide (s1<(t0.length:Int)))
  else
  some false) fun j3=>
 if j3=true then
  (idx t0 s1).bind fun x5=>
  if x5.Name=t2 then
   some (Ex.ret true)
  else
  some (Ex.go (wrapF .i64 (s1+1)))
 else
 some (Ex.brk ())
def ref17_hasField(t0:List GField) (t1:Int) (t2:ByteArray):Option Bool:=
 (loopO (ref17_hasField_L1 t0 t1 t2) 0).bind fun y=>match y with
 |.inr v=>some v
 |.inl _=>
 some false
def ref17_fieldError_L3(t0:GLaw) (t1:Int) (x1:GScope):Int→Option (Ex Int Unit GLawError):=fun s2=>
 if s2<(x1.Inputs.length:Int)then
  qn (α:=Int) (
   (idx x1.Inputs s2).bind fun x4=>
   (ref08_IsIdentifier x4.Name).bind fun x5=>
   if x5=false then
    some 2
   else
   (ref17_hasField x1.Inputs s2 x4.Name).bind fun x7=>
   if x7=true then
    some 7
   else
   (ref09_ValidType x4.Type_ t0.Enums).bind fun x9=>
   if x9=false then
    some 8
   else
   some 0) fun j11=>
  if¬j11=0 then
   some (Ex.ret (GLawError.mk j11 3 t1 (wrapF .i64 (100+s2))))
  else
  some (Ex.go (wrapF .i64 (s2+1)))
 else
 some (Ex.brk ())
def ref17_fieldError_L2(t0:GLaw) (t1:Int) (x1:GScope):Int→Option (Ex Int Unit GLawError):=fun s14=>
 if s14<(x1.Defs.length:Int)then
  qn (α:=Int) (
   (idx x1.Defs s14).bind fun x16=>
   (ref08_IsIdentifier x16.Name).bind fun x17=>
   if x17=false then
    some 2
   else
   qn (α:=Bool) (
    (ref17_hasField x1.Inputs (x1.Inputs.length:Int) x16.Name).bind fun x19=>
    if x19=false then
     (ref17_hasField x1.Defs s14 x16.Name).bind fun x21=>
     some x21
    else
    some true) fun j22=>
   if j22=true then
    some 7
   else
   (ref09_ValidType x16.Type_ t0.Enums).bind fun x24=>
   if x24=false then
    some 8
   else
   some 0) fun j26=>
  if¬j26=0 then
   some (Ex.ret (GLawError.mk j26 3 t1 (wrapF .i64 (200+s14))))
  else
  some (Ex.go (wrapF .i64 (s14+1)))
 else
 some (Ex.brk ())
def ref17_fieldError(t0:GLaw) (t1:Int):Option GLawError:=
 (idx t0.Scopes t1).bind fun x1=>
 (loopO (ref17_fieldError_L3 t0 t1 x1) 0).bind fun y=>match y with
 |.inr v=>some v
 |.inl _=>
 (loopO (ref17_fieldError_L2 t0 t1 x1) 0).bind fun y=>match y with
 |.inr v=>some v
 |.inl _=>
 some (GLawError.mk 0 0 0 0)
def ref17_fieldTypes_L1(t0:List GField):((List GType)×Int)→Option (Ex ((List GType)×Int) (List GType) Unit):=fun(s1,s2)=>
 if s2<(t0.length:Int)then
  (idx t0 s2).bind fun x4=>
  (app 16 s1 ([x4.Type_])).bind fun x5=>
  some (Ex.go (x5,(wrapF .i64 (s2+1))))
 else
 some (Ex.brk s1)
def ref17_fieldTypes(t0:List GField):Option (List GType):=
 (loopO (ref17_fieldTypes_L1 t0) (([]:List GType),0)).bind fun y=>match y with
 |.inr _=>none
 |.inl b8=>
 some b8
def ref17_Signature(t0:GLaw) (t1:Int):Option GSignature:=
 qn (α:=Bool) (
  if¬t1<0 then
   some (decide ((t0.Scopes.length:Int)≤t1))
  else
  some true) fun j2=>
 if j2=true then
  some (GSignature.mk ([]) ([]) ([]) ([]) ([]) false)
 else
 (idx t0.Scopes t1).bind fun x4=>
 (ref17_fieldTypes x4.Inputs).bind fun x5=>
 (ref17_fieldTypes x4.Defs).bind fun x6=>
 qn (α:=((List GType)×Bool)) (
  qn (α:=Bool) (
   if 0≤x4.MemberScope then
    some (decide (x4.MemberScope<(t0.Scopes.length:Int)))
   else
   some false) fun j8=>
  if j8=true then
   (idx t0.Scopes x4.MemberScope).bind fun x10=>
   (ref17_fieldTypes x10.Defs).bind fun x11=>
   some (x11,true)
  else
  some (([]:List GType),false)) fun(j12,j13)=>
 some (GSignature.mk t0.Enums t0.Tables x5 x6 j12 j13)
def ref17_plainText_L1(t0:ByteArray):Int→Option (Ex Int Unit Bool):=fun s1=>
 if s1<(t0.size:Int)then
  qn (α:=Bool) (
   (sidx t0 s1).bind fun x3=>
   if¬x3<32 then
    if¬126<x3 then
     some (x3==34)
    else
    some true
   else
   some true) fun j6=>
  if j6=true then
   some (Ex.ret false)
  else
  some (Ex.go (wrapF .i64 (s1+1)))
 else
 some (Ex.brk ())
def ref17_plainText(t0:ByteArray):Option Bool:=
 (loopO (ref17_plainText_L1 t0) 0).bind fun y=>match y with
 |.inr v=>some v
 |.inl _=>
 some (decide ((t0.size:Int)≤64))
def ref10_Arity(t0:Int):Option Int:=
 qn (α:=Bool) (
  if 1≤t0 then
   if¬t0≤9 then
    if 35≤t0 then
     some (decide (t0≤39))
    else
    some false
   else
   some true
  else
  if 35≤t0 then
   some (decide (t0≤39))
  else
  some false) fun j5=>
 if j5=true then
  some 0
 else
 qn (α:=Bool) (
  if t0=10 then
   some true
  else
  if t0=25 then
   some true
  else
  if t0=31 then
   some true
  else
  if t0=32 then
   some true
  else
  if t0=33 then
   some true
  else
  some (t0==34)) fun j12=>
 if j12=true then
  some 1
 else
 if t0=26 then
  some 3
 else
 qn (α:=Bool) (
  if 11≤t0 then
   some (decide (t0≤30))
  else
  some false) fun j16=>
 if j16=true then
  some 2
 else
 some (-1)
def ref10_structure_L1(t0:List GNode):((List Int)×(List Int)×Int)→Option (Ex ((List Int)×(List Int)×Int) ((List Int)×(List Int)) ((List Int)×Int×Int)):=fun(s3,s4,s5)=>
 if s5<(t0.length:Int)then
  (idx t0 s5).bind fun x7=>
  (ref10_Arity x7.Op).bind fun x8=>
  if x8<0 then
   some (Ex.ret ([],s5,2))
  else
  if(s4.length:Int)<x8 then
   some (Ex.ret ([],s5,5))
  else
  qn (α:=((List Int)×Int)) (
   if 0<x8 then
    (idx s4 (wrapF .i64 ((s4.length:Int)-x8))).bind fun x12=>
    (subh s4 (wrapF .i64 ((s4.length:Int)-x8))).bind fun x13=>
    some (x13,x12)
   else
   some (s4,s5)) fun(j14,j15)=>
  (app 8 j14 ([j15])).bind fun x16=>
  (app 8 s3 ([j15])).bind fun x17=>
  if 12<(x16.length:Int)then
   some (Ex.ret ([],s5,16))
  else
  some (Ex.go (x17,x16,(wrapF .i64 (s5+1))))
 else
 some (Ex.brk (s3,s4))
def ref10_structure(t0:List GNode):Option ((List Int)×Int×Int):=
 if 48<(t0.length:Int)then
  some ([],0,4)
 else
 if(t0.length:Int)=0 then
  some ([],0,5)
 else
 (loopO (ref10_structure_L1 t0) (([]:List Int),([]:List Int),0)).bind fun y=>match y with
 |.inr v=>some v
 |.inl (b22,b23)=>
 if 1<(b23.length:Int)then
  some ([],(t0.length:Int),4)
 else
 some (b22,0,0)
def ref10_meaning(t0:Int):Option Bool:=
 qn (α:=Bool) (
  if 1≤t0 then
   if¬t0≤8 then
    if 36≤t0 then
     some (decide (t0≤39))
    else
    some false
   else
   some true
  else
  if 36≤t0 then
   some (decide (t0≤39))
  else
  some false) fun j5=>
 if j5=true then
  some true
 else
 qn (α:=Bool) (
  if¬t0=14 then
   if¬t0=15 then
    if¬t0=16 then
     if¬t0=33 then
      some (t0==34)
     else
     some true
    else
    some true
   else
   some true
  else
  some true) fun j11=>
 some j11
def ref10_kind(t0:Int):Option GType:=
 some (GType.mk t0 0)
def ref10_ranged(t0:GNode) (t1:GSignature):Option Bool:=
 qn (α:=Bool) (
  if t0.Op=1 then
   some true
  else
  if t0.Op=2 then
   some true
  else
  if t0.Op=3 then
   some true
  else
  if t0.Op=4 then
   some true
  else
  some (t0.Op==5)) fun j5=>
 if j5=true then
  (ref10_kind t0.Op).bind fun x7=>
  (ref09_Bounds x7 t1.Enums).bind fun x8=>
  qn (α:=Bool) (
   if x8.1≤t0.N then
    some (decide (t0.N≤x8.2))
   else
   some false) fun j10=>
  some j10
 else
 qn (α:=Bool) (
  if t0.Op=14 then
   some true
  else
  if t0.Op=15 then
   some true
  else
  some (t0.Op==16)) fun j13=>
 if j13=true then
  qn (α:=Bool) (
   if 0≤t0.N then
    some (decide (t0.N≤5))
   else
   some false) fun j16=>
  some j16
 else
 if t0.Op=34 then
  qn (α:=Bool) (
   if 0≤t0.N then
    some (decide ((Pq t0.N 8)≤5))
   else
   some false) fun j19=>
  some j19
 else
 if t0.Op=6 then
  some (decide (0≤t0.N))
 else
 some true
def ref10_found(t0:GNode) (t1:GSignature):Option Bool:=
 if t0.Op=6 then
  qn (α:=Bool) (
   if(wrapF .i64 (Po t0.N 16))<(t1.Enums.length:Int)then
    (idx t1.Enums (wrapF .i64 (Po t0.N 16))).bind fun x3=>
    some (decide ((Pq t0.N 16)<(x3.Members.length:Int)))
   else
   some false) fun j4=>
  some j4
 else
 if t0.Op=7 then
  qn (α:=Bool) (
   if 0≤t0.N then
    some (decide (t0.N<(t1.Inputs.length:Int)))
   else
   some false) fun j7=>
  some j7
 else
 if t0.Op=8 then
  qn (α:=Bool) (
   if 0≤t0.N then
    some (decide (t0.N<(t1.Defs.length:Int)))
   else
   some false) fun j10=>
  some j10
 else
 if t0.Op=33 then
  qn (α:=Bool) (
   if 0≤t0.N then
    some (decide (t0.N<(t1.Tables.length:Int)))
   else
   some false) fun j13=>
  some j13
 else
 if t0.Op=34 then
  some (decide ((wrapF .i64 (Po t0.N 8))<(t1.Tables.length:Int)))
 else
 if t0.Op=35 then
  some t1.HasMembers
 else
 qn (α:=Bool) (
  if t0.Op=36 then
   some true
  else
  if t0.Op=37 then
   some true
  else
  if t0.Op=38 then
   some true
  else
  some (t0.Op==39)) fun j19=>
 if j19=true then
  qn (α:=Bool) (
   if t1.HasMembers=true then
    if 0≤t0.N then
     some (decide (t0.N<(t1.MemberDefs.length:Int)))
    else
    some false
   else
   some false) fun j23=>
  some j23
 else
 some true
def ref10_number(t0:Int):Option Bool:=
 qn (α:=Bool) (
  if¬t0=2 then
   if¬t0=3 then
    some (t0==4)
   else
   some true
  else
  some true) fun j3=>
 some j3
def ref10_ordered(t0:Int):Option Bool:=
 qn (α:=Bool) (
  (ref10_number t0).bind fun x1=>
  if x1=false then
   some (t0==5)
  else
  some true) fun j3=>
 some j3
def ref10_leaf(t0:GNode) (t1:GSignature):Option (GType×Bool):=
 qn (α:=(Int×Int)) (
  if t0.Op=6 then
   some (6,(wrapF .i64 (Po t0.N 16)))
  else
  if t0.Op=7 then
   (idx t1.Inputs t0.N).bind fun x3=>
   some (x3.Kind,x3.Enum)
  else
  if t0.Op=8 then
   (idx t1.Defs t0.N).bind fun x5=>
   some (x5.Kind,x5.Enum)
  else
  if t0.Op=9 then
   (ref10_kind 5).bind fun x7=>
   some (x7.Kind,x7.Enum)
  else
  if t0.Op=35 then
   (ref10_kind 2).bind fun x9=>
   some (x9.Kind,x9.Enum)
  else
  qn (α:=Bool) (
   if t0.Op=36 then
    some true
   else
   if t0.Op=37 then
    some true
   else
   if t0.Op=38 then
    some true
   else
   some (t0.Op==39)) fun j13=>
  if j13=true then
   (idx t1.MemberDefs t0.N).bind fun x15=>
   some (x15.Kind,x15.Enum)
  else
  (ref10_kind t0.Op).bind fun x16=>
  some (x16.Kind,x16.Enum)) fun(j17,j18)=>
 (ref09_ValidType (GType.mk j17 j18) t1.Enums).bind fun x19=>
 qn (α:=Bool) (
  if t0.Op=36 then
   if x19=true then
    if¬j17=2 then
     some (j17==3)
    else
    some true
   else
   some false
  else
  qn (α:=Bool) (
   if t0.Op=37 then
    some true
   else
   some (t0.Op==38)) fun j24=>
  if j24=true then
   if x19=true then
    some (j17==1)
   else
   some false
  else
  if t0.Op=39 then
   if x19=true then
    (ref10_ordered j17).bind fun x29=>
    some x29
   else
   some false
  else
  some x19) fun j30=>
 some ((GType.mk j17 j18),j30)
def ref10_single(t0:GNode) (t1:GType) (t2:GSignature):Option (GType×Bool):=
 if t0.Op=10 then
  (ref10_number t1.Kind).bind fun x2=>
  some (t1,x2)
 else
 if t0.Op=25 then
  some (t1,(t1.Kind==1))
 else
 qn (α:=Bool) (
  if t0.Op=31 then
   some true
  else
  some (t0.Op==32)) fun j5=>
 if j5=true then
  (ref10_kind 2).bind fun x7=>
  some (x7,(t1.Kind==5))
 else
 if t0.Op=33 then
  (idx t2.Tables t0.N).bind fun x9=>
  qn (α:=Bool) (
   (ref09_ValidType x9.Key t2.Enums).bind fun x10=>
   if x10=true then
    (ref09_ValidType x9.Value t2.Enums).bind fun x12=>
    if x12=true then
     some ((t1.Kind==x9.Key.Kind)&&(t1.Enum==x9.Key.Enum))
    else
    some false
   else
   some false) fun j14=>
  some (x9.Value,j14)
 else
 (idx t2.Tables (wrapF .i64 (Po t0.N 8))).bind fun x15=>
 qn (α:=Bool) (
  if t1.Kind=3 then
   (ref10_kind 3).bind fun x17=>
   if x15.Key.Kind=x17.Kind∧x15.Key.Enum=x17.Enum then
    (ref10_kind 4).bind fun x19=>
    some ((x15.Value.Kind==x19.Kind)&&(x15.Value.Enum==x19.Enum))
   else
   some false
  else
  some false) fun j20=>
 some (t1,j20)
def ref10_scaled(t0:Int) (t1:Int) (t2:Int):Option (GType×Bool):=
 if t0=13 then
  qn (α:=(Int×Int×Bool)) (
   (ref10_kind t1).bind fun x2=>
   if t2=2 then
    if¬t1=2 then
     some (x2.Kind,x2.Enum,(t1==3))
    else
    some (x2.Kind,x2.Enum,true)
   else
   some (x2.Kind,x2.Enum,false)) fun(j5,j6,j7)=>
  some ((GType.mk j5 j6),j7)
 else
 if t0=14 then
  qn (α:=(Int×Int×Bool)) (
   (ref10_kind t1).bind fun x9=>
   if t2=4 then
    if¬t1=3 then
     some (x9.Kind,x9.Enum,(t1==4))
    else
    some (x9.Kind,x9.Enum,true)
   else
   some (x9.Kind,x9.Enum,false)) fun(j12,j13,j14)=>
  some ((GType.mk j12 j13),j14)
 else
 qn (α:=Bool) (
  if t1=3 then
   some (t2==3)
  else
  some false) fun j16=>
 if j16=true then
  (ref10_kind 4).bind fun x18=>
  some (x18,true)
 else
 qn (α:=(Int×Int×Bool)) (
  (ref10_kind t1).bind fun x19=>
  if t2=2 then
   if¬t1=2 then
    some (x19.Kind,x19.Enum,(t1==3))
   else
   some (x19.Kind,x19.Enum,true)
  else
  some (x19.Kind,x19.Enum,false)) fun(j22,j23,j24)=>
 some ((GType.mk j22 j23),j24)
def ref10_double(t0:Int) (t1:GType) (t2:GType):Option (GType×Bool):=
 qn (α:=Bool) (
  if t0=11 then
   some true
  else
  some (t0==12)) fun j2=>
 if j2=true then
  qn (α:=Bool) (
   if t1.Kind=t2.Kind∧t1.Enum=t2.Enum then
    (ref10_number t1.Kind).bind fun x5=>
    some x5
   else
   some false) fun j6=>
  some (t1,j6)
 else
 qn (α:=Bool) (
  if t0=13 then
   some true
  else
  if t0=14 then
   some true
  else
  some (t0==15)) fun j9=>
 if j9=true then
  (ref10_scaled t0 t1.Kind t2.Kind).bind fun x11=>
  some (x11.1,x11.2)
 else
 if t0=16 then
  qn (α:=Bool) (
   if t1.Kind=3 then
    some (t2.Kind==3)
   else
   some false) fun j14=>
  some (t1,j14)
 else
 qn (α:=Bool) (
  if t0=17 then
   some true
  else
  some (t0==18)) fun j16=>
 if j16=true then
  qn (α:=Bool) (
   if t1.Kind=t2.Kind∧t1.Enum=t2.Enum then
    (ref10_ordered t1.Kind).bind fun x19=>
    some x19
   else
   some false) fun j20=>
  some (t1,j20)
 else
 qn (α:=Bool) (
  if t0=19 then
   some true
  else
  some (t0==20)) fun j22=>
 if j22=true then
  (ref10_kind 1).bind fun x24=>
  some (x24,((t1.Kind==t2.Kind)&&(t1.Enum==t2.Enum)))
 else
 qn (α:=Bool) (
  if t0=21 then
   some true
  else
  some (t0==22)) fun j26=>
 if j26=true then
  qn (α:=(Int×Int×Bool)) (
   (ref10_kind 1).bind fun x28=>
   if t1.Kind=t2.Kind∧t1.Enum=t2.Enum then
    (ref10_ordered t1.Kind).bind fun x30=>
    some (x28.Kind,x28.Enum,x30)
   else
   some (x28.Kind,x28.Enum,false)) fun(j31,j32,j33)=>
  some ((GType.mk j31 j32),j33)
 else
 qn (α:=Bool) (
  if t0=23 then
   some true
  else
  some (t0==24)) fun j35=>
 if j35=true then
  qn (α:=Bool) (
   if t1.Kind=1 then
    some (t2.Kind==1)
   else
   some false) fun j38=>
  some (t1,j38)
 else
 qn (α:=Bool) (
  if t0=27 then
   some true
  else
  some (t0==28)) fun j40=>
 if j40=true then
  qn (α:=Bool) (
   if t1.Kind=5 then
    some (t2.Kind==2)
   else
   some false) fun j43=>
  some (t1,j43)
 else
 qn (α:=(Int×Int×Bool)) (
  (ref10_kind 2).bind fun x44=>
  if t1.Kind=5 then
   some (x44.Kind,x44.Enum,(t2.Kind==5))
  else
  some (x44.Kind,x44.Enum,false)) fun(j46,j47,j48)=>
 some ((GType.mk j46 j47),j48)
def ref10_Result(t0:GNode) (t1:List GType) (t2:GSignature):Option (GType×Int):=
 qn (α:=Bool) (
  if¬t0.N=0 then
   (ref10_meaning t0.Op).bind fun x2=>
   some (!x2)
  else
  some false) fun j3=>
 if j3=true then
  some ((GType.mk 0 0),2)
 else
 (ref10_ranged t0 t2).bind fun x5=>
 if x5=false then
  some ((GType.mk 0 0),3)
 else
 (ref10_found t0 t2).bind fun x7=>
 if x7=false then
  some ((GType.mk 0 0),6)
 else
 qn (α:=(Int×Int×Bool)) (
  if(t1.length:Int)=0 then
   (ref10_leaf t0 t2).bind fun x10=>
   some (x10.1.Kind,x10.1.Enum,x10.2)
  else
  if(t1.length:Int)=1 then
   (idx t1 0).bind fun x12=>
   (ref10_single t0 x12 t2).bind fun x13=>
   some (x13.1.Kind,x13.1.Enum,x13.2)
  else
  if(t1.length:Int)=2 then
   (idx t1 0).bind fun x15=>
   (idx t1 1).bind fun x16=>
   (ref10_double t0.Op x15 x16).bind fun x17=>
   some (x17.1.Kind,x17.1.Enum,x17.2)
  else
  (idx t1 1).bind fun x18=>
  (idx t1 0).bind fun x19=>
  if x19.Kind=1 then
   (idx t1 2).bind fun x21=>
   some (x18.Kind,x18.Enum,((x18.Kind==x21.Kind)&&(x18.Enum==x21.Enum)))
  else
  some (x18.Kind,x18.Enum,false)) fun(j22,j23,j24)=>
 if j24=false then
  some ((GType.mk 0 0),8)
 else
 some ((GType.mk j22 j23),0)
def ref10_TypeOf_L1(t0:List GNode) (t1:GSignature):((List GType)×Int)→Option (Ex ((List GType)×Int) (List GType) (GType×Int×Int)):=fun(s3,s4)=>
 if s4<(t0.length:Int)then
  (idx t0 s4).bind fun x6=>
  (ref10_Arity x6.Op).bind fun x7=>
  (subl s3 (wrapF .i64 ((s3.length:Int)-x7))).bind fun x8=>
  (ref10_Result x6 x8 t1).bind fun x9=>
  if¬x9.2=0 then
   some (Ex.ret ((GType.mk 0 0),s4,x9.2))
  else
  (subh s3 (wrapF .i64 ((s3.length:Int)-x7))).bind fun x11=>
  (app 16 x11 ([x9.1])).bind fun x12=>
  some (Ex.go (x12,(wrapF .i64 (s4+1))))
 else
 some (Ex.brk s3)
def ref10_TypeOf(t0:List GNode) (t1:GSignature):Option (GType×Int×Int):=
 (ref10_structure t0).bind fun x1=>
 if¬x1.2.2=0 then
  some ((GType.mk 0 0),x1.2.1,x1.2.2)
 else
 (loopO (ref10_TypeOf_L1 t0 t1) (([]:List GType),0)).bind fun y=>match y with
 |.inr v=>some v
 |.inl b15=>
 (idx b15 0).bind fun x16=>
 some (x16,0,0)
def ref17_exprError(t0:List GNode) (t1:GSignature) (t2:GType):Option Int:=
 (ref10_TypeOf t0 t1).bind fun x1=>
 if¬x1.2.2=0 then
  some x1.2.2
 else
 if¬(x1.1.Kind=t2.Kind∧x1.1.Enum=t2.Enum)then
  some 8
 else
 some 0
def ref17_ruleError_L1(t2:Int) (x1:GScope) (x2:GRule):(Int×Int)→Option (Ex (Int×Int) Int Int):=fun(s5,s6)=>
 if s6<t2 then
  qn (α:=(Int⊕(Ex (Int×Int) Int Int))) (
   (idx x1.Rules s6).bind fun x8=>
   if x8.Name=x2.Name then
    some (Sum.inr (Ex.ret 7))
   else
   if x8.Def=x2.Def then
    some (Sum.inl (wrapF .i64 (s5+1)))
   else
   some (Sum.inl s5)) fun z=>match z with
  |.inr v=>some v
  |.inl j11=>
  some (Ex.go (j11,(wrapF .i64 (s6+1))))
 else
 some (Ex.brk s5)
def ref17_ruleError(t0:GLaw) (t1:Int) (t2:Int):Option Int:=
 (idx t0.Scopes t1).bind fun x1=>
 (idx x1.Rules t2).bind fun x2=>
 (ref08_IsIdentifier x2.Name).bind fun x3=>
 if x3=false then
  some 2
 else
 (loopO (ref17_ruleError_L1 t2 x1 x2) (0,0)).bind fun y=>match y with
 |.inr v=>some v
 |.inl b14=>
 qn (α:=Bool) (
  if¬x2.Def<0 then
   some (decide ((x1.Defs.length:Int)≤x2.Def))
  else
  some true) fun j16=>
 if j16=true then
  some 6
 else
 qn (α:=Bool) (
  if¬x2.Parent=(-1)then
   if¬x2.Parent<0 then
    if¬t2≤x2.Parent then
     (idx x1.Rules x2.Parent).bind fun x21=>
     some (x21.Def !=x2.Def)
    else
    some true
   else
   some true
  else
  some false) fun j22=>
 if j22=true then
  some 9
 else
 qn (α:=Bool) (
  if¬x2.Priority<0 then
   if¬9<x2.Priority then
    (ref05_Valid x2.Valid).bind fun x26=>
    if x26=true then
     some (x2.Valid.From==x2.Valid.To)
    else
    some true
   else
   some true
  else
  some true) fun j28=>
 if j28=true then
  some 3
 else
 if 8≤b14 then
  some 4
 else
 (ref17_plainText x2.Source).bind fun x31=>
 if x31=false then
  some 2
 else
 (ref17_Signature t0 t1).bind fun x33=>
 qn (α:=(Unit⊕Int)) (
  if 0<(x2.Guard.length:Int)then
   (ref17_exprError x2.Guard x33 (GType.mk 1 0)).bind fun x35=>
   if¬x35=0 then
    some (Sum.inr x35)
   else
   some (Sum.inl ())
  else
  some (Sum.inl ())) fun z=>match z with
 |.inr v=>some v
 |.inl _=>
 (idx x1.Defs x2.Def).bind fun x37=>
 (ref17_exprError x2.Value x33 x37.Type_).bind fun x38=>
 some x38
def ref16_insert_L1(t0:List Int) (t1:Int):((List Int)×Bool×Int)→Option (Ex ((List Int)×Bool×Int) ((List Int)×Bool) Unit):=fun(s1,s2,s3)=>
 if s3<(t0.length:Int)then
  qn (α:=((List Int)×Bool)) (
   qn (α:=Bool) (
    if s2=false then
     (idx t0 s3).bind fun x6=>
     some (decide (t1≤x6))
    else
    some false) fun j7=>
   if j7=true then
    qn (α:=(List Int)) (
     (idx t0 s3).bind fun x9=>
     if t1<x9 then
      (app 8 s1 ([t1])).bind fun x11=>
      some x11
     else
     some s1) fun j12=>
    some (j12,true)
   else
   some (s1,s2)) fun(j13,j14)=>
  (idx t0 s3).bind fun x15=>
  (app 8 j13 ([x15])).bind fun x16=>
  some (Ex.go (x16,j14,(wrapF .i64 (s3+1))))
 else
 some (Ex.brk (s1,s2))
def ref16_insert(t0:List Int) (t1:Int):Option (List Int):=
 (loopO (ref16_insert_L1 t0 t1) (([]:List Int),false,0)).bind fun y=>match y with
 |.inr _=>none
 |.inl (b20,b21)=>
 qn (α:=(List Int)) (
  if b21=false then
   (app 8 b20 ([t1])).bind fun x23=>
   some x23
  else
  some b20) fun j24=>
 some j24
def ref16_is(t0:GScope) (t1:Int):Option Bool:=
 qn (α:=Bool) (
  if 0≤t1 then
   some (decide (t1<(t0.Defs.length:Int)))
  else
  some false) fun j2=>
 some j2
def ref10_insert_L1(t0:List Int) (t1:Int):((List Int)×Bool×Int)→Option (Ex ((List Int)×Bool×Int) ((List Int)×Bool) Unit):=fun(s1,s2,s3)=>
 if s3<(t0.length:Int)then
  qn (α:=((List Int)×Bool)) (
   qn (α:=Bool) (
    if s2=false then
     (idx t0 s3).bind fun x6=>
     some (decide (t1≤x6))
    else
    some false) fun j7=>
   if j7=true then
    qn (α:=(List Int)) (
     (idx t0 s3).bind fun x9=>
     if t1<x9 then
      (app 8 s1 ([t1])).bind fun x11=>
      some x11
     else
     some s1) fun j12=>
    some (j12,true)
   else
   some (s1,s2)) fun(j13,j14)=>
  (idx t0 s3).bind fun x15=>
  (app 8 j13 ([x15])).bind fun x16=>
  some (Ex.go (x16,j14,(wrapF .i64 (s3+1))))
 else
 some (Ex.brk (s1,s2))
def ref10_insert(t0:List Int) (t1:Int):Option (List Int):=
 (loopO (ref10_insert_L1 t0 t1) (([]:List Int),false,0)).bind fun y=>match y with
 |.inr _=>none
 |.inl (b20,b21)=>
 qn (α:=(List Int)) (
  if b21=false then
   (app 8 b20 ([t1])).bind fun x23=>
   some x23
  else
  some b20) fun j24=>
 some j24
def ref10_References_L1(t0:List GNode):((List Int)×(List Int)×(List Int)×Int)→Option (Ex ((List Int)×(List Int)×(List Int)×Int) ((List Int)×(List Int)×(List Int)) Unit):=fun(s1,s2,s3,s4)=>
 if s4<(t0.length:Int)then
  qn (α:=((List Int)×(List Int)×(List Int))) (
   (idx t0 s4).bind fun x6=>
   qn (α:=(List Int)) (
    if x6.Op=7 then
     (ref10_insert s1 x6.N).bind fun x8=>
     some x8
    else
    some s1) fun j9=>
   qn (α:=(List Int)) (
    if x6.Op=8 then
     (ref10_insert s2 x6.N).bind fun x11=>
     some x11
    else
    some s2) fun j12=>
   qn (α:=Bool) (
    if 36≤x6.Op then
     some (decide (x6.Op≤39))
    else
    some false) fun j14=>
   if j14=true then
    (ref10_insert s3 x6.N).bind fun x16=>
    some (j9,j12,x16)
   else
   some (j9,j12,s3)) fun(j17,j18,j19)=>
  some (Ex.go (j17,j18,j19,(wrapF .i64 (s4+1))))
 else
 some (Ex.brk (s1,s2,s3))
def ref10_References(t0:List GNode):Option ((List Int)×(List Int)×(List Int)):=
 (loopO (ref10_References_L1 t0) (([]:List Int),([]:List Int),([]:List Int),0)).bind fun y=>match y with
 |.inr _=>none
 |.inl (b24,b25,b26)=>
 some (b24,b25,b26)
def ref16_Direct_L12(t0:GScope) (x8:((List Int)×(List Int)×(List Int))):((List Int)×Int)→Option (Ex ((List Int)×Int) (List Int) Unit):=fun(s10,s11)=>
 if s11<(x8.2.1.length:Int)then
  qn (α:=(List Int)) (
   (idx x8.2.1 s11).bind fun x13=>
   (ref16_is t0 x13).bind fun x14=>
   if x14=true then
    (ref16_insert s10 x13).bind fun x16=>
    some x16
   else
   some s10) fun j17=>
  some (Ex.go (j17,(wrapF .i64 (s11+1))))
 else
 some (Ex.brk s10)
def ref16_Direct_L11(t0:GScope) (x9:((List Int)×(List Int)×(List Int))):((List Int)×Int)→Option (Ex ((List Int)×Int) (List Int) Unit):=fun(s21,s22)=>
 if s22<(x9.2.1.length:Int)then
  qn (α:=(List Int)) (
   (idx x9.2.1 s22).bind fun x24=>
   (ref16_is t0 x24).bind fun x25=>
   if x25=true then
    (ref16_insert s21 x24).bind fun x27=>
    some x27
   else
   some s21) fun j28=>
  some (Ex.go (j28,(wrapF .i64 (s22+1))))
 else
 some (Ex.brk s21)
def ref16_Direct_L13(t0:GScope) (t1:Int):((List Int)×Int)→Option (Ex ((List Int)×Int) (List Int) Unit):=fun(s3,s4)=>
 if s4<(t0.Rules.length:Int)then
  qn (α:=(List Int)) (
   (idx t0.Rules s4).bind fun x6=>
   if¬x6.Def=t1 then
    some s3
   else
   (ref10_References x6.Guard).bind fun x8=>
   (ref10_References x6.Value).bind fun x9=>
   (loopO (ref16_Direct_L12 t0 x8) (s3,0)).bind fun y=>match y with
   |.inr _=>none
   |.inl b20=>
   (loopO (ref16_Direct_L11 t0 x9) (b20,0)).bind fun y=>match y with
   |.inr _=>none
   |.inl b31=>
   some b31) fun j32=>
  some (Ex.go (j32,(wrapF .i64 (s4+1))))
 else
 some (Ex.brk s3)
def ref16_Direct(t0:GScope) (t1:Int):Option (List Int):=
 (ref16_is t0 t1).bind fun x1=>
 if x1=false then
  some ([])
 else
 (loopO (ref16_Direct_L13 t0 t1) (([]:List Int),0)).bind fun y=>match y with
 |.inr _=>none
 |.inl b35=>
 some b35
def ref16_Transitive_L39(x9:List Int):((List Int)×Int)→Option (Ex ((List Int)×Int) (List Int) Unit):=fun(s10,s11)=>
 if s11<(x9.length:Int)then
  (idx x9 s11).bind fun x13=>
  (ref16_insert s10 x13).bind fun x14=>
  some (Ex.go (x14,(wrapF .i64 (s11+1))))
 else
 some (Ex.brk s10)
def ref16_Transitive_L40(t0:GScope) (s2:List Int):((List Int)×Int)→Option (Ex ((List Int)×Int) (List Int) Unit):=fun(s5,s6)=>
 if s6<(s2.length:Int)then
  (idx s2 s6).bind fun x8=>
  (ref16_Direct t0 x8).bind fun x9=>
  (loopO (ref16_Transitive_L39 x9) (s5,0)).bind fun y=>match y with
  |.inr _=>none
  |.inl b17=>
  some (Ex.go (b17,(wrapF .i64 (s6+1))))
 else
 some (Ex.brk s5)
def ref16_Transitive_L41(t0:GScope):((List Int)×Int)→Option (Ex ((List Int)×Int) (List Int) Unit):=fun(s2,s3)=>
 if s3<(t0.Defs.length:Int)then
  (loopO (ref16_Transitive_L40 t0 s2) (s2,0)).bind fun y=>match y with
  |.inr _=>none
  |.inl b20=>
  some (Ex.go (b20,(wrapF .i64 (s3+1))))
 else
 some (Ex.brk s2)
def ref16_Transitive(t0:GScope) (t1:Int):Option (List Int):=
 (ref16_Direct t0 t1).bind fun x1=>
 (loopO (ref16_Transitive_L41 t0) (x1,0)).bind fun y=>match y with
 |.inr _=>none
 |.inl b23=>
 some b23
def ref17_scopeError_L11(t0:GLaw) (t1:Int) (x1:GScope):Int→Option (Ex Int Unit GLawError):=fun s16=>
 if s16<(x1.Rules.length:Int)then
  (ref17_ruleError t0 t1 s16).bind fun x18=>
  if¬x18=0 then
   some (Ex.ret (GLawError.mk x18 3 t1 (wrapF .i64 (300+s16))))
  else
  some (Ex.go (wrapF .i64 (s16+1)))
 else
 some (Ex.brk ())
def ref17_scopeError_L9(t1:Int) (s21:Int) (x23:List Int):Int→Option (Ex Int Unit (Ex Int Unit GLawError)):=fun s24=>
 if s24<(x23.length:Int)then
  (idx x23 s24).bind fun x26=>
  if x26=s21 then
   some (Ex.ret (Ex.ret (GLawError.mk 9 3 t1 (wrapF .i64 (200+s21)))))
  else
  some (Ex.go (wrapF .i64 (s24+1)))
 else
 some (Ex.brk ())
def ref17_scopeError_L10(t1:Int) (x1:GScope):Int→Option (Ex Int Unit GLawError):=fun s21=>
 if s21<(x1.Defs.length:Int)then
  (ref16_Transitive x1 s21).bind fun x23=>
  (loopO (ref17_scopeError_L9 t1 s21 x23) 0).bind fun y=>match y with
  |.inr v=>some v
  |.inl _=>
  some (Ex.go (wrapF .i64 (s21+1)))
 else
 some (Ex.brk ())
def ref17_scopeError(t0:GLaw) (t1:Int):Option GLawError:=
 (idx t0.Scopes t1).bind fun x1=>
 (ref08_IsIdentifier x1.Name).bind fun x2=>
 if x2=false then
  some (GLawError.mk 2 3 t1 0)
 else
 (ref17_nameTaken t0 3 t1 x1.Name).bind fun x4=>
 if x4=true then
  some (GLawError.mk 7 3 t1 0)
 else
 qn (α:=Bool) (
  if¬x1.MemberScope=(-1)then
   if¬x1.MemberScope<0 then
    if¬t1≤x1.MemberScope then
     (idx t0.Scopes x1.MemberScope).bind fun x9=>
     some (x9.MemberScope !=(-1))
    else
    some true
   else
   some true
  else
  some false) fun j10=>
 if j10=true then
  some (GLawError.mk 6 3 t1 0)
 else
 if 12<(x1.Inputs.length:Int)then
  some (GLawError.mk 4 3 t1 112)
 else
 if 12<(x1.Defs.length:Int)then
  some (GLawError.mk 4 3 t1 212)
 else
 (ref17_fieldError t0 t1).bind fun x14=>
 if¬x14.Code=0 then
  some x14
 else
 (loopO (ref17_scopeError_L11 t0 t1 x1) 0).bind fun y=>match y with
 |.inr v=>some v
 |.inl _=>
 (loopO (ref17_scopeError_L10 t1 x1) 0).bind fun y=>match y with
 |.inr v=>some v
 |.inl _=>
 some (GLawError.mk 0 0 0 0)
def ref17_Validate_L5(t0:GLaw):Int→Option (Ex Int Unit GLawError):=fun s2=>
 if s2<(t0.Enums.length:Int)then
  (ref17_enumError t0 s2).bind fun x4=>
  if¬x4.Code=0 then
   some (Ex.ret x4)
  else
  some (Ex.go (wrapF .i64 (s2+1)))
 else
 some (Ex.brk ())
def ref17_Validate_L4(t0:GLaw):Int→Option (Ex Int Unit GLawError):=fun s8=>
 if s8<(t0.Tables.length:Int)then
  (ref17_tableError t0 s8).bind fun x10=>
  if¬x10.Code=0 then
   some (Ex.ret x10)
  else
  some (Ex.go (wrapF .i64 (s8+1)))
 else
 some (Ex.brk ())
def ref17_Validate_L3(t0:GLaw):Int→Option (Ex Int Unit GLawError):=fun s14=>
 if s14<(t0.Scopes.length:Int)then
  (ref17_scopeError t0 s14).bind fun x16=>
  if¬x16.Code=0 then
   some (Ex.ret x16)
  else
  some (Ex.go (wrapF .i64 (s14+1)))
 else
 some (Ex.brk ())
def ref17_Validate(t0:GLaw):Option GLawError:=
 if 8<(t0.Enums.length:Int)then
  some (GLawError.mk 4 1 8 0)
 else
 (loopO (ref17_Validate_L5 t0) 0).bind fun y=>match y with
 |.inr v=>some v
 |.inl _=>
 if 8<(t0.Tables.length:Int)then
  some (GLawError.mk 4 2 8 0)
 else
 (loopO (ref17_Validate_L4 t0) 0).bind fun y=>match y with
 |.inr v=>some v
 |.inl _=>
 if 4<(t0.Scopes.length:Int)then
  some (GLawError.mk 4 3 4 0)
 else
 (loopO (ref17_Validate_L3 t0) 0).bind fun y=>match y with
 |.inr v=>some v
 |.inl _=>
 some (GLawError.mk 0 0 0 0)
def same_SmallConfig(t0:GPayConfig):Option Bool:=
 some (decide ((t0.Calendar.Holidays.length:Int)≤70))
def workday_validDate(t0:Int):Option Bool:=
 qn (α:=Bool) (
  if 0≤t0 then
   some (decide (t0≤109572))
  else
  some false) fun j2=>
 some j2
def workday_Valid_L1(t0:GCalendar):Int→Option (Ex Int Unit Bool):=fun s5=>
 if s5<(t0.Holidays.length:Int)then
  (idx t0.Holidays s5).bind fun x7=>
  qn (α:=Bool) (
   (workday_validDate x7).bind fun x8=>
   if x8=true then
    if 0<s5 then
     (idx t0.Holidays (wrapF .i64 (s5-1))).bind fun x11=>
     some (decide (x7≤x11))
    else
    some false
   else
   some true) fun j12=>
  if j12=true then
   some (Ex.ret false)
  else
  some (Ex.go (wrapF .i64 (s5+1)))
 else
 some (Ex.brk ())
def workday_Valid(t0:GCalendar):Option Bool:=
 qn (α:=Bool) (
  if¬t0.Weekend<0 then
   if¬126<t0.Weekend then
    some (decide (64<(t0.Holidays.length:Int)))
   else
   some true
  else
  some true) fun j3=>
 if j3=true then
  some false
 else
 (loopO (workday_Valid_L1 t0) 0).bind fun y=>match y with
 |.inr v=>some v
 |.inl _=>
 some true
def award_ValidateConfig(t0:GLaw) (t1:Int) (t2:GPayConfig):Option Int:=
 (law_Validate t0).bind fun x1=>
 if¬(x1.Code=0∧x1.Section=0∧x1.Item=0∧x1.Element=0)then
  some 1
 else
 qn (α:=Bool) (
  if¬t1<0 then
   if¬(t0.Scopes.length:Int)≤t1 then
    if¬t2.Def<0 then
     (idx t0.Scopes t1).bind fun x6=>
     some (decide ((x6.Defs.length:Int)≤t2.Def))
    else
    some true
   else
   some true
  else
  some true) fun j7=>
 if j7=true then
  some 6
 else
 (idx t0.Scopes t1).bind fun x9=>
 (idx x9.Defs t2.Def).bind fun x10=>
 if¬(x10.Type_.Kind=3∧x10.Type_.Enum=0)then
  some 8
 else
 qn (α:=Bool) (
  if¬t2.Rounding<0 then
   if¬5<t2.Rounding then
    (workday_Valid t2.Calendar).bind fun x14=>
    some (!x14)
   else
   some true
  else
  some true) fun j15=>
 if j15=true then
  some 1
 else
 qn (α:=Bool) (
  qn (α:=Bool) (
   if¬t2.PayDay<1 then
    some (decide (28<t2.PayDay))
   else
   some true) fun j18=>
  if j18=true then
   some true
  else
  qn (α:=Bool) (
   if¬t2.RecoveryCap<0 then
    some (decide (1000000<t2.RecoveryCap))
   else
   some true) fun j21=>
  if j21=true then
   some true
  else
  qn (α:=Bool) (
   if¬t2.RecoveryFloor<0 then
    some (decide (1000000000000000<t2.RecoveryFloor))
   else
   some true) fun j24=>
  if j24=true then
   some true
  else
  qn (α:=Bool) (
   if¬t2.FirstMonth<0 then
    some (decide (3599<t2.FirstMonth))
   else
   some true) fun j27=>
  if j27=true then
   some true
  else
  if¬t2.AppealDays<0 then
   some (decide (365<t2.AppealDays))
  else
  some true) fun j30=>
 if j30=true then
  some 3
 else
 some 0
def household_memberInputs(t0:GLaw) (t1:Int):Option ((List GField)×Bool):=
 (idx t0.Scopes t1).bind fun x1=>
 qn (α:=Bool) (
  if¬x1.MemberScope<0 then
   some (decide ((t0.Scopes.length:Int)≤x1.MemberScope))
  else
  some true) fun j3=>
 if j3=true then
  some ([],false)
 else
 (idx t0.Scopes x1.MemberScope).bind fun x5=>
 some (x5.Inputs,true)
def facts_nonempty(t0:GDateRange):Option Bool:=
 qn (α:=Bool) (
  (daterange_Valid t0).bind fun x1=>
  if x1=true then
   some (decide (t0.From<t0.To))
  else
  some false) fun j3=>
 some j3
def facts_checkFact(t0:GFact):Option Int:=
 if t0.Id<0 then
  some 3
 else
 qn (α:=Bool) (
  if¬t0.Member<(-1)then
   some (decide (8≤t0.Member))
  else
  some true) fun j3=>
 if j3=true then
  some 3
 else
 qn (α:=Bool) (
  if¬t0.Input<(-1)then
   some (decide (12≤t0.Input))
  else
  some true) fun j6=>
 if j6=true then
  some 3
 else
 qn (α:=Bool) (
  if t0.Member=(-1)then
   some (t0.Input==(-1))
  else
  some false) fun j9=>
 if j9=true then
  some 3
 else
 (facts_nonempty t0.Valid).bind fun x11=>
 if x11=false then
  some 3
 else
 qn (α:=Bool) (
  if¬t0.Recorded<0 then
   some (decide (109572<t0.Recorded))
  else
  some true) fun j14=>
 if j14=true then
  some 3
 else
 qn (α:=Bool) (
  if¬t0.Value.Kind<1 then
   some (decide (6<t0.Value.Kind))
  else
  some true) fun j17=>
 if j17=true then
  some 8
 else
 qn (α:=Bool) (
  if t0.Input=(-1)then
   some (t0.Value.Kind !=1)
  else
  some false) fun j20=>
 if j20=true then
  some 8
 else
 some 0
def facts_Validate_go:Int→List Int→List GFact→Option (Int×Int)
 |_,_,[]=>some (0,0)
 |i,seen,f::l=>(facts_checkFact f).bind fun c=>if¬c=0 then some (i,c)else if seen.contains f.Id then some (i,7)else facts_Validate_go (i+1) (f.Id::seen) l
def facts_Validate(t0:List GFact):Option (Int×Int):=if 128<(t0.length:Int)then some (0,4)else facts_Validate_go 0 [] t0
def household_Validate_L1(t0:GLaw) (t1:GHousehold) (x4:((List GField)×Bool)):Int→Option (Ex Int Unit (Int×Int)):=fun s13=>
 if s13<(t1.Facts.length:Int)then
  (idx t1.Facts s13).bind fun x15=>
  if t1.Members≤x15.Member then
   some (Ex.ret (s13,6))
  else
  qn (α:=(List GField)) (
   if x15.Member=(-1)then
    (idx t0.Scopes t1.Scope).bind fun x18=>
    some x18.Inputs
   else
   some x4.1) fun j19=>
  qn (α:=((Int×Int)⊕(Ex Int Unit (Int×Int)))) (
   if¬x15.Input=(-1)then
    qn (α:=Bool) (
     if¬x15.Input<0 then
      some (decide ((j19.length:Int)≤x15.Input))
     else
     some true) fun j22=>
    if j22=true then
     some (Sum.inr (Ex.ret (s13,6)))
    else
    (idx j19 x15.Input).bind fun x24=>
    some (Sum.inl (x24.Type_.Kind,x24.Type_.Enum))
   else
   some (Sum.inl (1,0))) fun z=>match z with
  |.inr v=>some v
  |.inl (j25,j26)=>
  qn (α:=Bool) (
   if x15.Value.Kind=j25 then
    some (x15.Value.Enum !=j26)
   else
   some true) fun j28=>
  if j28=true then
   some (Ex.ret (s13,8))
  else
  (value_Bounds (GType.mk j25 j26) t0.Enums).bind fun x30=>
  qn (α:=Bool) (
   if¬x15.Value.N<x30.1 then
    some (decide (x30.2<x15.Value.N))
   else
   some true) fun j32=>
  if j32=true then
   some (Ex.ret (s13,3))
  else
  some (Ex.go (wrapF .i64 (s13+1)))
 else
 some (Ex.brk ())
def household_Validate(t0:GLaw) (t1:GHousehold):Option (Int×Int):=
 qn (α:=Bool) (
  if¬t1.Scope<0 then
   some (decide ((t0.Scopes.length:Int)≤t1.Scope))
  else
  some true) fun j2=>
 if j2=true then
  some ((-1),6)
 else
 (household_memberInputs t0 t1.Scope).bind fun x4=>
 qn (α:=Bool) (
  if¬t1.Id<0 then
   if¬t1.Members<0 then
    if¬8<t1.Members then
     if¬t1.Members=0 then
      some (!x4.2)
     else
     some false
    else
    some true
   else
   some true
  else
  some true) fun j9=>
 if j9=true then
  some ((-1),3)
 else
 (facts_Validate t1.Facts).bind fun x11=>
 if¬x11.2=0 then
  some (x11.1,x11.2)
 else
 (loopO (household_Validate_L1 t0 t1 x4) 0).bind fun y=>match y with
 |.inr v=>some v
 |.inl _=>
 some (0,0)
def ref17_IsValid(t0:GLaw):Option Bool:=
 (ref17_Validate t0).bind fun x1=>
 some (x1.Code==0)
def ref36_outside(t0:Int) (t1:Int) (t2:Int):Option Bool:=
 qn (α:=Bool) (
  if¬t0<t1 then
   some (decide (t2<t0))
  else
  some true) fun j2=>
 some j2
def ref06_day(t0:Int):Option Bool:=
 qn (α:=Bool) (
  if 0≤t0 then
   some (decide (t0≤109572))
  else
  some false) fun j2=>
 some j2
def ref06_Valid_L1(t0:GCalendar):Int→Option (Ex Int Unit Bool):=fun s5=>
 if s5<(t0.Holidays.length:Int)then
  qn (α:=Bool) (
   (idx t0.Holidays s5).bind fun x7=>
   (ref06_day x7).bind fun x8=>
   if x8=true then
    if 0<s5 then
     (idx t0.Holidays (wrapF .i64 (s5-1))).bind fun x11=>
     some (decide (x7≤x11))
    else
    some false
   else
   some true) fun j12=>
  if j12=true then
   some (Ex.ret false)
  else
  some (Ex.go (wrapF .i64 (s5+1)))
 else
 some (Ex.brk ())
def ref06_Valid(t0:GCalendar):Option Bool:=
 qn (α:=Bool) (
  if¬t0.Weekend<0 then
   if¬126<t0.Weekend then
    some (decide (64<(t0.Holidays.length:Int)))
   else
   some true
  else
  some true) fun j3=>
 if j3=true then
  some false
 else
 (loopO (ref06_Valid_L1 t0) 0).bind fun y=>match y with
 |.inr v=>some v
 |.inl _=>
 some true
def ref36_ValidateConfig(t0:GLaw) (t1:Int) (t2:GPayConfig):Option Int:=
 (ref17_IsValid t0).bind fun x1=>
 if x1=false then
  some 1
 else
 qn (α:=Bool) (
  if¬t1<0 then
   if¬(t0.Scopes.length:Int)≤t1 then
    if¬t2.Def<0 then
     (idx t0.Scopes t1).bind fun x6=>
     some (decide ((x6.Defs.length:Int)≤t2.Def))
    else
    some true
   else
   some true
  else
  some true) fun j7=>
 if j7=true then
  some 6
 else
 (idx t0.Scopes t1).bind fun x9=>
 (idx x9.Defs t2.Def).bind fun x10=>
 if¬x10.Type_.Kind=3 then
  some 8
 else
 qn (α:=Bool) (
  (ref36_outside t2.Rounding 0 5).bind fun x12=>
  if x12=false then
   (ref06_Valid t2.Calendar).bind fun x14=>
   some (!x14)
  else
  some true) fun j15=>
 if j15=true then
  some 1
 else
 qn (α:=Bool) (
  (ref36_outside t2.PayDay 1 28).bind fun x17=>
  if x17=false then
   (ref36_outside t2.RecoveryCap 0 1000000).bind fun x19=>
   if x19=false then
    (ref36_outside t2.RecoveryFloor 0 1000000000000000).bind fun x21=>
    if x21=false then
     (ref36_outside t2.FirstMonth 0 3599).bind fun x23=>
     if x23=false then
      (ref36_outside t2.AppealDays 0 365).bind fun x25=>
      some x25
     else
     some true
    else
    some true
   else
   some true
  else
  some true) fun j26=>
 if j26=true then
  some 3
 else
 some 0
def same_SmallHousehold(t0:GHousehold):Option Bool:=
 some (decide ((t0.Facts.length:Int)≤40))
def ref35_memberInputs(t0:GLaw) (t1:Int):Option ((List GField)×Bool):=
 (idx t0.Scopes t1).bind fun x1=>
 qn (α:=Bool) (
  if¬x1.MemberScope<0 then
   some (decide ((t0.Scopes.length:Int)≤x1.MemberScope))
  else
  some true) fun j3=>
 if j3=true then
  some ([],false)
 else
 (idx t0.Scopes x1.MemberScope).bind fun x5=>
 some (x5.Inputs,true)
def ref34_nonempty(t0:GDateRange):Option Bool:=
 qn (α:=Bool) (
  (ref05_Valid t0).bind fun x1=>
  if x1=true then
   some (decide (t0.From<t0.To))
  else
  some false) fun j3=>
 some j3
def ref34_fault_L1(t0:List GFact) (t1:Int) (x1:GFact):Int→Option (Ex Int Unit Int):=fun s22=>
 if s22<t1 then
  (idx t0 s22).bind fun x24=>
  if x24.Id=x1.Id then
   some (Ex.ret 7)
  else
  some (Ex.go (wrapF .i64 (s22+1)))
 else
 some (Ex.brk ())
def ref34_fault(t0:List GFact) (t1:Int):Option Int:=
 (idx t0 t1).bind fun x1=>
 qn (α:=Bool) (
  if¬x1.Id<0 then
   if¬x1.Member<(-1)then
    if¬7<x1.Member then
     if¬x1.Input<(-1)then
      if¬11<x1.Input then
       if x1.Member=(-1)then
        if¬x1.Input=(-1)then
         (ref34_nonempty x1.Valid).bind fun x9=>
         if x9=true then
          if¬x1.Recorded<0 then
           some (decide (109572<x1.Recorded))
          else
          some true
         else
         some true
        else
        some true
       else
       (ref34_nonempty x1.Valid).bind fun x12=>
       if x12=true then
        if¬x1.Recorded<0 then
         some (decide (109572<x1.Recorded))
        else
        some true
       else
       some true
      else
      some true
     else
     some true
    else
    some true
   else
   some true
  else
  some true) fun j15=>
 if j15=true then
  some 3
 else
 qn (α:=Bool) (
  if¬x1.Value.Kind<1 then
   if¬6<x1.Value.Kind then
    if x1.Input=(-1)then
     some (x1.Value.Kind !=1)
    else
    some false
   else
   some true
  else
  some true) fun j20=>
 if j20=true then
  some 8
 else
 (loopO (ref34_fault_L1 t0 t1 x1) 0).bind fun y=>match y with
 |.inr v=>some v
 |.inl _=>
 some 0
def ref34_Validate_L1(t0:List GFact):Int→Option (Ex Int Unit (Int×Int)):=fun s2=>
 if s2<(t0.length:Int)then
  (ref34_fault t0 s2).bind fun x4=>
  if¬x4=0 then
   some (Ex.ret (s2,x4))
  else
  some (Ex.go (wrapF .i64 (s2+1)))
 else
 some (Ex.brk ())
def ref34_Validate(t0:List GFact):Option (Int×Int):=
 if 128<(t0.length:Int)then
  some (0,4)
 else
 (loopO (ref34_Validate_L1 t0) 0).bind fun y=>match y with
 |.inr v=>some v
 |.inl _=>
 some (0,0)
def ref09_Type(t0:GValue):Option GType:=
 some (GType.mk t0.Kind t0.Enum)
def ref35_factError(t0:GLaw) (t1:GHousehold) (t2:GFact):Option Int:=
 if t1.Members≤t2.Member then
  some 6
 else
 (idx t0.Scopes t1.Scope).bind fun x2=>
 qn (α:=(List GField)) (
  if 0≤t2.Member then
   (ref35_memberInputs t0 t1.Scope).bind fun x4=>
   some x4.1
  else
  some x2.Inputs) fun j5=>
 qn (α:=((Int×Int)⊕Int)) (
  if¬t2.Input=(-1)then
   qn (α:=Bool) (
    if¬t2.Input<0 then
     some (decide ((j5.length:Int)≤t2.Input))
    else
    some true) fun j8=>
   if j8=true then
    some (Sum.inr 6)
   else
   (idx j5 t2.Input).bind fun x10=>
   some (Sum.inl (x10.Type_.Kind,x10.Type_.Enum))
  else
  some (Sum.inl (1,0))) fun z=>match z with
 |.inr v=>some v
 |.inl (j11,j12)=>
 (ref09_Type t2.Value).bind fun x13=>
 if¬(x13.Kind=j11∧x13.Enum=j12)then
  some 8
 else
 (ref09_In t2.Value.N (GType.mk j11 j12) t0.Enums).bind fun x15=>
 if x15=false then
  some 3
 else
 some 0
def ref35_Validate_L1(t0:GLaw) (t1:GHousehold):Int→Option (Ex Int Unit (Int×Int)):=fun s13=>
 if s13<(t1.Facts.length:Int)then
  (idx t1.Facts s13).bind fun x15=>
  (ref35_factError t0 t1 x15).bind fun x16=>
  if¬x16=0 then
   some (Ex.ret (s13,x16))
  else
  some (Ex.go (wrapF .i64 (s13+1)))
 else
 some (Ex.brk ())
def ref35_Validate(t0:GLaw) (t1:GHousehold):Option (Int×Int):=
 qn (α:=Bool) (
  if¬t1.Scope<0 then
   some (decide ((t0.Scopes.length:Int)≤t1.Scope))
  else
  some true) fun j2=>
 if j2=true then
  some ((-1),6)
 else
 (ref35_memberInputs t0 t1.Scope).bind fun x4=>
 qn (α:=Bool) (
  if¬t1.Id<0 then
   if¬t1.Members<0 then
    if¬8<t1.Members then
     if¬t1.Members=0 then
      some (!x4.2)
     else
     some false
    else
    some true
   else
   some true
  else
  some true) fun j9=>
 if j9=true then
  some ((-1),3)
 else
 (ref34_Validate t1.Facts).bind fun x11=>
 if¬x11.2=0 then
  some (x11.1,x11.2)
 else
 (loopO (ref35_Validate_L1 t0 t1) 0).bind fun y=>match y with
 |.inr v=>some v
 |.inl _=>
 some (0,0)
def law43_awake:Option Bool:=some true
def ledger_Months_L1(t0:List GPosting):((List Int)×Int)→Option (Ex ((List Int)×Int) (List Int) Unit):=fun(s1,s2)=>
 if s2<(t0.length:Int)then
  (idx t0 s2).bind fun x4=>
  (app 8 s1 ([x4.Month])).bind fun x5=>
  some (Ex.go (x5,(wrapF .i64 (s2+1))))
 else
 some (Ex.brk s1)
def ledger_Months(t0:List GPosting):Option (List Int):=
 (loopO (ledger_Months_L1 t0) (([]:List Int),0)).bind fun y=>match y with
 |.inr _=>none
 |.inl b8=>
 (slices_Sort_int_int b8).bind fun x9=>
 (slices_Compact_int_int x9).bind fun x10=>
 some x10
def amtP(p:GPosting):Int:=if p.Kind=1 then p.Cents else if p.Kind=2 then wrapF .i64 (-p.Cents)else if p.Kind=3 then wrapF .i64 (-p.Cents)else 0
def recK(m:Int) (l:List GPosting) (ks:List Int):Int:=ks.foldl (fun s k=>(l.filter fun p=>p.Kind==k).foldl (fun s p=>if p.Month==m then wrapF .i64 (s+amtP p)else s) s) 0
def ledger_Received(t0:List GPosting) (t1:Int):Option Int:=if t0.length≤1099511627776 then some (recK t1 t0 [1,2,3])else none
def account_isDate(t0:Int):Option Bool:=
 qn (α:=Bool) (
  if 0≤t0 then
   some (decide (t0≤109572))
  else
  some false) fun j2=>
 some j2
def account_payable(t0:GPayConfig) (t1:Int):Option Bool:=
 qn (α:=Bool) (
  if t0.FirstMonth≤t1 then
   some (decide (t1≤(min 3599 (wrapF .i64 ((wrapF .i64 (t0.FirstMonth+120))-1)))))
  else
  some false) fun j2=>
 some j2
def ledger_amount(t0:GPosting):Option Int:=
 if t0.Kind=1 then
  some t0.Cents
 else
 qn (α:=Bool) (
  if t0.Kind=2 then
   some true
  else
  some (t0.Kind==3)) fun j3=>
 if j3=true then
  some (wrapF .i64 (-t0.Cents))
 else
 some 0
def ledger_Validate_L1(t0:List GPosting):((List (Int×Int))×Int)→Option (Ex ((List (Int×Int))×Int) Unit (Int×Int)):=fun(s2,s3)=>
 if s3<(t0.length:Int)then
  (idx t0 s3).bind fun x5=>
  qn (α:=Bool) (
   qn (α:=Bool) (
    if¬x5.Date<0 then
     some (decide (109572<x5.Date))
    else
    some true) fun j7=>
   if j7=true then
    some true
   else
   qn (α:=Bool) (
    if¬x5.Month<0 then
     some (decide (3599<x5.Month))
    else
    some true) fun j10=>
   if j10=true then
    some true
   else
   if¬x5.Cents<1 then
    some (decide (1000000000000000<x5.Cents))
   else
   some true) fun j13=>
  if j13=true then
   some (Ex.ret (s3,3))
  else
  qn (α:=Bool) (
   if¬x5.Kind<1 then
    some (decide (4<x5.Kind))
   else
   some true) fun j16=>
  if j16=true then
   some (Ex.ret (s3,1))
  else
  qn (α:=Bool) (
   if 0<s3 then
    (idx t0 (wrapF .i64 (s3-1))).bind fun x19=>
    some (decide (x5.Date<x19.Date))
   else
   some false) fun j20=>
  if j20=true then
   some (Ex.ret (s3,9))
  else
  (ledger_amount x5).bind fun x22=>
  if((mlk (mpt x5.Month (wrapF .i64 (((mlk s2 x5.Month).getD 0)+x22)) s2) x5.Month).getD 0)<0 then
   some (Ex.ret (s3,13))
  else
  some (Ex.go ((mpt x5.Month (wrapF .i64 (((mlk s2 x5.Month).getD 0)+x22)) s2),(wrapF .i64 (s3+1))))
 else
 some (Ex.brk ())
def ledger_Validate(t0:List GPosting):Option (Int×Int):=
 if 4096<(t0.length:Int)then
  some (4096,4)
 else
 (loopO (ledger_Validate_L1 t0) (([]:List (Int×Int)),0)).bind fun y=>match y with
 |.inr v=>some v
 |.inl _=>
 some (0,0)
def ledger_Waived(t0:List GPosting) (t1:Int):Option Int:=if t0.length≤1099511627776 then some ((t0.filter fun p=>p.Kind==4).foldl (fun s p=>if p.Month==t1 then wrapF .i64 (s+p.Cents)else s) 0)else none
def appeal_validMonths(t0:Int) (t1:Int):Option Bool:=
 qn (α:=Bool) (
  if 0≤t0 then
   if t0<t1 then
    if t1≤3600 then
     some (decide ((wrapF .i64 (t1-t0))≤120))
    else
    some false
   else
   some false
  else
  some false) fun j4=>
 some j4
def appeal_Valid(t0:GAppeal):Option Bool:=
 qn (α:=Bool) (
  if¬t0.Id<0 then
   (appeal_validMonths t0.From t0.To).bind fun x2=>
   some (!x2)
  else
  some true) fun j3=>
 if j3=true then
  some false
 else
 qn (α:=Bool) (
  if¬t0.Filed<0 then
   if¬t0.Deadline<t0.Filed then
    some (decide (109572<t0.Deadline))
   else
   some true
  else
  some true) fun j7=>
 if j7=true then
  some false
 else
 qn (α:=Bool) (
  if¬t0.State<1 then
   some (decide (6<t0.State))
  else
  some true) fun j10=>
 if j10=true then
  some false
 else
 qn (α:=Bool) (
  if 0≤t0.Cents then
   if t0.Cents≤1000000000000000 then
    if¬t0.Cents=0 then
     some (t0.State==3)
    else
    some true
   else
   some false
  else
  some false) fun j15=>
 some j15
def account_inTime_L5(t0:GAccount):Int→Option (Ex Int Unit Bool):=fun s1=>
 if s1<(t0.Household.Facts.length:Int)then
  (idx t0.Household.Facts s1).bind fun x3=>
  if t0.Date<x3.Recorded then
   some (Ex.ret false)
  else
  some (Ex.go (wrapF .i64 (s1+1)))
 else
 some (Ex.brk ())
def account_inTime_L4(t0:GAccount):Int→Option (Ex Int Unit Bool):=fun s6=>
 if s6<(t0.Postings.length:Int)then
  (idx t0.Postings s6).bind fun x8=>
  if t0.Date<x8.Date then
   some (Ex.ret false)
  else
  some (Ex.go (wrapF .i64 (s6+1)))
 else
 some (Ex.brk ())
def account_inTime_L3(t0:GAccount):Int→Option (Ex Int Unit Bool):=fun s11=>
 if s11<(t0.Appeals.length:Int)then
  (idx t0.Appeals s11).bind fun x13=>
  if t0.Date<x13.Filed then
   some (Ex.ret false)
  else
  some (Ex.go (wrapF .i64 (s11+1)))
 else
 some (Ex.brk ())
def account_inTime(t0:GAccount):Option Bool:=
 (loopO (account_inTime_L5 t0) 0).bind fun y=>match y with
 |.inr v=>some v
 |.inl _=>
 (loopO (account_inTime_L4 t0) 0).bind fun y=>match y with
 |.inr v=>some v
 |.inl _=>
 (loopO (account_inTime_L3 t0) 0).bind fun y=>match y with
 |.inr v=>some v
 |.inl _=>
 some true
def account_Validate_L3(t1:GPayConfig) (t2:GAccount) (x13:List Int):Int→Option (Ex Int Unit Int):=fun s14=>
 if s14<(x13.length:Int)then
  (idx x13 s14).bind fun x16=>
  qn (α:=Bool) (
   if¬x16<t1.FirstMonth then
    some (decide (t2.LastMonth<x16))
   else
   some true) fun j18=>
  if j18=true then
   some (Ex.ret 3)
  else
  qn (α:=Bool) (
   (ledger_Received t2.Postings x16).bind fun x20=>
   if¬1000000000000000<x20 then
    (ledger_Waived t2.Postings x16).bind fun x22=>
    some (decide (1000000000000000<x22))
   else
   some true) fun j23=>
  if j23=true then
   some (Ex.ret 3)
  else
  some (Ex.go (wrapF .i64 (s14+1)))
 else
 some (Ex.brk ())
def account_Validate_L2(t2:GAccount):Int→Option (Ex Int Unit Int):=fun s27=>
 if s27<(t2.Appeals.length:Int)then
  (idx t2.Appeals s27).bind fun x29=>
  qn (α:=Bool) (
   (appeal_Valid x29).bind fun x30=>
   if x30=true then
    some (x29.Id !=s27)
   else
   some true) fun j32=>
  if j32=true then
   some (Ex.ret 13)
  else
  some (Ex.go (wrapF .i64 (s27+1)))
 else
 some (Ex.brk ())
def account_Validate(t0:GLaw) (t1:GPayConfig) (t2:GAccount):Option Int:=
 (award_ValidateConfig t0 t2.Household.Scope t1).bind fun x1=>
 if¬x1=0 then
  some 1
 else
 (household_Validate t0 t2.Household).bind fun x3=>
 if¬x3.2=0 then
  some x3.2
 else
 qn (α:=Bool) (
  (account_isDate t2.Date).bind fun x5=>
  if x5=true then
   if¬t2.LastMonth=(-1)then
    (account_payable t1 t2.LastMonth).bind fun x8=>
    some (!x8)
   else
   some false
  else
  some true) fun j9=>
 if j9=true then
  some 3
 else
 (ledger_Validate t2.Postings).bind fun x11=>
 if¬x11.2=0 then
  some x11.2
 else
 (ledger_Months t2.Postings).bind fun x13=>
 (loopO (account_Validate_L3 t1 t2 x13) 0).bind fun y=>match y with
 |.inr v=>some v
 |.inl _=>
 if 16<(t2.Appeals.length:Int)then
  some 4
 else
 (loopO (account_Validate_L2 t2) 0).bind fun y=>match y with
 |.inr v=>some v
 |.inl _=>
 (account_inTime t2).bind fun x35=>
 if x35=false then
  some 9
 else
 some 0
def same_SmallAccount(t0:GAccount):Option Bool:=
 qn (α:=Bool) (
  (same_SmallHousehold t0.Household).bind fun x1=>
  if x1=true then
   if(t0.Postings.length:Int)≤200 then
    some (decide ((t0.Appeals.length:Int)≤20))
   else
   some false
  else
  some false) fun j4=>
 some j4
def law43_small(t0:GLaw) (t1:GPayConfig) (t2:GAccount):Option Bool:=
 qn (α:=Bool) (
  (same_SmallLaw t0).bind fun x1=>
  if x1=true then
   (same_SmallConfig t1).bind fun x3=>
   if x3=true then
    (same_SmallAccount t2).bind fun x5=>
    some x5
   else
   some false
  else
  some false) fun j6=>
 some j6
def ref43_LastAllowed(t0:GPayConfig):Option Int:=
 if 3599<(wrapF .i64 ((wrapF .i64 (t0.FirstMonth+120))-1))then
  some 3599
 else
 some (wrapF .i64 ((wrapF .i64 (t0.FirstMonth+120))-1))
def ref37_signed(t0:GPosting):Option Int:=
 if t0.Kind=1 then
  some t0.Cents
 else
 qn (α:=Bool) (
  if t0.Kind=2 then
   some true
  else
  some (t0.Kind==3)) fun j3=>
 if j3=true then
  some (wrapF .i64 (0-t0.Cents))
 else
 some 0
def ref37_Received_L1(t0:List GPosting) (t1:Int):(Int×Int)→Option (Ex (Int×Int) Int Unit):=fun(s1,s2)=>
 if s2<(t0.length:Int)then
  qn (α:=Int) (
   (idx t0 s2).bind fun x4=>
   if x4.Month=t1 then
    (ref37_signed x4).bind fun x6=>
    some (wrapF .i64 (s1+x6))
   else
   some s1) fun j7=>
  some (Ex.go (j7,(wrapF .i64 (s2+1))))
 else
 some (Ex.brk s1)
def ref37_Received(t0:List GPosting) (t1:Int):Option Int:=
 (loopO (ref37_Received_L1 t0 t1) (0,0)).bind fun y=>match y with
 |.inr _=>none
 |.inl b10=>
 some b10
def ref37_Validate_L1(t0:List GPosting):Int→Option (Ex Int Unit (Int×Int)):=fun s2=>
 if s2<(t0.length:Int)then
  (idx t0 s2).bind fun x4=>
  qn (α:=Bool) (
   if¬x4.Date<0 then
    if¬109572<x4.Date then
     if¬x4.Month<0 then
      if¬3599<x4.Month then
       if¬x4.Cents<1 then
        some (decide (1000000000000000<x4.Cents))
       else
       some true
      else
      some true
     else
     some true
    else
    some true
   else
   some true) fun j10=>
  if j10=true then
   some (Ex.ret (s2,3))
  else
  qn (α:=Bool) (
   if¬x4.Kind<1 then
    some (decide (4<x4.Kind))
   else
   some true) fun j13=>
  if j13=true then
   some (Ex.ret (s2,1))
  else
  qn (α:=Bool) (
   if 0<s2 then
    (idx t0 (wrapF .i64 (s2-1))).bind fun x16=>
    some (decide (x4.Date<x16.Date))
   else
   some false) fun j17=>
  if j17=true then
   some (Ex.ret (s2,9))
  else
  (subh t0 (wrapF .i64 (s2+1))).bind fun x19=>
  (ref37_Received x19 x4.Month).bind fun x20=>
  if x20<0 then
   some (Ex.ret (s2,13))
  else
  some (Ex.go (wrapF .i64 (s2+1)))
 else
 some (Ex.brk ())
def ref37_Validate(t0:List GPosting):Option (Int×Int):=
 if 4096<(t0.length:Int)then
  some (4096,4)
 else
 (loopO (ref37_Validate_L1 t0) 0).bind fun y=>match y with
 |.inr v=>some v
 |.inl _=>
 some (0,0)
def ref37_Waived_L1(t0:List GPosting) (t1:Int):(Int×Int)→Option (Ex (Int×Int) Int Unit):=fun(s1,s2)=>
 if s2<(t0.length:Int)then
  qn (α:=Int) (
   qn (α:=Bool) (
    (idx t0 s2).bind fun x4=>
    if x4.Month=t1 then
     some (x4.Kind==4)
    else
    some false) fun j6=>
   if j6=true then
    (idx t0 s2).bind fun x8=>
    some (wrapF .i64 (s1+x8.Cents))
   else
   some s1) fun j9=>
  some (Ex.go (j9,(wrapF .i64 (s2+1))))
 else
 some (Ex.brk s1)
def ref37_Waived(t0:List GPosting) (t1:Int):Option Int:=
 (loopO (ref37_Waived_L1 t0 t1) (0,0)).bind fun y=>match y with
 |.inr _=>none
 |.inl b12=>
 some b12
def ref41_months(t0:Int) (t1:Int):Option Bool:=
 qn (α:=Bool) (
  if 0≤t0 then
   if t0<t1 then
    if t1≤3600 then
     some (decide ((wrapF .i64 (t1-t0))≤120))
    else
    some false
   else
   some false
  else
  some false) fun j4=>
 some j4
def ref41_Valid(t0:GAppeal):Option Bool:=
 qn (α:=Bool) (
  if¬t0.Id<0 then
   (ref41_months t0.From t0.To).bind fun x2=>
   if x2=true then
    if¬t0.Filed<0 then
     if¬t0.Deadline<t0.Filed then
      some (decide (109572<t0.Deadline))
     else
     some true
    else
    some true
   else
   some true
  else
  some true) fun j6=>
 if j6=true then
  some false
 else
 qn (α:=Bool) (
  if 1≤t0.State then
   if t0.State≤6 then
    if 0≤t0.Cents then
     if t0.Cents≤1000000000000000 then
      if¬t0.Cents=0 then
       some (t0.State==3)
      else
      some true
     else
     some false
    else
    some false
   else
   some false
  else
  some false) fun j13=>
 some j13
def ref43_late_L5(t0:GAccount):Int→Option (Ex Int Unit Bool):=fun s1=>
 if s1<(t0.Household.Facts.length:Int)then
  (idx t0.Household.Facts s1).bind fun x3=>
  if t0.Date<x3.Recorded then
   some (Ex.ret true)
  else
  some (Ex.go (wrapF .i64 (s1+1)))
 else
 some (Ex.brk ())
def ref43_late_L4(t0:GAccount):Int→Option (Ex Int Unit Bool):=fun s6=>
 if s6<(t0.Postings.length:Int)then
  (idx t0.Postings s6).bind fun x8=>
  if t0.Date<x8.Date then
   some (Ex.ret true)
  else
  some (Ex.go (wrapF .i64 (s6+1)))
 else
 some (Ex.brk ())
def ref43_late_L3(t0:GAccount):Int→Option (Ex Int Unit Bool):=fun s11=>
 if s11<(t0.Appeals.length:Int)then
  (idx t0.Appeals s11).bind fun x13=>
  if t0.Date<x13.Filed then
   some (Ex.ret true)
  else
  some (Ex.go (wrapF .i64 (s11+1)))
 else
 some (Ex.brk ())
def ref43_late(t0:GAccount):Option Bool:=
 (loopO (ref43_late_L5 t0) 0).bind fun y=>match y with
 |.inr v=>some v
 |.inl _=>
 (loopO (ref43_late_L4 t0) 0).bind fun y=>match y with
 |.inr v=>some v
 |.inl _=>
 (loopO (ref43_late_L3 t0) 0).bind fun y=>match y with
 |.inr v=>some v
 |.inl _=>
 some false
def ref43_Validate_L3(t1:GPayConfig) (t2:GAccount):Int→Option (Ex Int Unit Int):=fun s14=>
 if s14<(t2.Postings.length:Int)then
  (idx t2.Postings s14).bind fun x16=>
  qn (α:=Bool) (
   if¬x16.Month<t1.FirstMonth then
    if¬t2.LastMonth<x16.Month then
     (ref37_Received t2.Postings x16.Month).bind fun x19=>
     if¬1000000000000000<x19 then
      (ref37_Waived t2.Postings x16.Month).bind fun x21=>
      some (decide (1000000000000000<x21))
     else
     some true
    else
    some true
   else
   some true) fun j22=>
  if j22=true then
   some (Ex.ret 3)
  else
  some (Ex.go (wrapF .i64 (s14+1)))
 else
 some (Ex.brk ())
def ref43_Validate_L2(t2:GAccount):Int→Option (Ex Int Unit Int):=fun s26=>
 if s26<(t2.Appeals.length:Int)then
  qn (α:=Bool) (
   (idx t2.Appeals s26).bind fun x28=>
   (ref41_Valid x28).bind fun x29=>
   if x29=true then
    some (x28.Id !=s26)
   else
   some true) fun j31=>
  if j31=true then
   some (Ex.ret 13)
  else
  some (Ex.go (wrapF .i64 (s26+1)))
 else
 some (Ex.brk ())
def ref43_Validate(t0:GLaw) (t1:GPayConfig) (t2:GAccount):Option Int:=
 (ref36_ValidateConfig t0 t2.Household.Scope t1).bind fun x1=>
 if¬x1=0 then
  some 1
 else
 (ref35_Validate t0 t2.Household).bind fun x3=>
 if¬x3.2=0 then
  some x3.2
 else
 qn (α:=Bool) (
  if¬t2.Date<0 then
   if¬109572<t2.Date then
    if¬t2.LastMonth=(-1)then
     if¬t2.LastMonth<t1.FirstMonth then
      (ref43_LastAllowed t1).bind fun x9=>
      some (decide (x9<t2.LastMonth))
     else
     some true
    else
    some false
   else
   some true
  else
  some true) fun j10=>
 if j10=true then
  some 3
 else
 (ref37_Validate t2.Postings).bind fun x12=>
 if¬x12.2=0 then
  some x12.2
 else
 (loopO (ref43_Validate_L3 t1 t2) 0).bind fun y=>match y with
 |.inr v=>some v
 |.inl _=>
 if 16<(t2.Appeals.length:Int)then
  some 4
 else
 (loopO (ref43_Validate_L2 t2) 0).bind fun y=>match y with
 |.inr v=>some v
 |.inl _=>
 (ref43_late t2).bind fun x34=>
 if x34=true then
  some 9
 else
 some 0
def law43_AccountValidate(t0:GLaw) (t1:GPayConfig) (t2:GAccount):Option Bool:=
 (law43_small t0 t1 t2).bind fun x1=>
 if x1=false then
  (law43_awake).bind fun x3=>
  some x3
 else
 qn (α:=Bool) (
  (account_Validate t0 t1 t2).bind fun x4=>
  (ref43_Validate t0 t1 t2).bind fun x5=>
  if x4=x5 then
   (law43_awake).bind fun x7=>
   some x7
  else
  some false) fun j8=>
 some j8
end
end Go.Proofs.Dev
