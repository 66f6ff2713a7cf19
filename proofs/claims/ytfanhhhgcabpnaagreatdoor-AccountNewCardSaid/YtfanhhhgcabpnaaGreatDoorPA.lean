/-
  The functions as plain partial functions, and plain lemmas about them: no condition.
-/
import Derived.Test.YtfanhhhgcabpnaaGreatDoorEC
import Derived.Lib.SlicesCompact
set_option linter.all false
namespace Go.Tm
end Go.Tm
set_option maxHeartbeats 1000000
set_option maxRecDepth 10000
namespace Go.Proofs.Dev
open Go Go.Tm
def e_str (x:ByteArray):D:=.v (.string x)
instance:Fr e_str:=⟨fun x=>by simp only [e_str,idfree,idfrees,Fr.l,Bool.and_self,Bool.and_true]⟩
theorem e_str_q {x}:e_str x=.v (.string x):=Eq.trans rfl rfl
def e_s_str (x:List ByteArray):D:=.sl 1 (x.map e_str)
instance:Fr e_s_str:=⟨fun x=>Fr.s _ x⟩
theorem e_s_str_q {x}:e_s_str x=.sl 1 (x.map e_str):=Eq.trans rfl rfl
structure GEnum where
 Name:ByteArray
 Members:(List ByteArray)
def e_GEnum (x:GEnum):D:=.agg [.v (.string x.Name),.sl 1 (x.Members.map e_str)]
instance:Fr e_GEnum:=⟨fun x=>by simp only [e_GEnum,idfree,idfrees,Fr.l,Bool.and_self,Bool.and_true]⟩
theorem e_GEnum_q {x}:e_GEnum x=.agg [.v (.string x.Name),.sl 1 (x.Members.map e_str)]:=Eq.trans rfl rfl
def e_s_GEnum (x:List GEnum):D:=.sl 2 (x.map e_GEnum)
instance:Fr e_s_GEnum:=⟨fun x=>Fr.s _ x⟩
theorem e_s_GEnum_q {x}:e_s_GEnum x=.sl 2 (x.map e_GEnum):=Eq.trans rfl rfl
def e_i64 (x:Int):D:=.v (.int .i64 x)
instance:Fr e_i64:=⟨fun x=>by simp only [e_i64,idfree,idfrees,Fr.l,Bool.and_self,Bool.and_true]⟩
theorem e_i64_q {x}:e_i64 x=.v (.int .i64 x):=Eq.trans rfl rfl
structure GType where
 Kind:Int
 Enum:Int
def e_GType (x:GType):D:=.agg [.v (.int .i64 x.Kind),.v (.int .i64 x.Enum)]
instance:Fr e_GType:=⟨fun x=>by simp only [e_GType,idfree,idfrees,Fr.l,Bool.and_self,Bool.and_true]⟩
theorem e_GType_q {x}:e_GType x=.agg [.v (.int .i64 x.Kind),.v (.int .i64 x.Enum)]:=Eq.trans rfl rfl
structure GDateRange where
 From:Int
 To:Int
def e_GDateRange (x:GDateRange):D:=.agg [.v (.int .i64 x.From),.v (.int .i64 x.To)]
instance:Fr e_GDateRange:=⟨fun x=>by simp only [e_GDateRange,idfree,idfrees,Fr.l,Bool.and_self,Bool.and_true]⟩
theorem e_GDateRange_q {x}:e_GDateRange x=.agg [.v (.int .i64 x.From),.v (.int .i64 x.To)]:=Eq.trans rfl rfl
structure GRow where
 Valid:GDateRange
 Lo:Int
 Hi:Int
 N:Int
def e_GRow (x:GRow):D:=.agg [.v (.int .i64 x.Valid.From),.v (.int .i64 x.Valid.To),.v (.int .i64 x.Lo),.v (.int .i64 x.Hi),.v (.int .i64 x.N)]
instance:Fr e_GRow:=⟨fun x=>by simp only [e_GRow,idfree,idfrees,Fr.l,Bool.and_self,Bool.and_true]⟩
theorem e_GRow_q {x}:e_GRow x=.agg [.v (.int .i64 x.Valid.From),.v (.int .i64 x.Valid.To),.v (.int .i64 x.Lo),.v (.int .i64 x.Hi),.v (.int .i64 x.N)]:=Eq.trans rfl rfl
def e_s_GRow (x:List GRow):D:=.sl 5 (x.map e_GRow)
instance:Fr e_s_GRow:=⟨fun x=>Fr.s _ x⟩
theorem e_s_GRow_q {x}:e_s_GRow x=.sl 5 (x.map e_GRow):=Eq.trans rfl rfl
structure GTable where
 Name:ByteArray
 Key:GType
 Value:GType
 Rows:(List GRow)
def e_GTable (x:GTable):D:=.agg [.v (.string x.Name),.v (.int .i64 x.Key.Kind),.v (.int .i64 x.Key.Enum),.v (.int .i64 x.Value.Kind),.v (.int .i64 x.Value.Enum),.sl 5 (x.Rows.map e_GRow)]
instance:Fr e_GTable:=⟨fun x=>by simp only [e_GTable,idfree,idfrees,Fr.l,Bool.and_self,Bool.and_true]⟩
theorem e_GTable_q {x}:e_GTable x=.agg [.v (.string x.Name),.v (.int .i64 x.Key.Kind),.v (.int .i64 x.Key.Enum),.v (.int .i64 x.Value.Kind),.v (.int .i64 x.Value.Enum),.sl 5 (x.Rows.map e_GRow)]:=Eq.trans rfl rfl
def e_s_GTable (x:List GTable):D:=.sl 6 (x.map e_GTable)
instance:Fr e_s_GTable:=⟨fun x=>Fr.s _ x⟩
theorem e_s_GTable_q {x}:e_s_GTable x=.sl 6 (x.map e_GTable):=Eq.trans rfl rfl
structure GField where
 Name:ByteArray
 Type_:GType
def e_GField (x:GField):D:=.agg [.v (.string x.Name),.v (.int .i64 x.Type_.Kind),.v (.int .i64 x.Type_.Enum)]
instance:Fr e_GField:=⟨fun x=>by simp only [e_GField,idfree,idfrees,Fr.l,Bool.and_self,Bool.and_true]⟩
theorem e_GField_q {x}:e_GField x=.agg [.v (.string x.Name),.v (.int .i64 x.Type_.Kind),.v (.int .i64 x.Type_.Enum)]:=Eq.trans rfl rfl
def e_s_GField (x:List GField):D:=.sl 3 (x.map e_GField)
instance:Fr e_s_GField:=⟨fun x=>Fr.s _ x⟩
theorem e_s_GField_q {x}:e_s_GField x=.sl 3 (x.map e_GField):=Eq.trans rfl rfl
structure GNode where
 Op:Int
 N:Int
def e_GNode (x:GNode):D:=.agg [.v (.int .i64 x.Op),.v (.int .i64 x.N)]
instance:Fr e_GNode:=⟨fun x=>by simp only [e_GNode,idfree,idfrees,Fr.l,Bool.and_self,Bool.and_true]⟩
theorem e_GNode_q {x}:e_GNode x=.agg [.v (.int .i64 x.Op),.v (.int .i64 x.N)]:=Eq.trans rfl rfl
def e_s_GNode (x:List GNode):D:=.sl 2 (x.map e_GNode)
instance:Fr e_s_GNode:=⟨fun x=>Fr.s _ x⟩
theorem e_s_GNode_q {x}:e_s_GNode x=.sl 2 (x.map e_GNode):=Eq.trans rfl rfl
structure GRule where
 Name:ByteArray
 Def:Int
 Parent:Int
 Priority:Int
 Valid:GDateRange
 Guard:(List GNode)
 Value:(List GNode)
 Source:ByteArray
def e_GRule (x:GRule):D:=.agg [.v (.string x.Name),.v (.int .i64 x.Def),.v (.int .i64 x.Parent),.v (.int .i64 x.Priority),.v (.int .i64 x.Valid.From),.v (.int .i64 x.Valid.To),.sl 2 (x.Guard.map e_GNode),.sl 2 (x.Value.map e_GNode),.v (.string x.Source)]
instance:Fr e_GRule:=⟨fun x=>by simp only [e_GRule,idfree,idfrees,Fr.l,Bool.and_self,Bool.and_true]⟩
theorem e_GRule_q {x}:e_GRule x=.agg [.v (.string x.Name),.v (.int .i64 x.Def),.v (.int .i64 x.Parent),.v (.int .i64 x.Priority),.v (.int .i64 x.Valid.From),.v (.int .i64 x.Valid.To),.sl 2 (x.Guard.map e_GNode),.sl 2 (x.Value.map e_GNode),.v (.string x.Source)]:=Eq.trans rfl rfl
def e_s_GRule (x:List GRule):D:=.sl 9 (x.map e_GRule)
instance:Fr e_s_GRule:=⟨fun x=>Fr.s _ x⟩
theorem e_s_GRule_q {x}:e_s_GRule x=.sl 9 (x.map e_GRule):=Eq.trans rfl rfl
structure GScope where
 Name:ByteArray
 MemberScope:Int
 Inputs:(List GField)
 Defs:(List GField)
 Rules:(List GRule)
def e_GScope (x:GScope):D:=.agg [.v (.string x.Name),.v (.int .i64 x.MemberScope),.sl 3 (x.Inputs.map e_GField),.sl 3 (x.Defs.map e_GField),.sl 9 (x.Rules.map e_GRule)]
instance:Fr e_GScope:=⟨fun x=>by simp only [e_GScope,idfree,idfrees,Fr.l,Bool.and_self,Bool.and_true]⟩
theorem e_GScope_q {x}:e_GScope x=.agg [.v (.string x.Name),.v (.int .i64 x.MemberScope),.sl 3 (x.Inputs.map e_GField),.sl 3 (x.Defs.map e_GField),.sl 9 (x.Rules.map e_GRule)]:=Eq.trans rfl rfl
def e_s_GScope (x:List GScope):D:=.sl 5 (x.map e_GScope)
instance:Fr e_s_GScope:=⟨fun x=>Fr.s _ x⟩
theorem e_s_GScope_q {x}:e_s_GScope x=.sl 5 (x.map e_GScope):=Eq.trans rfl rfl
structure GLaw where
 Enums:(List GEnum)
 Tables:(List GTable)
 Scopes:(List GScope)
def e_GLaw (x:GLaw):D:=.agg [.sl 2 (x.Enums.map e_GEnum),.sl 6 (x.Tables.map e_GTable),.sl 5 (x.Scopes.map e_GScope)]
instance:Fr e_GLaw:=⟨fun x=>by simp only [e_GLaw,idfree,idfrees,Fr.l,Bool.and_self,Bool.and_true]⟩
theorem e_GLaw_q {x}:e_GLaw x=.agg [.sl 2 (x.Enums.map e_GEnum),.sl 6 (x.Tables.map e_GTable),.sl 5 (x.Scopes.map e_GScope)]:=Eq.trans rfl rfl
def e_s_i64 (x:List Int):D:=.sl 1 (x.map e_i64)
instance:Fr e_s_i64:=⟨fun x=>Fr.s _ x⟩
theorem e_s_i64_q {x}:e_s_i64 x=.sl 1 (x.map e_i64):=Eq.trans rfl rfl
structure GCalendar where
 Weekend:Int
 Holidays:(List Int)
def e_GCalendar (x:GCalendar):D:=.agg [.v (.int .i64 x.Weekend),.sl 1 (x.Holidays.map e_i64)]
instance:Fr e_GCalendar:=⟨fun x=>by simp only [e_GCalendar,idfree,idfrees,Fr.l,Bool.and_self,Bool.and_true]⟩
theorem e_GCalendar_q {x}:e_GCalendar x=.agg [.v (.int .i64 x.Weekend),.sl 1 (x.Holidays.map e_i64)]:=Eq.trans rfl rfl
structure GPayConfig where
 Def:Int
 Rounding:Int
 PayDay:Int
 RecoveryCap:Int
 RecoveryFloor:Int
 FirstMonth:Int
 AppealDays:Int
 Calendar:GCalendar
def e_GPayConfig (x:GPayConfig):D:=.agg [.v (.int .i64 x.Def),.v (.int .i64 x.Rounding),.v (.int .i64 x.PayDay),.v (.int .i64 x.RecoveryCap),.v (.int .i64 x.RecoveryFloor),.v (.int .i64 x.FirstMonth),.v (.int .i64 x.AppealDays),.v (.int .i64 x.Calendar.Weekend),.sl 1 (x.Calendar.Holidays.map e_i64)]
instance:Fr e_GPayConfig:=⟨fun x=>by simp only [e_GPayConfig,idfree,idfrees,Fr.l,Bool.and_self,Bool.and_true]⟩
theorem e_GPayConfig_q {x}:e_GPayConfig x=.agg [.v (.int .i64 x.Def),.v (.int .i64 x.Rounding),.v (.int .i64 x.PayDay),.v (.int .i64 x.RecoveryCap),.v (.int .i64 x.RecoveryFloor),.v (.int .i64 x.FirstMonth),.v (.int .i64 x.AppealDays),.v (.int .i64 x.Calendar.Weekend),.sl 1 (x.Calendar.Holidays.map e_i64)]:=Eq.trans rfl rfl
def e_bool (x:Bool):D:=.v (.bool x)
instance:Fr e_bool:=⟨fun x=>by simp only [e_bool,idfree,idfrees,Fr.l,Bool.and_self,Bool.and_true]⟩
theorem e_bool_q {x}:e_bool x=.v (.bool x):=Eq.trans rfl rfl
structure GLawError where
 Code:Int
 Section:Int
 Item:Int
 Element:Int
def e_GLawError (x:GLawError):D:=.agg [.v (.int .i64 x.Code),.v (.int .i64 x.Section),.v (.int .i64 x.Item),.v (.int .i64 x.Element)]
instance:Fr e_GLawError:=⟨fun x=>by simp only [e_GLawError,idfree,idfrees,Fr.l,Bool.and_self,Bool.and_true]⟩
theorem e_GLawError_q {x}:e_GLawError x=.agg [.v (.int .i64 x.Code),.v (.int .i64 x.Section),.v (.int .i64 x.Item),.v (.int .i64 x.Element)]:=Eq.trans rfl rfl
def e_u8 (x:Int):D:=.v (.int .u8 x)
instance:Fr e_u8:=⟨fun x=>by simp only [e_u8,idfree,idfrees,Fr.l,Bool.and_self,Bool.and_true]⟩
theorem e_u8_q {x}:e_u8 x=.v (.int .u8 x):=Eq.trans rfl rfl
def e_p_str (x:ByteArray):D:=.pt (e_str x)
instance:Fr e_p_str:=⟨fun x=>Fr.h (e:=e_str) x⟩
theorem e_p_str_q {x}:e_p_str x=.pt (e_str x):=Eq.trans rfl rfl
def e_p_GRow (x:GRow):D:=.pt (e_GRow x)
instance:Fr e_p_GRow:=⟨fun x=>Fr.h (e:=e_GRow) x⟩
theorem e_p_GRow_q {x}:e_p_GRow x=.pt (e_GRow x):=Eq.trans rfl rfl
def e_p_GScope (x:GScope):D:=.pt (e_GScope x)
instance:Fr e_p_GScope:=⟨fun x=>Fr.h (e:=e_GScope) x⟩
theorem e_p_GScope_q {x}:e_p_GScope x=.pt (e_GScope x):=Eq.trans rfl rfl
def e_s_GType (x:List GType):D:=.sl 2 (x.map e_GType)
instance:Fr e_s_GType:=⟨fun x=>Fr.s _ x⟩
theorem e_s_GType_q {x}:e_s_GType x=.sl 2 (x.map e_GType):=Eq.trans rfl rfl
structure GSignature where
 Enums:(List GEnum)
 Tables:(List GTable)
 Inputs:(List GType)
 Defs:(List GType)
 MemberDefs:(List GType)
 HasMembers:Bool
def e_GSignature (x:GSignature):D:=.agg [.sl 2 (x.Enums.map e_GEnum),.sl 6 (x.Tables.map e_GTable),.sl 2 (x.Inputs.map e_GType),.sl 2 (x.Defs.map e_GType),.sl 2 (x.MemberDefs.map e_GType),.v (.bool x.HasMembers)]
instance:Fr e_GSignature:=⟨fun x=>by simp only [e_GSignature,idfree,idfrees,Fr.l,Bool.and_self,Bool.and_true]⟩
theorem e_GSignature_q {x}:e_GSignature x=.agg [.sl 2 (x.Enums.map e_GEnum),.sl 6 (x.Tables.map e_GTable),.sl 2 (x.Inputs.map e_GType),.sl 2 (x.Defs.map e_GType),.sl 2 (x.MemberDefs.map e_GType),.v (.bool x.HasMembers)]:=Eq.trans rfl rfl
def e_p_GField (x:GField):D:=.pt (e_GField x)
instance:Fr e_p_GField:=⟨fun x=>Fr.h (e:=e_GField) x⟩
theorem e_p_GField_q {x}:e_p_GField x=.pt (e_GField x):=Eq.trans rfl rfl
def e_p_GRule (x:GRule):D:=.pt (e_GRule x)
instance:Fr e_p_GRule:=⟨fun x=>Fr.h (e:=e_GRule) x⟩
theorem e_p_GRule_q {x}:e_p_GRule x=.pt (e_GRule x):=Eq.trans rfl rfl
def e_s_s_i64 (x:List (List Int)):D:=.sl 1 (x.map e_s_i64)
instance:Fr e_s_s_i64:=⟨fun x=>Fr.s _ x⟩
theorem e_s_s_i64_q {x}:e_s_s_i64 x=.sl 1 (x.map e_s_i64):=Eq.trans rfl rfl
structure GValue where
 Kind:Int
 Enum:Int
 N:Int
def e_GValue (x:GValue):D:=.agg [.v (.int .i64 x.Kind),.v (.int .i64 x.Enum),.v (.int .i64 x.N)]
instance:Fr e_GValue:=⟨fun x=>by simp only [e_GValue,idfree,idfrees,Fr.l,Bool.and_self,Bool.and_true]⟩
theorem e_GValue_q {x}:e_GValue x=.agg [.v (.int .i64 x.Kind),.v (.int .i64 x.Enum),.v (.int .i64 x.N)]:=Eq.trans rfl rfl
structure GFact where
 Id:Int
 Member:Int
 Input:Int
 Value:GValue
 Valid:GDateRange
 Recorded:Int
def e_GFact (x:GFact):D:=.agg [.v (.int .i64 x.Id),.v (.int .i64 x.Member),.v (.int .i64 x.Input),.v (.int .i64 x.Value.Kind),.v (.int .i64 x.Value.Enum),.v (.int .i64 x.Value.N),.v (.int .i64 x.Valid.From),.v (.int .i64 x.Valid.To),.v (.int .i64 x.Recorded)]
instance:Fr e_GFact:=⟨fun x=>by simp only [e_GFact,idfree,idfrees,Fr.l,Bool.and_self,Bool.and_true]⟩
theorem e_GFact_q {x}:e_GFact x=.agg [.v (.int .i64 x.Id),.v (.int .i64 x.Member),.v (.int .i64 x.Input),.v (.int .i64 x.Value.Kind),.v (.int .i64 x.Value.Enum),.v (.int .i64 x.Value.N),.v (.int .i64 x.Valid.From),.v (.int .i64 x.Valid.To),.v (.int .i64 x.Recorded)]:=Eq.trans rfl rfl
def e_s_GFact (x:List GFact):D:=.sl 9 (x.map e_GFact)
instance:Fr e_s_GFact:=⟨fun x=>Fr.s _ x⟩
theorem e_s_GFact_q {x}:e_s_GFact x=.sl 9 (x.map e_GFact):=Eq.trans rfl rfl
structure GHousehold where
 Id:Int
 Scope:Int
 Members:Int
 Facts:(List GFact)
def e_GHousehold (x:GHousehold):D:=.agg [.v (.int .i64 x.Id),.v (.int .i64 x.Scope),.v (.int .i64 x.Members),.sl 9 (x.Facts.map e_GFact)]
instance:Fr e_GHousehold:=⟨fun x=>by simp only [e_GHousehold,idfree,idfrees,Fr.l,Bool.and_self,Bool.and_true]⟩
theorem e_GHousehold_q {x}:e_GHousehold x=.agg [.v (.int .i64 x.Id),.v (.int .i64 x.Scope),.v (.int .i64 x.Members),.sl 9 (x.Facts.map e_GFact)]:=Eq.trans rfl rfl
structure GPosting where
 Date:Int
 Month:Int
 Kind:Int
 Cents:Int
def e_GPosting (x:GPosting):D:=.agg [.v (.int .i64 x.Date),.v (.int .i64 x.Month),.v (.int .i64 x.Kind),.v (.int .i64 x.Cents)]
instance:Fr e_GPosting:=⟨fun x=>by simp only [e_GPosting,idfree,idfrees,Fr.l,Bool.and_self,Bool.and_true]⟩
theorem e_GPosting_q {x}:e_GPosting x=.agg [.v (.int .i64 x.Date),.v (.int .i64 x.Month),.v (.int .i64 x.Kind),.v (.int .i64 x.Cents)]:=Eq.trans rfl rfl
def e_s_GPosting (x:List GPosting):D:=.sl 4 (x.map e_GPosting)
instance:Fr e_s_GPosting:=⟨fun x=>Fr.s _ x⟩
theorem e_s_GPosting_q {x}:e_s_GPosting x=.sl 4 (x.map e_GPosting):=Eq.trans rfl rfl
structure GAppeal where
 Id:Int
 From:Int
 To:Int
 Filed:Int
 Deadline:Int
 State:Int
 Cents:Int
def e_GAppeal (x:GAppeal):D:=.agg [.v (.int .i64 x.Id),.v (.int .i64 x.From),.v (.int .i64 x.To),.v (.int .i64 x.Filed),.v (.int .i64 x.Deadline),.v (.int .i64 x.State),.v (.int .i64 x.Cents)]
instance:Fr e_GAppeal:=⟨fun x=>by simp only [e_GAppeal,idfree,idfrees,Fr.l,Bool.and_self,Bool.and_true]⟩
theorem e_GAppeal_q {x}:e_GAppeal x=.agg [.v (.int .i64 x.Id),.v (.int .i64 x.From),.v (.int .i64 x.To),.v (.int .i64 x.Filed),.v (.int .i64 x.Deadline),.v (.int .i64 x.State),.v (.int .i64 x.Cents)]:=Eq.trans rfl rfl
def e_s_GAppeal (x:List GAppeal):D:=.sl 7 (x.map e_GAppeal)
instance:Fr e_s_GAppeal:=⟨fun x=>Fr.s _ x⟩
theorem e_s_GAppeal_q {x}:e_s_GAppeal x=.sl 7 (x.map e_GAppeal):=Eq.trans rfl rfl
structure GAccount where
 Household:GHousehold
 Postings:(List GPosting)
 Appeals:(List GAppeal)
 Date:Int
 LastMonth:Int
def e_GAccount (x:GAccount):D:=.agg [.v (.int .i64 x.Household.Id),.v (.int .i64 x.Household.Scope),.v (.int .i64 x.Household.Members),.sl 9 (x.Household.Facts.map e_GFact),.sl 4 (x.Postings.map e_GPosting),.sl 7 (x.Appeals.map e_GAppeal),.v (.int .i64 x.Date),.v (.int .i64 x.LastMonth)]
instance:Fr e_GAccount:=⟨fun x=>by simp only [e_GAccount,idfree,idfrees,Fr.l,Bool.and_self,Bool.and_true]⟩
theorem e_GAccount_q {x}:e_GAccount x=.agg [.v (.int .i64 x.Household.Id),.v (.int .i64 x.Household.Scope),.v (.int .i64 x.Household.Members),.sl 9 (x.Household.Facts.map e_GFact),.sl 4 (x.Postings.map e_GPosting),.sl 7 (x.Appeals.map e_GAppeal),.v (.int .i64 x.Date),.v (.int .i64 x.LastMonth)]:=Eq.trans rfl rfl
def ze:=(And.intro (And.intro (And.intro (And.intro (And.intro (And.intro @e_str_q @e_s_str_q) (And.intro @e_GEnum_q @e_s_GEnum_q)) (And.intro (And.intro @e_i64_q @e_GType_q) (And.intro @e_GDateRange_q @e_GRow_q))) (And.intro (And.intro (And.intro @e_s_GRow_q @e_GTable_q) (And.intro @e_s_GTable_q @e_GField_q)) (And.intro (And.intro @e_s_GField_q @e_GNode_q) (And.intro @e_s_GNode_q @e_GRule_q)))) (And.intro (And.intro (And.intro (And.intro @e_s_GRule_q @e_GScope_q) (And.intro @e_s_GScope_q @e_GLaw_q)) (And.intro (And.intro @e_s_i64_q @e_GCalendar_q) (And.intro @e_GPayConfig_q @e_bool_q))) (And.intro (And.intro (And.intro @e_GLawError_q @e_u8_q) (And.intro @e_p_str_q @e_p_GRow_q)) (And.intro (And.intro @e_p_GScope_q @e_s_GType_q) (And.intro @e_GSignature_q @e_p_GField_q))))) (And.intro (And.intro (And.intro (And.intro @e_p_GRule_q @e_s_s_i64_q) (And.intro @e_GValue_q @e_GFact_q)) (And.intro (And.intro @e_s_GFact_q @e_GHousehold_q) (And.intro @e_GPosting_q @e_s_GPosting_q))) (And.intro (And.intro @e_GAppeal_q @e_s_GAppeal_q) @e_GAccount_q)))
theorem zz:type_of% (And.intro @zx @ze):=And.intro @zx @ze
theorem zg:type_of% (And.intro @zq @ze):=And.intro @zq @ze
theorem tz {N:Nat}{s S:St}(ρ:Org) (h:SqL (Sq ρ s.m 9) s.t S.t∧EtQ ρ s.m ρ S.m:=by first|(simp only [zg];done)|(simp only [zg, *];done)) (hk:keepB ρ N=true:=by rfl) (h3:(ρ.filterMap (·.1)).Nodup:=by decide):Tells N s S:=Tells.q ρ hk h3 h
theorem ez {rs:List RV}{o:D}{s:St}(h:endF (ressD s rs) s.m o:=by simp only [zz,zr];exact fq (by first|(simp only [zg];done)|(simp only [zg, *];done))):EndF rs o .ret s:=er h
end Go.Proofs.Dev
namespace Go.Proofs.Dev
open Go Go.Tm
noncomputable section
def strings_Contains (t0:ByteArray) (t1:ByteArray):Option Bool:=
 if t1.size=1 then some (t0.data.toList.contains (t1.data.toList.headD 0))else none
def same_SmallHousehold (t0:GHousehold):Option Bool:=
 some (decide ((t0.Facts.length:Int)≤40))
def law43_awake:Option Bool:=some true
def same_Postings_L1 (t0:List GPosting) (t1:List GPosting):Int→Option (Ex Int Unit Bool):=fun s2=>
 Option.bind (α:=Bool) (
  if s2<(t0.length:Int)then
   some (decide (s2<(t1.length:Int)))
  else
  some false) fun j4=>
 if j4=true then
  (idx t0 s2).bind fun x6=>
  (idx t1 s2).bind fun x7=>
  if¬(x6.Date=x7.Date∧x6.Month=x7.Month∧x6.Kind=x7.Kind∧x6.Cents=x7.Cents)then
   some (Ex.ret false)
  else
  some (Ex.go (wrapF .i64 (s2+1)))
 else
 some (Ex.brk ())
def same_Postings (t0:List GPosting) (t1:List GPosting):Option Bool:=
 if¬(t0.length:Int)=(t1.length:Int)then
  some false
 else
 (loopO (same_Postings_L1 t0 t1) 0).bind fun y=>match y with
 |.inr v=>some v
 |.inl _=>
 some true
def same_Facts_L1 (t0:List GFact) (t1:List GFact):Int→Option (Ex Int Unit Bool):=fun s2=>
 Option.bind (α:=Bool) (
  if s2<(t0.length:Int)then
   some (decide (s2<(t1.length:Int)))
  else
  some false) fun j4=>
 if j4=true then
  (idx t0 s2).bind fun x6=>
  (idx t1 s2).bind fun x7=>
  if¬(x6.Id=x7.Id∧x6.Member=x7.Member∧x6.Input=x7.Input∧x6.Value.Kind=x7.Value.Kind∧x6.Value.Enum=x7.Value.Enum∧x6.Value.N=x7.Value.N∧x6.Valid.From=x7.Valid.From∧x6.Valid.To=x7.Valid.To∧x6.Recorded=x7.Recorded)then
   some (Ex.ret false)
  else
  some (Ex.go (wrapF .i64 (s2+1)))
 else
 some (Ex.brk ())
def same_Facts (t0:List GFact) (t1:List GFact):Option Bool:=
 if¬(t0.length:Int)=(t1.length:Int)then
  some false
 else
 (loopO (same_Facts_L1 t0 t1) 0).bind fun y=>match y with
 |.inr v=>some v
 |.inl _=>
 some true
def same_Household (t0:GHousehold) (t1:GHousehold):Option Bool:=
 Option.bind (α:=Bool) (
  if t0.Id=t1.Id then
   if t0.Scope=t1.Scope then
    if t0.Members=t1.Members then
     (same_Facts t0.Facts t1.Facts).bind fun x4=>
     some x4
    else
    some false
   else
   some false
  else
  some false) fun j5=>
 some j5
def same_Appeals_L1 (t0:List GAppeal) (t1:List GAppeal):Int→Option (Ex Int Unit Bool):=fun s2=>
 Option.bind (α:=Bool) (
  if s2<(t0.length:Int)then
   some (decide (s2<(t1.length:Int)))
  else
  some false) fun j4=>
 if j4=true then
  (idx t0 s2).bind fun x6=>
  (idx t1 s2).bind fun x7=>
  if¬(x6.Id=x7.Id∧x6.From=x7.From∧x6.To=x7.To∧x6.Filed=x7.Filed∧x6.Deadline=x7.Deadline∧x6.State=x7.State∧x6.Cents=x7.Cents)then
   some (Ex.ret false)
  else
  some (Ex.go (wrapF .i64 (s2+1)))
 else
 some (Ex.brk ())
def same_Appeals (t0:List GAppeal) (t1:List GAppeal):Option Bool:=
 if¬(t0.length:Int)=(t1.length:Int)then
  some false
 else
 (loopO (same_Appeals_L1 t0 t1) 0).bind fun y=>match y with
 |.inr v=>some v
 |.inl _=>
 some true
def same_Account (t0:GAccount) (t1:GAccount):Option Bool:=
 Option.bind (α:=Bool) (
  (same_Household t0.Household t1.Household).bind fun x1=>
  if x1=true then
   (same_Postings t0.Postings t1.Postings).bind fun x3=>
   if x3=true then
    (same_Appeals t0.Appeals t1.Appeals).bind fun x5=>
    if x5=true then
     if t0.Date=t1.Date then
      some (t0.LastMonth==t1.LastMonth)
     else
     some false
    else
    some false
   else
   some false
  else
  some false) fun j8=>
 some j8
def slices_Clone_api_Fact_api_Fact (t0:List GFact):Option (List GFact):=if t0.length≤1099511627776 then some t0 else none
def account_New_L1 (x1:List GFact):(Int×Int)→Option (Ex (Int×Int) Int Unit):=fun(s2,s3)=>
 if s3<(x1.length:Int)then
  (idx x1 s3).bind fun x5=>
  some (Ex.go ((max s2 x5.Recorded),(wrapF .i64 (s3+1))))
 else
 some (Ex.brk s2)
def account_New (t0:GHousehold):Option GAccount:=
 (slices_Clone_api_Fact_api_Fact t0.Facts).bind fun x1=>
 (loopO (account_New_L1 x1) (0,0)).bind fun y=>match y with
 |.inr _=>none
 |.inl b8=>
 some (GAccount.mk (GHousehold.mk t0.Id t0.Scope t0.Members x1) ([]) ([]) b8 (-1))
def ref43_New_L1 (t0:GHousehold):(Int×Int)→Option (Ex (Int×Int) Int Unit):=fun(s1,s2)=>
 if s2<(t0.Facts.length:Int)then
  Option.bind (α:=Int) (
   (idx t0.Facts s2).bind fun x4=>
   if s1<x4.Recorded then
    some x4.Recorded
   else
   some s1) fun j6=>
  some (Ex.go (j6,(wrapF .i64 (s2+1))))
 else
 some (Ex.brk s1)
def ref43_New (t0:GHousehold):Option GAccount:=
 (loopO (ref43_New_L1 t0) (0,0)).bind fun y=>match y with
 |.inr _=>none
 |.inl b9=>
 some (GAccount.mk t0 ([]) ([]) b9 (-1))
def law43_AccountNew (t0:GHousehold):Option Bool:=
 (same_SmallHousehold t0).bind fun x1=>
 if x1=false then
  (law43_awake).bind fun x3=>
  some x3
 else
 Option.bind (α:=Bool) (
  (account_New t0).bind fun x4=>
  (ref43_New t0).bind fun x5=>
  (same_Account x4 x5).bind fun x6=>
  if x6=true then
   (law43_awake).bind fun x8=>
   some x8
  else
  some false) fun j9=>
 some j9
end
end Go.Proofs.Dev
