/-
  The functions as plain partial functions, and plain lemmas about them: no condition.
-/
import Derived.Test.YtkmalfincghanaaGreatDoorEC
import Derived.Lib.SlicesCompact
set_option linter.all false
namespace Go.Tm
def insS:List Int→Int→List Int
 |[],n=>[n]
 |x::l,n=>if n≤x then (if n<x then n::x::l else x::l)else x::insS l n
def dsort (l:List Int):List Int:=l.foldl insS []
end Go.Tm
set_option maxHeartbeats 1000000
set_option maxRecDepth 10000
namespace Go.Proofs.Dev
open Go Go.Tm
def e_str (x:ByteArray):D:=.v (.string x)
instance:Fr e_str:=⟨fun x=>by simp only [e_str,idfree,idfrees,Fr.l,Bool.and_self,Bool.and_true]⟩
theorem e_str_q {x}:e_str x=.v (.string x):=Eq.trans rfl rfl
def e_s_str (x:List ByteArray):D:=.sl 1 (x.map e_str)
instance:Fr e_s_str:=⟨fun x=>Fr.s _ x⟩
theorem e_s_str_q {x}:e_s_str x=.sl 1 (x.map e_str):=Eq.trans rfl rfl
structure GEnum where
 Name:ByteArray
 Members:(List ByteArray)
def e_GEnum (x:GEnum):D:=.agg [.v (.string x.Name),.sl 1 (x.Members.map e_str)]
instance:Fr e_GEnum:=⟨fun x=>by simp only [e_GEnum,idfree,idfrees,Fr.l,Bool.and_self,Bool.and_true]⟩
theorem e_GEnum_q {x}:e_GEnum x=.agg [.v (.string x.Name),.sl 1 (x.Members.map e_str)]:=Eq.trans rfl rfl
def e_s_GEnum (x:List GEnum):D:=.sl 2 (x.map e_GEnum)
instance:Fr e_s_GEnum:=⟨fun x=>Fr.s _ x⟩
theorem e_s_GEnum_q {x}:e_s_GEnum x=.sl 2 (x.map e_GEnum):=Eq.trans rfl rfl
def e_i64 (x:Int):D:=.v (.int .i64 x)
instance:Fr e_i64:=⟨fun x=>by simp only [e_i64,idfree,idfrees,Fr.l,Bool.and_self,Bool.and_true]⟩
theorem e_i64_q {x}:e_i64 x=.v (.int .i64 x):=Eq.trans rfl rfl
structure GType where
 Kind:Int
 Enum:Int
def e_GType (x:GType):D:=.agg [.v (.int .i64 x.Kind),.v (.int .i64 x.Enum)]
instance:Fr e_GType:=⟨fun x=>by simp only [e_GType,idfree,idfrees,Fr.l,Bool.and_self,Bool.and_true]⟩
theorem e_GType_q {x}:e_GType x=.agg [.v (.int .i64 x.Kind),.v (.int .i64 x.Enum)]:=Eq.trans rfl rfl
structure GDateRange where
 From:Int
 To:Int
def e_GDateRange (x:GDateRange):D:=.agg [.v (.int .i64 x.From),.v (.int .i64 x.To)]
instance:Fr e_GDateRange:=⟨fun x=>by simp only [e_GDateRange,idfree,idfrees,Fr.l,Bool.and_self,Bool.and_true]⟩
theorem e_GDateRange_q {x}:e_GDateRange x=.agg [.v (.int .i64 x.From),.v (.int .i64 x.To)]:=Eq.trans rfl rfl
structure GRow where
 Valid:GDateRange
 Lo:Int
 Hi:Int
 N:Int
def e_GRow (x:GRow):D:=.agg [.v (.int .i64 x.Valid.From),.v (.int .i64 x.Valid.To),.v (.int .i64 x.Lo),.v (.int .i64 x.Hi),.v (.int .i64 x.N)]
instance:Fr e_GRow:=⟨fun x=>by simp only [e_GRow,idfree,idfrees,Fr.l,Bool.and_self,Bool.and_true]⟩
theorem e_GRow_q {x}:e_GRow x=.agg [.v (.int .i64 x.Valid.From),.v (.int .i64 x.Valid.To),.v (.int .i64 x.Lo),.v (.int .i64 x.Hi),.v (.int .i64 x.N)]:=Eq.trans rfl rfl
def e_s_GRow (x:List GRow):D:=.sl 5 (x.map e_GRow)
instance:Fr e_s_GRow:=⟨fun x=>Fr.s _ x⟩
theorem e_s_GRow_q {x}:e_s_GRow x=.sl 5 (x.map e_GRow):=Eq.trans rfl rfl
structure GTable where
 Name:ByteArray
 Key:GType
 Value:GType
 Rows:(List GRow)
def e_GTable (x:GTable):D:=.agg [.v (.string x.Name),.v (.int .i64 x.Key.Kind),.v (.int .i64 x.Key.Enum),.v (.int .i64 x.Value.Kind),.v (.int .i64 x.Value.Enum),.sl 5 (x.Rows.map e_GRow)]
instance:Fr e_GTable:=⟨fun x=>by simp only [e_GTable,idfree,idfrees,Fr.l,Bool.and_self,Bool.and_true]⟩
theorem e_GTable_q {x}:e_GTable x=.agg [.v (.string x.Name),.v (.int .i64 x.Key.Kind),.v (.int .i64 x.Key.Enum),.v (.int .i64 x.Value.Kind),.v (.int .i64 x.Value.Enum),.sl 5 (x.Rows.map e_GRow)]:=Eq.trans rfl rfl
def e_s_GTable (x:List GTable):D:=.sl 6 (x.map e_GTable)
instance:Fr e_s_GTable:=⟨fun x=>Fr.s _ x⟩
theorem e_s_GTable_q {x}:e_s_GTable x=.sl 6 (x.map e_GTable):=Eq.trans rfl rfl
structure GField where
 Name:ByteArray
 Type_:GType
def e_GField (x:GField):D:=.agg [.v (.string x.Name),.v (.int .i64 x.Type_.Kind),.v (.int .i64 x.Type_.Enum)]
instance:Fr e_GField:=⟨fun x=>by simp only [e_GField,idfree,idfrees,Fr.l,Bool.and_self,Bool.and_true]⟩
theorem e_GField_q {x}:e_GField x=.agg [.v (.string x.Name),.v (.int .i64 x.Type_.Kind),.v (.int .i64 x.Type_.Enum)]:=Eq.trans rfl rfl
def e_s_GField (x:List GField):D:=.sl 3 (x.map e_GField)
instance:Fr e_s_GField:=⟨fun x=>Fr.s _ x⟩
theorem e_s_GField_q {x}:e_s_GField x=.sl 3 (x.map e_GField):=Eq.trans rfl rfl
structure GNode where
 Op:Int
 N:Int
def e_GNode (x:GNode):D:=.agg [.v (.int .i64 x.Op),.v (.int .i64 x.N)]
instance:Fr e_GNode:=⟨fun x=>by simp only [e_GNode,idfree,idfrees,Fr.l,Bool.and_self,Bool.and_true]⟩
theorem e_GNode_q {x}:e_GNode x=.agg [.v (.int .i64 x.Op),.v (.int .i64 x.N)]:=Eq.trans rfl rfl
def e_s_GNode (x:List GNode):D:=.sl 2 (x.map e_GNode)
instance:Fr e_s_GNode:=⟨fun x=>Fr.s _ x⟩
theorem e_s_GNode_q {x}:e_s_GNode x=.sl 2 (x.map e_GNode):=Eq.trans rfl rfl
structure GRule where
 Name:ByteArray
 Def:Int
 Parent:Int
 Priority:Int
 Valid:GDateRange
 Guard:(List GNode)
 Value:(List GNode)
 Source:ByteArray
def e_GRule (x:GRule):D:=.agg [.v (.string x.Name),.v (.int .i64 x.Def),.v (.int .i64 x.Parent),.v (.int .i64 x.Priority),.v (.int .i64 x.Valid.From),.v (.int .i64 x.Valid.To),.sl 2 (x.Guard.map e_GNode),.sl 2 (x.Value.map e_GNode),.v (.string x.Source)]
instance:Fr e_GRule:=⟨fun x=>by simp only [e_GRule,idfree,idfrees,Fr.l,Bool.and_self,Bool.and_true]⟩
theorem e_GRule_q {x}:e_GRule x=.agg [.v (.string x.Name),.v (.int .i64 x.Def),.v (.int .i64 x.Parent),.v (.int .i64 x.Priority),.v (.int .i64 x.Valid.From),.v (.int .i64 x.Valid.To),.sl 2 (x.Guard.map e_GNode),.sl 2 (x.Value.map e_GNode),.v (.string x.Source)]:=Eq.trans rfl rfl
def e_s_GRule (x:List GRule):D:=.sl 9 (x.map e_GRule)
instance:Fr e_s_GRule:=⟨fun x=>Fr.s _ x⟩
theorem e_s_GRule_q {x}:e_s_GRule x=.sl 9 (x.map e_GRule):=Eq.trans rfl rfl
structure GScope where
 Name:ByteArray
 MemberScope:Int
 Inputs:(List GField)
 Defs:(List GField)
 Rules:(List GRule)
def e_GScope (x:GScope):D:=.agg [.v (.string x.Name),.v (.int .i64 x.MemberScope),.sl 3 (x.Inputs.map e_GField),.sl 3 (x.Defs.map e_GField),.sl 9 (x.Rules.map e_GRule)]
instance:Fr e_GScope:=⟨fun x=>by simp only [e_GScope,idfree,idfrees,Fr.l,Bool.and_self,Bool.and_true]⟩
theorem e_GScope_q {x}:e_GScope x=.agg [.v (.string x.Name),.v (.int .i64 x.MemberScope),.sl 3 (x.Inputs.map e_GField),.sl 3 (x.Defs.map e_GField),.sl 9 (x.Rules.map e_GRule)]:=Eq.trans rfl rfl
def e_s_GScope (x:List GScope):D:=.sl 5 (x.map e_GScope)
instance:Fr e_s_GScope:=⟨fun x=>Fr.s _ x⟩
theorem e_s_GScope_q {x}:e_s_GScope x=.sl 5 (x.map e_GScope):=Eq.trans rfl rfl
structure GLaw where
 Enums:(List GEnum)
 Tables:(List GTable)
 Scopes:(List GScope)
def e_GLaw (x:GLaw):D:=.agg [.sl 2 (x.Enums.map e_GEnum),.sl 6 (x.Tables.map e_GTable),.sl 5 (x.Scopes.map e_GScope)]
instance:Fr e_GLaw:=⟨fun x=>by simp only [e_GLaw,idfree,idfrees,Fr.l,Bool.and_self,Bool.and_true]⟩
theorem e_GLaw_q {x}:e_GLaw x=.agg [.sl 2 (x.Enums.map e_GEnum),.sl 6 (x.Tables.map e_GTable),.sl 5 (x.Scopes.map e_GScope)]:=Eq.trans rfl rfl
structure GValue where
 Kind:Int
 Enum:Int
 N:Int
def e_GValue (x:GValue):D:=.agg [.v (.int .i64 x.Kind),.v (.int .i64 x.Enum),.v (.int .i64 x.N)]
instance:Fr e_GValue:=⟨fun x=>by simp only [e_GValue,idfree,idfrees,Fr.l,Bool.and_self,Bool.and_true]⟩
theorem e_GValue_q {x}:e_GValue x=.agg [.v (.int .i64 x.Kind),.v (.int .i64 x.Enum),.v (.int .i64 x.N)]:=Eq.trans rfl rfl
structure GFact where
 Id:Int
 Member:Int
 Input:Int
 Value:GValue
 Valid:GDateRange
 Recorded:Int
def e_GFact (x:GFact):D:=.agg [.v (.int .i64 x.Id),.v (.int .i64 x.Member),.v (.int .i64 x.Input),.v (.int .i64 x.Value.Kind),.v (.int .i64 x.Value.Enum),.v (.int .i64 x.Value.N),.v (.int .i64 x.Valid.From),.v (.int .i64 x.Valid.To),.v (.int .i64 x.Recorded)]
instance:Fr e_GFact:=⟨fun x=>by simp only [e_GFact,idfree,idfrees,Fr.l,Bool.and_self,Bool.and_true]⟩
theorem e_GFact_q {x}:e_GFact x=.agg [.v (.int .i64 x.Id),.v (.int .i64 x.Member),.v (.int .i64 x.Input),.v (.int .i64 x.Value.Kind),.v (.int .i64 x.Value.Enum),.v (.int .i64 x.Value.N),.v (.int .i64 x.Valid.From),.v (.int .i64 x.Valid.To),.v (.int .i64 x.Recorded)]:=Eq.trans rfl rfl
def e_s_GFact (x:List GFact):D:=.sl 9 (x.map e_GFact)
instance:Fr e_s_GFact:=⟨fun x=>Fr.s _ x⟩
theorem e_s_GFact_q {x}:e_s_GFact x=.sl 9 (x.map e_GFact):=Eq.trans rfl rfl
structure GHousehold where
 Id:Int
 Scope:Int
 Members:Int
 Facts:(List GFact)
def e_GHousehold (x:GHousehold):D:=.agg [.v (.int .i64 x.Id),.v (.int .i64 x.Scope),.v (.int .i64 x.Members),.sl 9 (x.Facts.map e_GFact)]
instance:Fr e_GHousehold:=⟨fun x=>by simp only [e_GHousehold,idfree,idfrees,Fr.l,Bool.and_self,Bool.and_true]⟩
theorem e_GHousehold_q {x}:e_GHousehold x=.agg [.v (.int .i64 x.Id),.v (.int .i64 x.Scope),.v (.int .i64 x.Members),.sl 9 (x.Facts.map e_GFact)]:=Eq.trans rfl rfl
def e_bool (x:Bool):D:=.v (.bool x)
instance:Fr e_bool:=⟨fun x=>by simp only [e_bool,idfree,idfrees,Fr.l,Bool.and_self,Bool.and_true]⟩
theorem e_bool_q {x}:e_bool x=.v (.bool x):=Eq.trans rfl rfl
def e_s_GDateRange (x:List GDateRange):D:=.sl 2 (x.map e_GDateRange)
instance:Fr e_s_GDateRange:=⟨fun x=>Fr.s _ x⟩
theorem e_s_GDateRange_q {x}:e_s_GDateRange x=.sl 2 (x.map e_GDateRange):=Eq.trans rfl rfl
def e_s_i64 (x:List Int):D:=.sl 1 (x.map e_i64)
instance:Fr e_s_i64:=⟨fun x=>Fr.s _ x⟩
theorem e_s_i64_q {x}:e_s_i64 x=.sl 1 (x.map e_i64):=Eq.trans rfl rfl
structure GLawError where
 Code:Int
 Section:Int
 Item:Int
 Element:Int
def e_GLawError (x:GLawError):D:=.agg [.v (.int .i64 x.Code),.v (.int .i64 x.Section),.v (.int .i64 x.Item),.v (.int .i64 x.Element)]
instance:Fr e_GLawError:=⟨fun x=>by simp only [e_GLawError,idfree,idfrees,Fr.l,Bool.and_self,Bool.and_true]⟩
theorem e_GLawError_q {x}:e_GLawError x=.agg [.v (.int .i64 x.Code),.v (.int .i64 x.Section),.v (.int .i64 x.Item),.v (.int .i64 x.Element)]:=Eq.trans rfl rfl
def e_u8 (x:Int):D:=.v (.int .u8 x)
instance:Fr e_u8:=⟨fun x=>by simp only [e_u8,idfree,idfrees,Fr.l,Bool.and_self,Bool.and_true]⟩
theorem e_u8_q {x}:e_u8 x=.v (.int .u8 x):=Eq.trans rfl rfl
def e_p_str (x:ByteArray):D:=.pt (e_str x)
instance:Fr e_p_str:=⟨fun x=>Fr.h (e:=e_str) x⟩
theorem e_p_str_q {x}:e_p_str x=.pt (e_str x):=Eq.trans rfl rfl
def e_p_GRow (x:GRow):D:=.pt (e_GRow x)
instance:Fr e_p_GRow:=⟨fun x=>Fr.h (e:=e_GRow) x⟩
theorem e_p_GRow_q {x}:e_p_GRow x=.pt (e_GRow x):=Eq.trans rfl rfl
def e_p_GScope (x:GScope):D:=.pt (e_GScope x)
instance:Fr e_p_GScope:=⟨fun x=>Fr.h (e:=e_GScope) x⟩
theorem e_p_GScope_q {x}:e_p_GScope x=.pt (e_GScope x):=Eq.trans rfl rfl
def e_s_GType (x:List GType):D:=.sl 2 (x.map e_GType)
instance:Fr e_s_GType:=⟨fun x=>Fr.s _ x⟩
theorem e_s_GType_q {x}:e_s_GType x=.sl 2 (x.map e_GType):=Eq.trans rfl rfl
structure GSignature where
 Enums:(List GEnum)
 Tables:(List GTable)
 Inputs:(List GType)
 Defs:(List GType)
 MemberDefs:(List GType)
 HasMembers:Bool
def e_GSignature (x:GSignature):D:=.agg [.sl 2 (x.Enums.map e_GEnum),.sl 6 (x.Tables.map e_GTable),.sl 2 (x.Inputs.map e_GType),.sl 2 (x.Defs.map e_GType),.sl 2 (x.MemberDefs.map e_GType),.v (.bool x.HasMembers)]
instance:Fr e_GSignature:=⟨fun x=>by simp only [e_GSignature,idfree,idfrees,Fr.l,Bool.and_self,Bool.and_true]⟩
theorem e_GSignature_q {x}:e_GSignature x=.agg [.sl 2 (x.Enums.map e_GEnum),.sl 6 (x.Tables.map e_GTable),.sl 2 (x.Inputs.map e_GType),.sl 2 (x.Defs.map e_GType),.sl 2 (x.MemberDefs.map e_GType),.v (.bool x.HasMembers)]:=Eq.trans rfl rfl
def e_s_s_i64 (x:List (List Int)):D:=.sl 1 (x.map e_s_i64)
instance:Fr e_s_s_i64:=⟨fun x=>Fr.s _ x⟩
theorem e_s_s_i64_q {x}:e_s_s_i64 x=.sl 1 (x.map e_s_i64):=Eq.trans rfl rfl
def e_p_GField (x:GField):D:=.pt (e_GField x)
instance:Fr e_p_GField:=⟨fun x=>Fr.h (e:=e_GField) x⟩
theorem e_p_GField_q {x}:e_p_GField x=.pt (e_GField x):=Eq.trans rfl rfl
def e_p_GRule (x:GRule):D:=.pt (e_GRule x)
instance:Fr e_p_GRule:=⟨fun x=>Fr.h (e:=e_GRule) x⟩
theorem e_p_GRule_q {x}:e_p_GRule x=.pt (e_GRule x):=Eq.trans rfl rfl
def ze:=(And.intro (And.intro (And.intro (And.intro (And.intro (And.intro @e_str_q @e_s_str_q) (And.intro @e_GEnum_q @e_s_GEnum_q)) (And.intro (And.intro @e_i64_q @e_GType_q) (And.intro @e_GDateRange_q @e_GRow_q))) (And.intro (And.intro (And.intro @e_s_GRow_q @e_GTable_q) (And.intro @e_s_GTable_q @e_GField_q)) (And.intro (And.intro @e_s_GField_q @e_GNode_q) (And.intro @e_s_GNode_q @e_GRule_q)))) (And.intro (And.intro (And.intro (And.intro @e_s_GRule_q @e_GScope_q) (And.intro @e_s_GScope_q @e_GLaw_q)) (And.intro (And.intro @e_GValue_q @e_GFact_q) (And.intro @e_s_GFact_q @e_GHousehold_q))) (And.intro (And.intro (And.intro @e_bool_q @e_s_GDateRange_q) (And.intro @e_s_i64_q @e_GLawError_q)) (And.intro (And.intro @e_u8_q @e_p_str_q) (And.intro @e_p_GRow_q @e_p_GScope_q))))) (And.intro (And.intro (And.intro @e_s_GType_q @e_GSignature_q) (And.intro @e_s_s_i64_q @e_p_GField_q)) @e_p_GRule_q))
theorem zz:type_of% (And.intro @zx @ze):=And.intro @zx @ze
theorem zg:type_of% (And.intro @zq @ze):=And.intro @zq @ze
theorem ez {rs:List RV}{o:D}{s:St}(h:endF (ressD s rs) s.m o:=by simp only [zz,zr];exact fq (by first|(simp only [zg];done)|(simp only [zg, *];done)|(simp only [zg, *,List.drop_zero,Nat.zero_add,List.length_map];done))):EndF rs o .ret s:=er h
instance:Enc (List (List Int)) e_s_s_i64:=⟨trivial⟩
instance:Enc (List ByteArray) e_s_str:=⟨trivial⟩
instance:Enc (List GDateRange) e_s_GDateRange:=⟨trivial⟩
instance:Enc (List GEnum) e_s_GEnum:=⟨trivial⟩
instance:Enc (List GFact) e_s_GFact:=⟨trivial⟩
instance:Enc (List GField) e_s_GField:=⟨trivial⟩
instance:Enc (List GNode) e_s_GNode:=⟨trivial⟩
instance:Enc (List GRow) e_s_GRow:=⟨trivial⟩
instance:Enc (List GRule) e_s_GRule:=⟨trivial⟩
instance:Enc (List GScope) e_s_GScope:=⟨trivial⟩
instance:Enc (List GTable) e_s_GTable:=⟨trivial⟩
instance:Enc (List GType) e_s_GType:=⟨trivial⟩
instance:Enc (List Int) e_s_i64:=⟨trivial⟩
instance:Enc Bool e_bool:=⟨trivial⟩
instance:Enc ByteArray e_str:=⟨trivial⟩
instance:Enc GDateRange e_GDateRange:=⟨trivial⟩
instance:Enc GEnum e_GEnum:=⟨trivial⟩
instance:Enc GFact e_GFact:=⟨trivial⟩
instance:Enc GField e_GField:=⟨trivial⟩
instance:Enc GHousehold e_GHousehold:=⟨trivial⟩
instance:Enc GLaw e_GLaw:=⟨trivial⟩
instance:Enc GLawError e_GLawError:=⟨trivial⟩
instance:Enc GNode e_GNode:=⟨trivial⟩
instance:Enc GRow e_GRow:=⟨trivial⟩
instance:Enc GRule e_GRule:=⟨trivial⟩
instance:Enc GScope e_GScope:=⟨trivial⟩
instance:Enc GSignature e_GSignature:=⟨trivial⟩
instance:Enc GTable e_GTable:=⟨trivial⟩
instance:Enc GType e_GType:=⟨trivial⟩
instance:Enc GValue e_GValue:=⟨trivial⟩
instance:Enc Int e_i64:=⟨trivial⟩
end Go.Proofs.Dev
namespace Go.Proofs.Dev
open Go Go.Tm
noncomputable section
def law36_awake:Option Bool:=some true
def same_smallScope_L5 (t0:GScope):Int→Option (Ex Int Unit Bool):=fun s6=>
 if s6<(t0.Inputs.length:Int)then
  (idx t0.Inputs s6).bind fun x8=>
  if 80<(x8.Name.size:Int)then
   some (Ex.ret false)
  else
  some (Ex.go (wrapF .i64 (s6+1)))
 else
 some (Ex.brk ())
def same_smallScope_L4 (t0:GScope):Int→Option (Ex Int Unit Bool):=fun s11=>
 if s11<(t0.Defs.length:Int)then
  (idx t0.Defs s11).bind fun x13=>
  if 80<(x13.Name.size:Int)then
   some (Ex.ret false)
  else
  some (Ex.go (wrapF .i64 (s11+1)))
 else
 some (Ex.brk ())
def same_smallScope_L3 (t0:GScope):Int→Option (Ex Int Unit Bool):=fun s16=>
 if s16<(t0.Rules.length:Int)then
  (idx t0.Rules s16).bind fun x18=>
  Option.bind (α:=Bool) (
   if¬80<(x18.Name.size:Int)then
    if¬80<(x18.Source.size:Int)then
     if¬50<(x18.Guard.length:Int)then
      some (decide (50<(x18.Value.length:Int)))
     else
     some true
    else
    some true
   else
   some true) fun j22=>
  if j22=true then
   some (Ex.ret false)
  else
  some (Ex.go (wrapF .i64 (s16+1)))
 else
 some (Ex.brk ())
def same_smallScope (t0:GScope):Option Bool:=
 Option.bind (α:=Bool) (
  if¬80<(t0.Name.size:Int)then
   if¬14<(t0.Inputs.length:Int)then
    if¬14<(t0.Defs.length:Int)then
     some (decide (60<(t0.Rules.length:Int)))
    else
    some true
   else
   some true
  else
  some true) fun j4=>
 if j4=true then
  some false
 else
 (loopO (same_smallScope_L5 t0) 0).bind fun y=>match y with
 |.inr v=>some v
 |.inl _=>
 (loopO (same_smallScope_L4 t0) 0).bind fun y=>match y with
 |.inr v=>some v
 |.inl _=>
 (loopO (same_smallScope_L3 t0) 0).bind fun y=>match y with
 |.inr v=>some v
 |.inl _=>
 some true
def same_SmallLaw_L8 (t0:GLaw) (s5:Int):Int→Option (Ex Int Unit (Ex Int Unit Bool)):=fun s11=>
 (idx t0.Enums s5).bind fun x12=>
 if s11<(x12.Members.length:Int)then
  (idx x12.Members s11).bind fun x14=>
  if 80<(x14.size:Int)then
   some (Ex.ret (Ex.ret false))
  else
  some (Ex.go (wrapF .i64 (s11+1)))
 else
 some (Ex.brk ())
def same_SmallLaw_L13 (t0:GLaw):Int→Option (Ex Int Unit Bool):=fun s5=>
 if s5<(t0.Enums.length:Int)then
  Option.bind (α:=Bool) (
   (idx t0.Enums s5).bind fun x7=>
   if¬80<(x7.Name.size:Int)then
    some (decide (20<(x7.Members.length:Int)))
   else
   some true) fun j9=>
  if j9=true then
   some (Ex.ret false)
  else
  (loopO (same_SmallLaw_L8 t0 s5) 0).bind fun y=>match y with
  |.inr v=>some v
  |.inl _=>
  some (Ex.go (wrapF .i64 (s5+1)))
 else
 some (Ex.brk ())
def same_SmallLaw_L12 (t0:GLaw):(Int×Int)→Option (Ex (Int×Int) Unit Bool):=fun(s18,s19)=>
 if s19<(t0.Tables.length:Int)then
  (idx t0.Tables s19).bind fun x21=>
  Option.bind (α:=Bool) (
   if¬80<(x21.Name.size:Int)then
    some (decide (150<(wrapF .i64 (s18+(x21.Rows.length:Int)))))
   else
   some true) fun j23=>
  if j23=true then
   some (Ex.ret false)
  else
  some (Ex.go ((wrapF .i64 (s18+(x21.Rows.length:Int))),(wrapF .i64 (s19+1))))
 else
 some (Ex.brk ())
def same_SmallLaw_L11 (t0:GLaw):(Int×Int)→Option (Ex (Int×Int) Unit Bool):=fun(s27,s28)=>
 if s28<(t0.Scopes.length:Int)then
  (idx t0.Scopes s28).bind fun x30=>
  Option.bind (α:=Bool) (
   if¬60<(wrapF .i64 (s27+(x30.Rules.length:Int)))then
    (same_smallScope x30).bind fun x32=>
    some (!x32)
   else
   some true) fun j33=>
  if j33=true then
   some (Ex.ret false)
  else
  some (Ex.go ((wrapF .i64 (s27+(x30.Rules.length:Int))),(wrapF .i64 (s28+1))))
 else
 some (Ex.brk ())
def same_SmallLaw (t0:GLaw):Option Bool:=
 Option.bind (α:=Bool) (
  if¬9<(t0.Enums.length:Int)then
   if¬9<(t0.Tables.length:Int)then
    some (decide (5<(t0.Scopes.length:Int)))
   else
   some true
  else
  some true) fun j3=>
 if j3=true then
  some false
 else
 (loopO (same_SmallLaw_L13 t0) 0).bind fun y=>match y with
 |.inr v=>some v
 |.inl _=>
 (loopO (same_SmallLaw_L12 t0) (0,0)).bind fun y=>match y with
 |.inr v=>some v
 |.inl _=>
 (loopO (same_SmallLaw_L11 t0) (0,0)).bind fun y=>match y with
 |.inr v=>some v
 |.inl _=>
 some true
def same_SmallHousehold (t0:GHousehold):Option Bool:=
 some (decide ((t0.Facts.length:Int)≤40))
def same_DateRanges_L1 (t0:List GDateRange) (t1:List GDateRange):Int→Option (Ex Int Unit Bool):=fun s2=>
 Option.bind (α:=Bool) (
  if s2<(t0.length:Int)then
   some (decide (s2<(t1.length:Int)))
  else
  some false) fun j4=>
 if j4=true then
  (idx t0 s2).bind fun x6=>
  (idx t1 s2).bind fun x7=>
  if¬(x6.From=x7.From∧x6.To=x7.To)then
   some (Ex.ret false)
  else
  some (Ex.go (wrapF .i64 (s2+1)))
 else
 some (Ex.brk ())
def same_DateRanges (t0:List GDateRange) (t1:List GDateRange):Option Bool:=
 if¬(t0.length:Int)=(t1.length:Int)then
  some false
 else
 (loopO (same_DateRanges_L1 t0 t1) 0).bind fun y=>match y with
 |.inr v=>some v
 |.inl _=>
 some true
def month_valid (t0:Int):Option Bool:=
 Option.bind (α:=Bool) (
  if 0≤t0 then
   some (decide (t0≤3599))
  else
  some false) fun j2=>
 some j2
def date_IsLeap (t0:Int):Option Bool:=
 Option.bind (α:=Bool) (
  if (Int.tmod t0 4)=0 then
   if (Int.tmod t0 100)=0 then
    some ((Int.tmod t0 400)==0)
   else
   some true
  else
  some false) fun j3=>
 some j3
def date_DaysInMonth (t0:Int) (t1:Int):Option Int:=
 Option.bind (α:=Bool) (
  if¬t1<1 then
   some (decide (12<t1))
  else
  some true) fun j2=>
 if j2=true then
  some 0
 else
 Option.bind (α:=Bool) (
  if t1=2 then
   (date_IsLeap t0).bind fun x5=>
   some x5
  else
  some false) fun j6=>
 if j6=true then
  some 29
 else
 (idx mL (wrapF .i64 (t1-1))).bind fun x8=>
 some x8
def date_leapYears (t0:Int):Option Int:=
 some (wrapF .i64 ((wrapF .i64 ((wrapF .i64 (Int.tdiv t0 4))-(wrapF .i64 (Int.tdiv t0 100))))+(wrapF .i64 (Int.tdiv t0 400))))
def date_yearStart (t0:Int):Option Int:=
 (date_leapYears (wrapF .i64 (t0-1))).bind fun x1=>
 (date_leapYears 1899).bind fun x2=>
 some (wrapF .i64 ((wrapF .i64 ((wrapF .i64 ((wrapF .i64 (t0-1900))*365))+x1))-x2))
def date_FromYMD_L1 (t0:Int) (t1:Int):(Int×Int)→Option (Ex (Int×Int) Int Unit):=fun(s10,s11)=>
 if s11<(wrapF .i64 (t1-1))then
  (date_DaysInMonth t0 (wrapF .i64 (s11+1))).bind fun x13=>
  some (Ex.go ((wrapF .i64 (s10+x13)),(wrapF .i64 (s11+1))))
 else
 some (Ex.brk s10)
def date_FromYMD (t0:Int) (t1:Int) (t2:Int):Option (Int×Int):=
 Option.bind (α:=Bool) (
  if¬t0<1900 then
   if¬2199<t0 then
    if¬t1<1 then
     if¬12<t1 then
      if¬t2<1 then
       (date_DaysInMonth t0 t1).bind fun x6=>
       some (decide (x6<t2))
      else
      some true
     else
     some true
    else
    some true
   else
   some true
  else
  some true) fun j7=>
 if j7=true then
  some (0,3)
 else
 (date_yearStart t0).bind fun x9=>
 (loopO (date_FromYMD_L1 t0 t1) (x9,0)).bind fun y=>match y with
 |.inr _=>none
 |.inl b16=>
 some ((wrapF .i64 ((wrapF .i64 (b16+t2))-1)),0)
def month_Days (t0:Int):Option Int:=
 (month_valid t0).bind fun x1=>
 if x1=false then
  some 0
 else
 (date_DaysInMonth (wrapF .i64 (1900+(wrapF .i64 (Int.tdiv t0 12)))) (wrapF .i64 ((Int.tmod t0 12)+1))).bind fun x3=>
 some x3
def month_Range (t0:Int):Option (GDateRange×Int):=
 (month_valid t0).bind fun x1=>
 if x1=false then
  some ((GDateRange.mk 0 0),3)
 else
 (date_FromYMD (wrapF .i64 (1900+(wrapF .i64 (Int.tdiv t0 12)))) (wrapF .i64 ((Int.tmod t0 12)+1)) 1).bind fun x3=>
 if¬x3.2=0 then
  some ((GDateRange.mk 0 0),x3.2)
 else
 (month_Days t0).bind fun x5=>
 some ((GDateRange.mk x3.1 (wrapF .i64 (x3.1+x5))),0)
def cmp_isNaN_int (t0:Int):Option Bool:=
 some false
def cmp_Less_int (t0:Int) (t1:Int):Option Bool:=
 Option.bind (α:=Bool) (
  (cmp_isNaN_int t0).bind fun x1=>
  if x1=true then
   (cmp_isNaN_int t1).bind fun x3=>
   if x3=true then
    some (decide (t0<t1))
   else
   some true
  else
  some (decide (t0<t1))) fun j5=>
 some j5
def slices_isNaN_int (t0:Int):Option Bool:=
 some false
def slices_BinarySearch_int_int_L1 (t0:List Int) (t1:Int):(Int×Int)→Option (Ex (Int×Int) Int Unit):=fun(s1,s2)=>
 if s1<s2 then
  (idx t0 (wrapF .i64 (Int.fdiv (wrapF .u64 (wrapF .i64 (s1+s2))) 2))).bind fun x4=>
  (cmp_Less_int x4 t1).bind fun x5=>
  if x5=true then
   some (Ex.go ((wrapF .i64 ((wrapF .i64 (Int.fdiv (wrapF .u64 (wrapF .i64 (s1+s2))) 2))+1)),s2))
  else
  some (Ex.go (s1,(wrapF .i64 (Int.fdiv (wrapF .u64 (wrapF .i64 (s1+s2))) 2))))
 else
 some (Ex.brk s1)
def slices_BinarySearch_int_int (t0:List Int) (t1:Int):Option (Int×Bool):=
 (loopO (slices_BinarySearch_int_int_L1 t0 t1) (0,(t0.length:Int))).bind fun y=>match y with
 |.inr _=>none
 |.inl b9=>
 Option.bind (α:=Bool) (
  if b9<(t0.length:Int)then
   (idx t0 b9).bind fun x11=>
   if¬x11=t1 then
    (slices_isNaN_int x11).bind fun x13=>
    if x13=true then
     (slices_isNaN_int t1).bind fun x15=>
     some x15
    else
    some false
   else
   some true
  else
  some false) fun j16=>
 some (b9,j16)
def award_divide_L1 (t0:GDateRange) (t1:List Int):(Int×(List GDateRange)×Int)→Option (Ex (Int×(List GDateRange)×Int) (Int×(List GDateRange)) Unit):=fun(s2,s3,s4)=>
 Option.bind (α:=Bool) (
  if s4<(t1.length:Int)then
   (idx t1 s4).bind fun x6=>
   some (decide (x6<t0.To))
  else
  some false) fun j7=>
 if j7=true then
  (idx t1 s4).bind fun x9=>
  (app 16 s3 ([(GDateRange.mk s2 x9)])).bind fun x10=>
  some (Ex.go (x9,x10,(wrapF .i64 (s4+1))))
 else
 some (Ex.brk (s2,s3))
def award_divide (t0:GDateRange) (t1:List Int):Option (List GDateRange):=
 (slices_BinarySearch_int_int t1 (wrapF .i64 (t0.From+1))).bind fun x1=>
 (loopO (award_divide_L1 t0 t1) (t0.From,([]:List GDateRange),x1.1)).bind fun y=>match y with
 |.inr _=>none
 |.inl (b14,b15)=>
 (app 16 b15 ([(GDateRange.mk b14 t0.To)])).bind fun x16=>
 some x16
def daterange_Valid (t0:GDateRange):Option Bool:=
 Option.bind (α:=Bool) (
  if 0≤t0.From then
   if t0.From≤t0.To then
    some (decide (t0.To≤109573))
   else
   some false
  else
  some false) fun j3=>
 some j3
def facts_nonempty (t0:GDateRange):Option Bool:=
 Option.bind (α:=Bool) (
  (daterange_Valid t0).bind fun x1=>
  if x1=true then
   some (decide (t0.From<t0.To))
  else
  some false) fun j3=>
 some j3
def slices_Sort_int_int (t0:List Int):Option (List Int):=if t0.length≤8796093022208 then some (t0.mergeSort fun x y=>decide (x≤y))else none
def slices_Compact_int_int (t0:List Int):Option (List Int):=if t0.length≤8796093022208 then some (Go.Lib.compact t0)else none
def daterange_hasDate (t0:GDateRange):Option Bool:=
 Option.bind (α:=Bool) (
  (daterange_Valid t0).bind fun x1=>
  if x1=true then
   some (decide (t0.From<t0.To))
  else
  some false) fun j3=>
 some j3
def daterange_Boundaries_L1 (t0:List GDateRange):((List Int)×Int)→Option (Ex ((List Int)×Int) (List Int) Unit):=fun(s1,s2)=>
 if s2<(t0.length:Int)then
  Option.bind (α:=(List Int)) (
   (idx t0 s2).bind fun x4=>
   (daterange_hasDate x4).bind fun x5=>
   if x5=true then
    (app 8 s1 ([x4.From,x4.To])).bind fun x7=>
    some x7
   else
   some s1) fun j8=>
  some (Ex.go (j8,(wrapF .i64 (s2+1))))
 else
 some (Ex.brk s1)
def daterange_Boundaries (t0:List GDateRange):Option (List Int):=
 (loopO (daterange_Boundaries_L1 t0) (([]:List Int),0)).bind fun y=>match y with
 |.inr _=>none
 |.inl b11=>
 (slices_Sort_int_int b11).bind fun x12=>
 (slices_Compact_int_int x12).bind fun x13=>
 some x13
def facts_ChangeDates_L3 (t0:List GFact) (t1:Int):((List GDateRange)×Int)→Option (Ex ((List GDateRange)×Int) (List GDateRange) Unit):=fun(s1,s2)=>
 if s2<(t0.length:Int)then
  Option.bind (α:=(List GDateRange)) (
   (idx t0 s2).bind fun x4=>
   Option.bind (α:=Bool) (
    if x4.Recorded≤t1 then
     (facts_nonempty x4.Valid).bind fun x6=>
     some x6
    else
    some false) fun j7=>
   if j7=true then
    (app 16 s1 ([x4.Valid])).bind fun x9=>
    some x9
   else
   some s1) fun j10=>
  some (Ex.go (j10,(wrapF .i64 (s2+1))))
 else
 some (Ex.brk s1)
def facts_ChangeDates_L2 (x14:List Int):((List Int)×Int)→Option (Ex ((List Int)×Int) (List Int) Unit):=fun(s15,s16)=>
 if s16<(x14.length:Int)then
  Option.bind (α:=(List Int)) (
   (idx x14 s16).bind fun x18=>
   Option.bind (α:=Bool) (
    if 1≤x18 then
     some (decide (x18≤109572))
    else
    some false) fun j20=>
   if j20=true then
    (app 8 s15 ([x18])).bind fun x22=>
    some x22
   else
   some s15) fun j23=>
  some (Ex.go (j23,(wrapF .i64 (s16+1))))
 else
 some (Ex.brk s15)
def facts_ChangeDates (t0:List GFact) (t1:Int):Option (List Int):=
 (loopO (facts_ChangeDates_L3 t0 t1) (([]:List GDateRange),0)).bind fun y=>match y with
 |.inr _=>none
 |.inl b13=>
 (daterange_Boundaries b13).bind fun x14=>
 (loopO (facts_ChangeDates_L2 x14) (([]:List Int),0)).bind fun y=>match y with
 |.inr _=>none
 |.inl b26=>
 some b26
def effective_ChangeDates_c1 (t0:Int):Option Bool:=
 Option.bind (α:=Bool) (
  if¬t0<1 then
   some (decide (109572<t0))
  else
  some true) fun j2=>
 some j2
def effective_ChangeDates_L8 (x4:GTable):((List GDateRange)×Int)→Option (Ex ((List GDateRange)×Int) (List GDateRange) Unit):=fun(s5,s6)=>
 if s6<(x4.Rows.length:Int)then
  (idx x4.Rows s6).bind fun x8=>
  (app 16 s5 ([x8.Valid])).bind fun x9=>
  some (Ex.go (x9,(wrapF .i64 (s6+1))))
 else
 some (Ex.brk s5)
def effective_ChangeDates_L35 (t0:GLaw):((List GDateRange)×Int)→Option (Ex ((List GDateRange)×Int) (List GDateRange) Unit):=fun(s1,s2)=>
 if s2<(t0.Tables.length:Int)then
  (idx t0.Tables s2).bind fun x4=>
  (loopO (effective_ChangeDates_L8 x4) (s1,0)).bind fun y=>match y with
  |.inr _=>none
  |.inl b12=>
  some (Ex.go (b12,(wrapF .i64 (s2+1))))
 else
 some (Ex.brk s1)
def effective_ChangeDates_L17 (x19:GScope):((List GDateRange)×Int)→Option (Ex ((List GDateRange)×Int) (List GDateRange) Unit):=fun(s20,s21)=>
 if s21<(x19.Rules.length:Int)then
  (idx x19.Rules s21).bind fun x23=>
  (app 16 s20 ([x23.Valid])).bind fun x24=>
  some (Ex.go (x24,(wrapF .i64 (s21+1))))
 else
 some (Ex.brk s20)
def effective_ChangeDates_L34 (t0:GLaw):((List GDateRange)×Int)→Option (Ex ((List GDateRange)×Int) (List GDateRange) Unit):=fun(s16,s17)=>
 if s17<(t0.Scopes.length:Int)then
  (idx t0.Scopes s17).bind fun x19=>
  (loopO (effective_ChangeDates_L17 x19) (s16,0)).bind fun y=>match y with
  |.inr _=>none
  |.inl b27=>
  some (Ex.go (b27,(wrapF .i64 (s17+1))))
 else
 some (Ex.brk s16)
def effective_ChangeDates_L27 (b30:List GDateRange):((List Int)×Int)→Option (Ex ((List Int)×Int) (List Int) Unit):=fun(s31,s32)=>
 if s32<(b30.length:Int)then
  Option.bind (α:=(List Int)) (
   (idx b30 s32).bind fun x34=>
   (daterange_hasDate x34).bind fun x35=>
   if x35=true then
    (app 8 s31 ([x34.From,x34.To])).bind fun x37=>
    some x37
   else
   some s31) fun j38=>
  some (Ex.go (j38,(wrapF .i64 (s32+1))))
 else
 some (Ex.brk s31)
def effective_ChangeDates_I4 (b30:List GDateRange):Option (List Int):=
 (loopO (effective_ChangeDates_L27 b30) (([]:List Int),0)).bind fun y=>match y with
 |.inr _=>none
 |.inl b41=>
 (slices_Sort_int_int b41).bind fun x42=>
 (slices_Compact_int_int x42).bind fun x43=>
 some x43
def effective_ChangeDates_L31 (i44:List Int):Int→Option (Ex Int Unit Int):=fun s45=>
 if s45<(i44.length:Int)then
  (idx i44 s45).bind fun x47=>
  (effective_ChangeDates_c1 x47).bind fun x48=>
  if x48=true then
   some (Ex.ret s45)
  else
  some (Ex.go (wrapF .i64 (s45+1)))
 else
 some (Ex.brk ())
def effective_ChangeDates_I6 (i44:List Int):Option Int:=
 (loopO (effective_ChangeDates_L31 i44) 0).bind fun y=>match y with
 |.inr v=>some v
 |.inl _=>
 some (-1)
def effective_ChangeDates_L33  : ((List Int)×Int×Int)→Option (Ex ((List Int)×Int×Int) ((List Int)×Int) Unit):=fun(s53,s54,s55)=>
 if s55<(s53.length:Int)then
  Option.bind (α:=((List Int)×Int)) (
   (idx s53 s55).bind fun x57=>
   (effective_ChangeDates_c1 x57).bind fun x58=>
   if x58=false then
    (idx s53 s54).bind fun x60=>
    (put s53 s54 x57).bind fun x61=>
    some (x61,(wrapF .i64 (s54+1)))
   else
   some (s53,s54)) fun(j62,j63)=>
  some (Ex.go (j62,j63,(wrapF .i64 (s55+1))))
 else
 some (Ex.brk (s53,s54))
def effective_ChangeDates_I7 (i44:List Int):Option ((List Int)×(List Int)):=
 (effective_ChangeDates_I6 i44).bind fun i51=>
 if i51=(-1)then
  some (i44,i44)
 else
 (loopO effective_ChangeDates_L33 (i44,i51,(wrapF .i64 (i51+1)))).bind fun y=>match y with
 |.inr _=>none
 |.inl (b67,b68)=>
 (subl b67 b68).bind fun x69=>
 (clrO b67 b68 x69 0).bind fun x70=>
 (subh x70 b68).bind fun x71=>
 some (x70,x71)
def effective_ChangeDates (t0:GLaw):Option (List Int):=
 (loopO (effective_ChangeDates_L35 t0) (([]:List GDateRange),0)).bind fun y=>match y with
 |.inr _=>none
 |.inl b15=>
 (loopO (effective_ChangeDates_L34 t0) (b15,0)).bind fun y=>match y with
 |.inr _=>none
 |.inl b30=>
 (effective_ChangeDates_I4 b30).bind fun i44=>
 (effective_ChangeDates_I7 i44).bind fun(i72,i73)=>
 some i73
def award_changeDates_L7 (x3:(List (List Int))):(Int×Int)→Option (Ex (Int×Int) Int Unit):=fun(s4,s5)=>
 if s5<(x3.length:Int)then
  (idx x3 s5).bind fun x7=>
  if (wrapF .i64 (s4+(x7.length:Int)))<0 then
   none
  else
  some (Ex.go ((wrapF .i64 (s4+(x7.length:Int))),(wrapF .i64 (s5+1))))
 else
 some (Ex.brk s4)
def award_changeDates_I4 (b11:Int):Option (List Int):=
 if b11<0 then
  none
 else
 Option.bind (α:=(List Int)) (
  if 0<(wrapF .i64 (b11-(wrapF .i64 (0-0))))then
   (mka 8 0 (wrapF .i64 (b11-(wrapF .i64 (0-0))))).bind fun x14=>
   (subh x14 0).bind fun x15=>
   some x15
  else
  some ([]:List Int)) fun j16=>
 some j16
def award_changeDates_L6 (x3:(List (List Int))):((List Int)×Int)→Option (Ex ((List Int)×Int) (List Int) Unit):=fun(s18,s19)=>
 if s19<(x3.length:Int)then
  (idx x3 s19).bind fun x21=>
  (app 8 s18 x21).bind fun x22=>
  some (Ex.go (x22,(wrapF .i64 (s19+1))))
 else
 some (Ex.brk s18)
def award_changeDates_I5 (x3:(List (List Int))):Option (List Int):=
 (loopO (award_changeDates_L7 x3) (0,0)).bind fun y=>match y with
 |.inr _=>none
 |.inl b11=>
 (award_changeDates_I4 b11).bind fun i17=>
 (loopO (award_changeDates_L6 x3) (i17,0)).bind fun y=>match y with
 |.inr _=>none
 |.inl b25=>
 some b25
def award_changeDates (t0:GLaw) (t1:GHousehold) (t2:Int):Option (List Int):=
 (facts_ChangeDates t1.Facts t2).bind fun x1=>
 (effective_ChangeDates t0).bind fun x2=>
 (lst [x1,x2]).bind fun x3=>
 (award_changeDates_I5 x3).bind fun i26=>
 (slices_Sort_int_int i26).bind fun x27=>
 (slices_Compact_int_int x27).bind fun x28=>
 some x28
def award_Pieces (t0:GLaw) (t1:GHousehold) (t2:Int) (t3:Int):Option (List GDateRange):=
 (month_Range t2).bind fun x1=>
 if¬x1.2=0 then
  some ([])
 else
 (award_changeDates t0 t1 t3).bind fun x3=>
 (award_divide x1.1 x3).bind fun x4=>
 some x4
def ref05_Valid (t0:GDateRange):Option Bool:=
 Option.bind (α:=Bool) (
  if 0≤t0.From then
   if t0.From≤t0.To then
    some (decide (t0.To≤109573))
   else
   some false
  else
  some false) fun j3=>
 some j3
def ref34_nonempty (t0:GDateRange):Option Bool:=
 Option.bind (α:=Bool) (
  (ref05_Valid t0).bind fun x1=>
  if x1=true then
   some (decide (t0.From<t0.To))
  else
  some false) fun j3=>
 some j3
def ref34_insert_L1 (t0:List Int) (t1:Int):((List Int)×Bool×Int)→Option (Ex ((List Int)×Bool×Int) ((List Int)×Bool) Unit):=fun(s1,s2,s3)=>
 if s3<(t0.length:Int)then
  Option.bind (α:=((List Int)×Bool)) (
   Option.bind (α:=Bool) (
    if s2=false then
     (idx t0 s3).bind fun x6=>
     some (decide (t1≤x6))
    else
    some false) fun j7=>
   if j7=true then
    (idx t0 s3).bind fun x9=>
    if t1<x9 then
     (app 8 s1 ([t1])).bind fun x11=>
     some (x11,true)
    else
    some (s1,true)
   else
   some (s1,s2)) fun(j12,j13)=>
  (idx t0 s3).bind fun x14=>
  (app 8 j12 ([x14])).bind fun x15=>
  some (Ex.go (x15,j13,(wrapF .i64 (s3+1))))
 else
 some (Ex.brk (s1,s2))
def ref34_insert (t0:List Int) (t1:Int):Option (List Int):=
 (loopO (ref34_insert_L1 t0 t1) ([],false,0)).bind fun y=>match y with
 |.inr _=>none
 |.inl (b19,b20)=>
 Option.bind (α:=(List Int)) (
  if b20=false then
   (app 8 b19 ([t1])).bind fun x22=>
   some x22
  else
  some b19) fun j23=>
 some j23
def ref34_ChangeDates_L1 (t0:List GFact) (t1:Int):((List Int)×Int)→Option (Ex ((List Int)×Int) (List Int) Unit):=fun(s1,s2)=>
 if s2<(t0.length:Int)then
  Option.bind (α:=(List Int)) (
   Option.bind (α:=Bool) (
    (idx t0 s2).bind fun x4=>
    if¬t1<x4.Recorded then
     (ref34_nonempty x4.Valid).bind fun x6=>
     some (!x6)
    else
    some true) fun j7=>
   if j7=true then
    some s1
   else
   Option.bind (α:=(List Int)) (
    (idx t0 s2).bind fun x9=>
    if 1≤x9.Valid.From then
     (ref34_insert s1 x9.Valid.From).bind fun x11=>
     some x11
    else
    some s1) fun j12=>
   (idx t0 s2).bind fun x13=>
   if x13.Valid.To≤109572 then
    (ref34_insert j12 x13.Valid.To).bind fun x15=>
    some x15
   else
   some j12) fun j16=>
  some (Ex.go (j16,(wrapF .i64 (s2+1))))
 else
 some (Ex.brk s1)
def ref34_ChangeDates (t0:List GFact) (t1:Int):Option (List Int):=
 (loopO (ref34_ChangeDates_L1 t0 t1) ([],0)).bind fun y=>match y with
 |.inr _=>none
 |.inl b19=>
 some b19
def ref12_Within_L1 (t0:List Int):((List Int)×Int)→Option (Ex ((List Int)×Int) (List Int) Unit):=fun(s1,s2)=>
 if s2<(t0.length:Int)then
  Option.bind (α:=(List Int)) (
   Option.bind (α:=Bool) (
    (idx t0 s2).bind fun x4=>
    if 1≤x4 then
     some (decide (x4≤109572))
    else
    some false) fun j6=>
   if j6=true then
    (idx t0 s2).bind fun x8=>
    (app 8 s1 ([x8])).bind fun x9=>
    some x9
   else
   some s1) fun j10=>
  some (Ex.go (j10,(wrapF .i64 (s2+1))))
 else
 some (Ex.brk s1)
def ref12_Within (t0:List Int):Option (List Int):=
 (loopO (ref12_Within_L1 t0) (([]:List Int),0)).bind fun y=>match y with
 |.inr _=>none
 |.inl b13=>
 some b13
def ref05_nonempty (t0:GDateRange):Option Bool:=
 Option.bind (α:=Bool) (
  (ref05_Valid t0).bind fun x1=>
  if x1=true then
   some (decide (t0.From<t0.To))
  else
  some false) fun j3=>
 some j3
def ref05_Insert_L3 (t0:List Int) (t1:Int):((List Int)×Int)→Option (Ex ((List Int)×Int) (List Int) Unit):=fun(s1,s2)=>
 if s2<(t0.length:Int)then
  Option.bind (α:=(List Int)) (
   (idx t0 s2).bind fun x4=>
   if x4<t1 then
    (app 8 s1 ([x4])).bind fun x6=>
    some x6
   else
   some s1) fun j7=>
  some (Ex.go (j7,(wrapF .i64 (s2+1))))
 else
 some (Ex.brk s1)
def ref05_Insert_L2 (t0:List Int) (t1:Int):((List Int)×Int)→Option (Ex ((List Int)×Int) (List Int) Unit):=fun(s12,s13)=>
 if s13<(t0.length:Int)then
  Option.bind (α:=(List Int)) (
   (idx t0 s13).bind fun x15=>
   if t1<x15 then
    (app 8 s12 ([x15])).bind fun x17=>
    some x17
   else
   some s12) fun j18=>
  some (Ex.go (j18,(wrapF .i64 (s13+1))))
 else
 some (Ex.brk s12)
def ref05_Insert (t0:List Int) (t1:Int):Option (List Int):=
 (loopO (ref05_Insert_L3 t0 t1) (([]:List Int),0)).bind fun y=>match y with
 |.inr _=>none
 |.inl b10=>
 (app 8 b10 ([t1])).bind fun x11=>
 (loopO (ref05_Insert_L2 t0 t1) (x11,0)).bind fun y=>match y with
 |.inr _=>none
 |.inl b21=>
 some b21
def ref05_Boundaries_L1 (t0:List GDateRange):((List Int)×Int)→Option (Ex ((List Int)×Int) (List Int) Unit):=fun(s1,s2)=>
 if s2<(t0.length:Int)then
  Option.bind (α:=(List Int)) (
   (idx t0 s2).bind fun x4=>
   (ref05_nonempty x4).bind fun x5=>
   if x5=true then
    (ref05_Insert s1 x4.From).bind fun x7=>
    (ref05_Insert x7 x4.To).bind fun x8=>
    some x8
   else
   some s1) fun j9=>
  some (Ex.go (j9,(wrapF .i64 (s2+1))))
 else
 some (Ex.brk s1)
def ref05_Boundaries (t0:List GDateRange):Option (List Int):=
 (loopO (ref05_Boundaries_L1 t0) (([]:List Int),0)).bind fun y=>match y with
 |.inr _=>none
 |.inl b12=>
 some b12
def ref15_ChangeDates_L8 (t0:GLaw) (s2:Int):((List GDateRange)×Int)→Option (Ex ((List GDateRange)×Int) (List GDateRange) Unit):=fun(s4,s5)=>
 (idx t0.Tables s2).bind fun x6=>
 if s5<(x6.Rows.length:Int)then
  (idx x6.Rows s5).bind fun x8=>
  (app 16 s4 ([x8.Valid])).bind fun x9=>
  some (Ex.go (x9,(wrapF .i64 (s5+1))))
 else
 some (Ex.brk s4)
def ref15_ChangeDates_L19 (t0:GLaw):((List GDateRange)×Int)→Option (Ex ((List GDateRange)×Int) (List GDateRange) Unit):=fun(s1,s2)=>
 if s2<(t0.Tables.length:Int)then
  (loopO (ref15_ChangeDates_L8 t0 s2) (s1,0)).bind fun y=>match y with
  |.inr _=>none
  |.inl b12=>
  some (Ex.go (b12,(wrapF .i64 (s2+1))))
 else
 some (Ex.brk s1)
def ref15_ChangeDates_L17 (t0:GLaw) (s17:Int):((List GDateRange)×Int)→Option (Ex ((List GDateRange)×Int) (List GDateRange) Unit):=fun(s19,s20)=>
 (idx t0.Scopes s17).bind fun x21=>
 if s20<(x21.Rules.length:Int)then
  (idx x21.Rules s20).bind fun x23=>
  (app 16 s19 ([x23.Valid])).bind fun x24=>
  some (Ex.go (x24,(wrapF .i64 (s20+1))))
 else
 some (Ex.brk s19)
def ref15_ChangeDates_L18 (t0:GLaw):((List GDateRange)×Int)→Option (Ex ((List GDateRange)×Int) (List GDateRange) Unit):=fun(s16,s17)=>
 if s17<(t0.Scopes.length:Int)then
  (loopO (ref15_ChangeDates_L17 t0 s17) (s16,0)).bind fun y=>match y with
  |.inr _=>none
  |.inl b27=>
  some (Ex.go (b27,(wrapF .i64 (s17+1))))
 else
 some (Ex.brk s16)
def ref15_ChangeDates (t0:GLaw):Option (List Int):=
 (loopO (ref15_ChangeDates_L19 t0) (([]:List GDateRange),0)).bind fun y=>match y with
 |.inr _=>none
 |.inl b15=>
 (loopO (ref15_ChangeDates_L18 t0) (b15,0)).bind fun y=>match y with
 |.inr _=>none
 |.inl b30=>
 (ref05_Boundaries b30).bind fun x31=>
 (ref12_Within x31).bind fun x32=>
 some x32
def ref07_valid (t0:Int):Option Bool:=
 Option.bind (α:=Bool) (
  if 0≤t0 then
   some (decide (t0≤3599))
  else
  some false) fun j2=>
 some j2
def ref04_IsLeap (t0:Int):Option Bool:=
 Option.bind (α:=Bool) (
  if (Int.tmod t0 4)=0 then
   if (Int.tmod t0 100)=0 then
    some ((Int.tmod t0 400)==0)
   else
   some true
  else
  some false) fun j3=>
 some j3
def ref04_DaysInMonth (t0:Int) (t1:Int):Option Int:=
 if t1=2 then
  (ref04_IsLeap t0).bind fun x2=>
  if x2=true then
   some 29
  else
  some 28
 else
 Option.bind (α:=Bool) (
  if t1=4 then
   some true
  else
  if t1=6 then
   some true
  else
  if t1=9 then
   some true
  else
  some (t1==11)) fun j7=>
 if j7=true then
  some 30
 else
 Option.bind (α:=Bool) (
  if t1=1 then
   some true
  else
  if t1=3 then
   some true
  else
  if t1=5 then
   some true
  else
  if t1=7 then
   some true
  else
  if t1=8 then
   some true
  else
  if t1=10 then
   some true
  else
  some (t1==12)) fun j15=>
 if j15=true then
  some 31
 else
 some 0
def ref07_Days (t0:Int):Option Int:=
 (ref07_valid t0).bind fun x1=>
 if x1=false then
  some 0
 else
 (ref04_DaysInMonth (wrapF .i64 (1900+(wrapF .i64 (Int.tdiv t0 12)))) (wrapF .i64 ((Int.tmod t0 12)+1))).bind fun x3=>
 some x3
def ref04_daysInYear (t0:Int):Option Int:=
 (ref04_IsLeap t0).bind fun x1=>
 if x1=true then
  some 366
 else
 some 365
def ref04_FromYMD_L3 (t0:Int):(Int×Int)→Option (Ex (Int×Int) Int Unit):=fun(s7,s8)=>
 if s8<t0 then
  (ref04_daysInYear s8).bind fun x10=>
  some (Ex.go ((wrapF .i64 (s7+x10)),(wrapF .i64 (s8+1))))
 else
 some (Ex.brk s7)
def ref04_FromYMD_L2 (t0:Int) (t1:Int):(Int×Int)→Option (Ex (Int×Int) Int Unit):=fun(s14,s15)=>
 if s15<t1 then
  (ref04_DaysInMonth t0 s15).bind fun x17=>
  some (Ex.go ((wrapF .i64 (s14+x17)),(wrapF .i64 (s15+1))))
 else
 some (Ex.brk s14)
def ref04_FromYMD (t0:Int) (t1:Int) (t2:Int):Option (Int×Int):=
 Option.bind (α:=Bool) (
  if¬t0<1900 then
   if¬2199<t0 then
    if¬t2<1 then
     (ref04_DaysInMonth t0 t1).bind fun x4=>
     some (decide (x4<t2))
    else
    some true
   else
   some true
  else
  some true) fun j5=>
 if j5=true then
  some (0,3)
 else
 (loopO (ref04_FromYMD_L3 t0) ((wrapF .i64 (t2-1)),1900)).bind fun y=>match y with
 |.inr _=>none
 |.inl b13=>
 (loopO (ref04_FromYMD_L2 t0 t1) (b13,1)).bind fun y=>match y with
 |.inr _=>none
 |.inl b20=>
 some (b20,0)
def ref07_Range (t0:Int):Option (GDateRange×Int):=
 (ref07_valid t0).bind fun x1=>
 if x1=false then
  some ((GDateRange.mk 0 0),3)
 else
 (ref04_FromYMD (wrapF .i64 (1900+(wrapF .i64 (Int.tdiv t0 12)))) (wrapF .i64 ((Int.tmod t0 12)+1)) 1).bind fun x3=>
 (ref07_Days t0).bind fun x4=>
 some ((GDateRange.mk x3.1 (wrapF .i64 (x3.1+x4))),0)
def ref36_contains_L1 (t0:List Int) (t1:Int):Int→Option (Ex Int Unit Bool):=fun s1=>
 if s1<(t0.length:Int)then
  (idx t0 s1).bind fun x3=>
  if x3=t1 then
   some (Ex.ret true)
  else
  some (Ex.go (wrapF .i64 (s1+1)))
 else
 some (Ex.brk ())
def ref36_contains (t0:List Int) (t1:Int):Option Bool:=
 (loopO (ref36_contains_L1 t0 t1) 0).bind fun y=>match y with
 |.inr v=>some v
 |.inl _=>
 some false
def ref36_divide_L1 (t0:GDateRange) (t1:List Int) (t2:List Int):((List GDateRange)×Int×Int)→Option (Ex ((List GDateRange)×Int×Int) ((List GDateRange)×Int) Unit):=fun(s1,s2,s3)=>
 if s3<t0.To then
  Option.bind (α:=((List GDateRange)×Int)) (
   Option.bind (α:=Bool) (
    (ref36_contains t1 s3).bind fun x5=>
    if x5=false then
     (ref36_contains t2 s3).bind fun x7=>
     some x7
    else
    some true) fun j8=>
   if j8=true then
    (app 16 s1 ([(GDateRange.mk s2 s3)])).bind fun x10=>
    some (x10,s3)
   else
   some (s1,s2)) fun(j11,j12)=>
  some (Ex.go (j11,j12,(wrapF .i64 (s3+1))))
 else
 some (Ex.brk (s1,s2))
def ref36_divide (t0:GDateRange) (t1:List Int) (t2:List Int):Option (List GDateRange):=
 (loopO (ref36_divide_L1 t0 t1 t2) (([]:List GDateRange),t0.From,(wrapF .i64 (t0.From+1)))).bind fun y=>match y with
 |.inr _=>none
 |.inl (b16,b17)=>
 (app 16 b16 ([(GDateRange.mk b17 t0.To)])).bind fun x18=>
 some x18
def ref36_Pieces (t0:GLaw) (t1:GHousehold) (t2:Int) (t3:Int):Option (List GDateRange):=
 (ref07_Range t2).bind fun x1=>
 if¬x1.2=0 then
  some ([])
 else
 (ref34_ChangeDates t1.Facts t3).bind fun x3=>
 (ref15_ChangeDates t0).bind fun x4=>
 (ref36_divide x1.1 x3 x4).bind fun x5=>
 some x5
def law36_AwardPieces (t0:GLaw) (t1:GHousehold) (t2:Int) (t3:Int):Option Bool:=
 Option.bind (α:=Bool) (
  (same_SmallLaw t0).bind fun x1=>
  if x1=true then
   (same_SmallHousehold t1).bind fun x3=>
   some (!x3)
  else
  some true) fun j4=>
 if j4=true then
  (law36_awake).bind fun x6=>
  some x6
 else
 Option.bind (α:=Bool) (
  (award_Pieces t0 t1 t2 t3).bind fun x7=>
  (ref36_Pieces t0 t1 t2 t3).bind fun x8=>
  (same_DateRanges x7 x8).bind fun x9=>
  if x9=true then
   (law36_awake).bind fun x11=>
   some x11
  else
  some false) fun j12=>
 some j12
def strings_Contains (t0:ByteArray) (t1:ByteArray):Option Bool:=
 if t1.size=1 then some (t0.data.toList.contains (t1.data.toList.headD 0))else none
def ref08_Reserved  : Option (List ByteArray):=
 some ([(ByteArray.mk #[105,102]),(ByteArray.mk #[116,104,101,110]),(ByteArray.mk #[101,108,115,101]),(ByteArray.mk #[111,114]),(ByteArray.mk #[97,110,100]),(ByteArray.mk #[110,111,116]),(ByteArray.mk #[116,114,117,101]),(ByteArray.mk #[102,97,108,115,101]),(ByteArray.mk #[116,111,100,97,121]),(ByteArray.mk #[115,104,97,114,101]),(ByteArray.mk #[100,105,118]),(ByteArray.mk #[114,111,117,110,100]),(ByteArray.mk #[109,105,110]),(ByteArray.mk #[109,97,120]),(ByteArray.mk #[112,108,117,115]),(ByteArray.mk #[109,111,110,116,104,115]),(ByteArray.mk #[100,97,121,115]),(ByteArray.mk #[121,101,97,114,115]),(ByteArray.mk #[121,101,97,114]),(ByteArray.mk #[109,111,110,116,104]),(ByteArray.mk #[116,97,98]),(ByteArray.mk #[98,97,110,100]),(ByteArray.mk #[99,111,117,110,116]),(ByteArray.mk #[115,117,109]),(ByteArray.mk #[97,108,108]),(ByteArray.mk #[97,110,121]),(ByteArray.mk #[109,111,115,116]),(ByteArray.mk #[101,110,117,109]),(ByteArray.mk #[116,97,98,108,101]),(ByteArray.mk #[114,111,119]),(ByteArray.mk #[115,99,111,112,101]),(ByteArray.mk #[109,101,109,98,101,114,115]),(ByteArray.mk #[105,110,112,117,116]),(ByteArray.mk #[100,101,102]),(ByteArray.mk #[114,117,108,101]),(ByteArray.mk #[111,102]),(ByteArray.mk #[111,118,101,114]),(ByteArray.mk #[112,114,105,111]),(ByteArray.mk #[102,114,111,109]),(ByteArray.mk #[116,111]),(ByteArray.mk #[101,110,100]),(ByteArray.mk #[119,104,101,110]),(ByteArray.mk #[105,115]),(ByteArray.mk #[115,114,99]),(ByteArray.mk #[98,111,111,108]),(ByteArray.mk #[105,110,116]),(ByteArray.mk #[109,111,110,101,121]),(ByteArray.mk #[114,97,116,101]),(ByteArray.mk #[100,97,116,101]),(ByteArray.mk #[100,111,119,110]),(ByteArray.mk #[117,112]),(ByteArray.mk #[122,101,114,111]),(ByteArray.mk #[97,119,97,121]),(ByteArray.mk #[104,97,108,102]),(ByteArray.mk #[101,118,101,110])])
def ref09_ValidType (t0:GType) (t1:List GEnum):Option Bool:=
 if t0.Kind=6 then
  Option.bind (α:=Bool) (
   if 0≤t0.Enum then
    some (decide (t0.Enum<(t1.length:Int)))
   else
   some false) fun j3=>
  some j3
 else
 Option.bind (α:=Bool) (
  if 1≤t0.Kind then
   if t0.Kind≤5 then
    some (t0.Enum==0)
   else
   some false
  else
  some false) fun j6=>
 some j6
def ref09_Bounds (t0:GType) (t1:List GEnum):Option (Int×Int):=
 (ref09_ValidType t0 t1).bind fun x1=>
 if x1=false then
  some (0,(-1))
 else
 if t0.Kind=1 then
  some (0,1)
 else
 if t0.Kind=2 then
  some ((-1000000000000),1000000000000)
 else
 if t0.Kind=3 then
  some ((-1000000000000000),1000000000000000)
 else
 if t0.Kind=4 then
  some ((-1000000000),1000000000)
 else
 if t0.Kind=5 then
  some (0,109572)
 else
 (idx t1 t0.Enum).bind fun x8=>
 some (0,(wrapF .i64 ((x8.Members.length:Int)-1)))
def ref10_meaning (t0:Int):Option Bool:=
 Option.bind (α:=Bool) (
  if 1≤t0 then
   if¬t0≤8 then
    if 36≤t0 then
     some (decide (t0≤39))
    else
    some false
   else
   some true
  else
  if 36≤t0 then
   some (decide (t0≤39))
  else
  some false) fun j5=>
 if j5=true then
  some true
 else
 Option.bind (α:=Bool) (
  if¬t0=14 then
   if¬t0=15 then
    if¬t0=16 then
     if¬t0=33 then
      some (t0==34)
     else
     some true
    else
    some true
   else
   some true
  else
  some true) fun j11=>
 some j11
def ref10_kind (t0:Int):Option GType:=
 some (GType.mk t0 0)
def ref10_ranged (t0:GNode) (t1:GSignature):Option Bool:=
 Option.bind (α:=Bool) (
  if t0.Op=1 then
   some true
  else
  if t0.Op=2 then
   some true
  else
  if t0.Op=3 then
   some true
  else
  if t0.Op=4 then
   some true
  else
  some (t0.Op==5)) fun j5=>
 if j5=true then
  (ref10_kind t0.Op).bind fun x7=>
  (ref09_Bounds x7 t1.Enums).bind fun x8=>
  Option.bind (α:=Bool) (
   if x8.1≤t0.N then
    some (decide (t0.N≤x8.2))
   else
   some false) fun j10=>
  some j10
 else
 Option.bind (α:=Bool) (
  if t0.Op=14 then
   some true
  else
  if t0.Op=15 then
   some true
  else
  some (t0.Op==16)) fun j13=>
 if j13=true then
  Option.bind (α:=Bool) (
   if 0≤t0.N then
    some (decide (t0.N≤5))
   else
   some false) fun j16=>
  some j16
 else
 if t0.Op=34 then
  Option.bind (α:=Bool) (
   if 0≤t0.N then
    some (decide ((Int.tmod t0.N 8)≤5))
   else
   some false) fun j19=>
  some j19
 else
 if t0.Op=6 then
  some (decide (0≤t0.N))
 else
 some true
def ref10_found (t0:GNode) (t1:GSignature):Option Bool:=
 if t0.Op=6 then
  Option.bind (α:=Bool) (
   if (wrapF .i64 (Int.tdiv t0.N 16))<(t1.Enums.length:Int)then
    (idx t1.Enums (wrapF .i64 (Int.tdiv t0.N 16))).bind fun x3=>
    some (decide ((Int.tmod t0.N 16)<(x3.Members.length:Int)))
   else
   some false) fun j4=>
  some j4
 else
 if t0.Op=7 then
  Option.bind (α:=Bool) (
   if 0≤t0.N then
    some (decide (t0.N<(t1.Inputs.length:Int)))
   else
   some false) fun j7=>
  some j7
 else
 if t0.Op=8 then
  Option.bind (α:=Bool) (
   if 0≤t0.N then
    some (decide (t0.N<(t1.Defs.length:Int)))
   else
   some false) fun j10=>
  some j10
 else
 if t0.Op=33 then
  Option.bind (α:=Bool) (
   if 0≤t0.N then
    some (decide (t0.N<(t1.Tables.length:Int)))
   else
   some false) fun j13=>
  some j13
 else
 if t0.Op=34 then
  some (decide ((wrapF .i64 (Int.tdiv t0.N 8))<(t1.Tables.length:Int)))
 else
 if t0.Op=35 then
  some t1.HasMembers
 else
 Option.bind (α:=Bool) (
  if t0.Op=36 then
   some true
  else
  if t0.Op=37 then
   some true
  else
  if t0.Op=38 then
   some true
  else
  some (t0.Op==39)) fun j19=>
 if j19=true then
  Option.bind (α:=Bool) (
   if t1.HasMembers=true then
    if 0≤t0.N then
     some (decide (t0.N<(t1.MemberDefs.length:Int)))
    else
    some false
   else
   some false) fun j23=>
  some j23
 else
 some true
def ref10_number (t0:Int):Option Bool:=
 Option.bind (α:=Bool) (
  if¬t0=2 then
   if¬t0=3 then
    some (t0==4)
   else
   some true
  else
  some true) fun j3=>
 some j3
def ref10_ordered (t0:Int):Option Bool:=
 Option.bind (α:=Bool) (
  (ref10_number t0).bind fun x1=>
  if x1=false then
   some (t0==5)
  else
  some true) fun j3=>
 some j3
def ref10_leaf (t0:GNode) (t1:GSignature):Option (GType×Bool):=
 Option.bind (α:=(Int×Int)) (
  if t0.Op=6 then
   some (6,(wrapF .i64 (Int.tdiv t0.N 16)))
  else
  if t0.Op=7 then
   (idx t1.Inputs t0.N).bind fun x3=>
   some (x3.Kind,x3.Enum)
  else
  if t0.Op=8 then
   (idx t1.Defs t0.N).bind fun x5=>
   some (x5.Kind,x5.Enum)
  else
  if t0.Op=9 then
   (ref10_kind 5).bind fun x7=>
   some (x7.Kind,x7.Enum)
  else
  if t0.Op=35 then
   (ref10_kind 2).bind fun x9=>
   some (x9.Kind,x9.Enum)
  else
  Option.bind (α:=Bool) (
   if t0.Op=36 then
    some true
   else
   if t0.Op=37 then
    some true
   else
   if t0.Op=38 then
    some true
   else
   some (t0.Op==39)) fun j13=>
  if j13=true then
   (idx t1.MemberDefs t0.N).bind fun x15=>
   some (x15.Kind,x15.Enum)
  else
  (ref10_kind t0.Op).bind fun x16=>
  some (x16.Kind,x16.Enum)) fun(j17,j18)=>
 (ref09_ValidType (GType.mk j17 j18) t1.Enums).bind fun x19=>
 Option.bind (α:=Bool) (
  if t0.Op=36 then
   if x19=true then
    if¬j17=2 then
     some (j17==3)
    else
    some true
   else
   some false
  else
  Option.bind (α:=Bool) (
   if t0.Op=37 then
    some true
   else
   some (t0.Op==38)) fun j24=>
  if j24=true then
   if x19=true then
    some (j17==1)
   else
   some false
  else
  if t0.Op=39 then
   if x19=true then
    (ref10_ordered j17).bind fun x29=>
    some x29
   else
   some false
  else
  some x19) fun j30=>
 some ((GType.mk j17 j18),j30)
def ref10_single (t0:GNode) (t1:GType) (t2:GSignature):Option (GType×Bool):=
 if t0.Op=10 then
  (ref10_number t1.Kind).bind fun x2=>
  some (t1,x2)
 else
 if t0.Op=25 then
  some (t1,(t1.Kind==1))
 else
 Option.bind (α:=Bool) (
  if t0.Op=31 then
   some true
  else
  some (t0.Op==32)) fun j5=>
 if j5=true then
  (ref10_kind 2).bind fun x7=>
  some (x7,(t1.Kind==5))
 else
 if t0.Op=33 then
  (idx t2.Tables t0.N).bind fun x9=>
  Option.bind (α:=Bool) (
   (ref09_ValidType x9.Key t2.Enums).bind fun x10=>
   if x10=true then
    (ref09_ValidType x9.Value t2.Enums).bind fun x12=>
    if x12=true then
     some ((t1.Kind==x9.Key.Kind)&&(t1.Enum==x9.Key.Enum))
    else
    some false
   else
   some false) fun j14=>
  some (x9.Value,j14)
 else
 (idx t2.Tables (wrapF .i64 (Int.tdiv t0.N 8))).bind fun x15=>
 Option.bind (α:=Bool) (
  if t1.Kind=3 then
   (ref10_kind 3).bind fun x17=>
   if x15.Key.Kind=x17.Kind∧x15.Key.Enum=x17.Enum then
    (ref10_kind 4).bind fun x19=>
    some ((x15.Value.Kind==x19.Kind)&&(x15.Value.Enum==x19.Enum))
   else
   some false
  else
  some false) fun j20=>
 some (t1,j20)
def ref10_scaled (t0:Int) (t1:Int) (t2:Int):Option (GType×Bool):=
 if t0=13 then
  Option.bind (α:=(Int×Int×Bool)) (
   (ref10_kind t1).bind fun x2=>
   if t2=2 then
    if¬t1=2 then
     some (x2.Kind,x2.Enum,(t1==3))
    else
    some (x2.Kind,x2.Enum,true)
   else
   some (x2.Kind,x2.Enum,false)) fun(j5,j6,j7)=>
  some ((GType.mk j5 j6),j7)
 else
 if t0=14 then
  Option.bind (α:=(Int×Int×Bool)) (
   (ref10_kind t1).bind fun x9=>
   if t2=4 then
    if¬t1=3 then
     some (x9.Kind,x9.Enum,(t1==4))
    else
    some (x9.Kind,x9.Enum,true)
   else
   some (x9.Kind,x9.Enum,false)) fun(j12,j13,j14)=>
  some ((GType.mk j12 j13),j14)
 else
 Option.bind (α:=Bool) (
  if t1=3 then
   some (t2==3)
  else
  some false) fun j16=>
 if j16=true then
  (ref10_kind 4).bind fun x18=>
  some (x18,true)
 else
 Option.bind (α:=(Int×Int×Bool)) (
  (ref10_kind t1).bind fun x19=>
  if t2=2 then
   if¬t1=2 then
    some (x19.Kind,x19.Enum,(t1==3))
   else
   some (x19.Kind,x19.Enum,true)
  else
  some (x19.Kind,x19.Enum,false)) fun(j22,j23,j24)=>
 some ((GType.mk j22 j23),j24)
def ref10_double (t0:Int) (t1:GType) (t2:GType):Option (GType×Bool):=
 Option.bind (α:=Bool) (
  if t0=11 then
   some true
  else
  some (t0==12)) fun j2=>
 if j2=true then
  Option.bind (α:=Bool) (
   if t1.Kind=t2.Kind∧t1.Enum=t2.Enum then
    (ref10_number t1.Kind).bind fun x5=>
    some x5
   else
   some false) fun j6=>
  some (t1,j6)
 else
 Option.bind (α:=Bool) (
  if t0=13 then
   some true
  else
  if t0=14 then
   some true
  else
  some (t0==15)) fun j9=>
 if j9=true then
  (ref10_scaled t0 t1.Kind t2.Kind).bind fun x11=>
  some (x11.1,x11.2)
 else
 if t0=16 then
  Option.bind (α:=Bool) (
   if t1.Kind=3 then
    some (t2.Kind==3)
   else
   some false) fun j14=>
  some (t1,j14)
 else
 Option.bind (α:=Bool) (
  if t0=17 then
   some true
  else
  some (t0==18)) fun j16=>
 if j16=true then
  Option.bind (α:=Bool) (
   if t1.Kind=t2.Kind∧t1.Enum=t2.Enum then
    (ref10_ordered t1.Kind).bind fun x19=>
    some x19
   else
   some false) fun j20=>
  some (t1,j20)
 else
 Option.bind (α:=Bool) (
  if t0=19 then
   some true
  else
  some (t0==20)) fun j22=>
 if j22=true then
  (ref10_kind 1).bind fun x24=>
  some (x24,((t1.Kind==t2.Kind)&&(t1.Enum==t2.Enum)))
 else
 Option.bind (α:=Bool) (
  if t0=21 then
   some true
  else
  some (t0==22)) fun j26=>
 if j26=true then
  Option.bind (α:=(Int×Int×Bool)) (
   (ref10_kind 1).bind fun x28=>
   if t1.Kind=t2.Kind∧t1.Enum=t2.Enum then
    (ref10_ordered t1.Kind).bind fun x30=>
    some (x28.Kind,x28.Enum,x30)
   else
   some (x28.Kind,x28.Enum,false)) fun(j31,j32,j33)=>
  some ((GType.mk j31 j32),j33)
 else
 Option.bind (α:=Bool) (
  if t0=23 then
   some true
  else
  some (t0==24)) fun j35=>
 if j35=true then
  Option.bind (α:=Bool) (
   if t1.Kind=1 then
    some (t2.Kind==1)
   else
   some false) fun j38=>
  some (t1,j38)
 else
 Option.bind (α:=Bool) (
  if t0=27 then
   some true
  else
  some (t0==28)) fun j40=>
 if j40=true then
  Option.bind (α:=Bool) (
   if t1.Kind=5 then
    some (t2.Kind==2)
   else
   some false) fun j43=>
  some (t1,j43)
 else
 Option.bind (α:=(Int×Int×Bool)) (
  (ref10_kind 2).bind fun x44=>
  if t1.Kind=5 then
   some (x44.Kind,x44.Enum,(t2.Kind==5))
  else
  some (x44.Kind,x44.Enum,false)) fun(j46,j47,j48)=>
 some ((GType.mk j46 j47),j48)
def ref10_Result (t0:GNode) (t1:List GType) (t2:GSignature):Option (GType×Int):=
 Option.bind (α:=Bool) (
  if¬t0.N=0 then
   (ref10_meaning t0.Op).bind fun x2=>
   some (!x2)
  else
  some false) fun j3=>
 if j3=true then
  some ((GType.mk 0 0),2)
 else
 (ref10_ranged t0 t2).bind fun x5=>
 if x5=false then
  some ((GType.mk 0 0),3)
 else
 (ref10_found t0 t2).bind fun x7=>
 if x7=false then
  some ((GType.mk 0 0),6)
 else
 Option.bind (α:=(Int×Int×Bool)) (
  if (t1.length:Int)=0 then
   (ref10_leaf t0 t2).bind fun x10=>
   some (x10.1.Kind,x10.1.Enum,x10.2)
  else
  if (t1.length:Int)=1 then
   (idx t1 0).bind fun x12=>
   (ref10_single t0 x12 t2).bind fun x13=>
   some (x13.1.Kind,x13.1.Enum,x13.2)
  else
  if (t1.length:Int)=2 then
   (idx t1 0).bind fun x15=>
   (idx t1 1).bind fun x16=>
   (ref10_double t0.Op x15 x16).bind fun x17=>
   some (x17.1.Kind,x17.1.Enum,x17.2)
  else
  (idx t1 1).bind fun x18=>
  (idx t1 0).bind fun x19=>
  if x19.Kind=1 then
   (idx t1 2).bind fun x21=>
   some (x18.Kind,x18.Enum,((x18.Kind==x21.Kind)&&(x18.Enum==x21.Enum)))
  else
  some (x18.Kind,x18.Enum,false)) fun(j22,j23,j24)=>
 if j24=false then
  some ((GType.mk 0 0),8)
 else
 some ((GType.mk j22 j23),0)
end
end Go.Proofs.Dev
