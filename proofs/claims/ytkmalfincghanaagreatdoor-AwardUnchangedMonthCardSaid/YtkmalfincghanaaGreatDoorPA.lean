/-
  The functions as plain partial functions, and plain lemmas about them: no condition.
-/
import Derived.Test.YtkmalfincghanaaGreatDoorEC
import Derived.Lib.SlicesCompact
open Bool renaming and_self→Xaa,and_true→Gaa
open ByteArray renaming mk→vaa
open Eq renaming trans→kaa
open Int renaming fdiv→Sae,tdiv→iab,tmod→Lab
open List renaming range→waa
open Option renaming bind→jaa
set_option linter.all false
namespace Go.Tm
def lr:List Int→Int→List Int
 |[],n=>[n]
 |x::l,n=>if n≤x then(if n<x then n::x::l else x::l)else x::lr l n
def Te(l:List Int):List Int:=l.foldl lr []
inductive ReachL (g:List (List Int)):Int→Int→Prop
 |one {a b:Int} {l:List Int} (h:g[a.toNat]?=some l) (hb:b∈l):ReachL g a b
 |step {a b c:Int} {l:List Int} (h:ReachL g a b) (hl:g[b.toNat]?=some l) (hc:c∈l):ReachL g a c
open Classical in
noncomputable def JA(g:List (List Int)) (a:Int):List Int:=((waa g.length).map fun(k:Nat)=>(k:Int)).filter fun b=>decide (ReachL g a b)
@[irreducible] def Ap:Nat:=1000000
def mE(g:List (List Int)) (out:List Int) (d:Nat):Bool:=!out.contains (d:Int)&&(g.getD d []).all fun e=>out.contains e
def Dp(g:List (List Int)):Nat→List Int→List Int×Int
 |0,out=>(out,0)
 |n+1,out=>match (waa g.length).find? (mE g out)with
  |some d=>Dp g n (out++[(d:Int)])
  |none=>([],9)
def Xp(g:List (List Int)):List Int×Int:=Dp g g.length []
end Go.Tm
set_option maxHeartbeats 1000000
set_option maxRecDepth 10000
namespace Go.Proofs.Dev
open Go Go.Tm
def Eh(x:ByteArray):D:=.v (.string x)
instance:Fr Eh:=⟨fun x=>by simp only[Eh,la,fa,Fr.l,Xaa,Gaa]⟩
theorem vR{x}:Eh x=.v (.string x):=kaa rfl rfl
def Wv(x:List ByteArray):D:=.sl 1 (x.map Eh)
instance:Fr Wv:=⟨fun x=>Fr.s _ x⟩
theorem QK{x}:Wv x=.sl 1 (x.map Eh):=kaa rfl rfl
structure GEnum where
 Name:ByteArray
 Members:(List ByteArray)
def Dg(x:GEnum):D:=.agg [.v (.string x.Name),.sl 1 (x.Members.map Eh)]
instance:Fr Dg:=⟨fun x=>by simp only[Dg,la,fa,Fr.l,Xaa,Gaa]⟩
theorem nK{x}:Dg x=.agg [.v (.string x.Name),.sl 1 (x.Members.map Eh)]:=kaa rfl rfl
def Uf(x:List GEnum):D:=.sl 2 (x.map Dg)
instance:Fr Uf:=⟨fun x=>Fr.s _ x⟩
theorem rF{x}:Uf x=.sl 2 (x.map Dg):=kaa rfl rfl
def aa(x:Int):D:=.v (.int .i64 x)
instance:Fr aa:=⟨fun x=>by simp only[aa,la,fa,Fr.l,Xaa,Gaa]⟩
theorem MR{x}:aa x=.v (.int .i64 x):=kaa rfl rfl
structure GType where
 Kind:Int
 Enum:Int
def Oa(x:GType):D:=.agg [.v (.int .i64 x.Kind),.v (.int .i64 x.Enum)]
instance:Fr Oa:=⟨fun x=>by simp only[Oa,la,fa,Fr.l,Xaa,Gaa]⟩
theorem uJ{x}:Oa x=.agg [.v (.int .i64 x.Kind),.v (.int .i64 x.Enum)]:=kaa rfl rfl
structure GDateRange where
 From:Int
 To:Int
def xa(x:GDateRange):D:=.agg [.v (.int .i64 x.From),.v (.int .i64 x.To)]
instance:Fr xa:=⟨fun x=>by simp only[xa,la,fa,Fr.l,Xaa,Gaa]⟩
theorem yA{x}:xa x=.agg [.v (.int .i64 x.From),.v (.int .i64 x.To)]:=kaa rfl rfl
structure GRow where
 Valid:GDateRange
 Lo:Int
 Hi:Int
 N:Int
def di(x:GRow):D:=.agg [.v (.int .i64 x.Valid.From),.v (.int .i64 x.Valid.To),.v (.int .i64 x.Lo),.v (.int .i64 x.Hi),.v (.int .i64 x.N)]
instance:Fr di:=⟨fun x=>by simp only[di,la,fa,Fr.l,Xaa,Gaa]⟩
theorem nM{x}:di x=.agg [.v (.int .i64 x.Valid.From),.v (.int .i64 x.Valid.To),.v (.int .i64 x.Lo),.v (.int .i64 x.Hi),.v (.int .i64 x.N)]:=kaa rfl rfl
def sq(x:List GRow):D:=.sl 5 (x.map di)
instance:Fr sq:=⟨fun x=>Fr.s _ x⟩
theorem WG{x}:sq x=.sl 5 (x.map di):=kaa rfl rfl
structure GTable where
 Name:ByteArray
 Key:GType
 Value:GType
 Rows:(List GRow)
def yb(x:GTable):D:=.agg [.v (.string x.Name),.v (.int .i64 x.Key.Kind),.v (.int .i64 x.Key.Enum),.v (.int .i64 x.Value.Kind),.v (.int .i64 x.Value.Enum),.sl 5 (x.Rows.map di)]
instance:Fr yb:=⟨fun x=>by simp only[yb,la,fa,Fr.l,Xaa,Gaa]⟩
theorem YF{x}:yb x=.agg [.v (.string x.Name),.v (.int .i64 x.Key.Kind),.v (.int .i64 x.Key.Enum),.v (.int .i64 x.Value.Kind),.v (.int .i64 x.Value.Enum),.sl 5 (x.Rows.map di)]:=kaa rfl rfl
def Bi(x:List GTable):D:=.sl 6 (x.map yb)
instance:Fr Bi:=⟨fun x=>Fr.s _ x⟩
theorem JC{x}:Bi x=.sl 6 (x.map yb):=kaa rfl rfl
structure GField where
 Name:ByteArray
 Type_:GType
def Ua(x:GField):D:=.agg [.v (.string x.Name),.v (.int .i64 x.Type_.Kind),.v (.int .i64 x.Type_.Enum)]
instance:Fr Ua:=⟨fun x=>by simp only[Ua,la,fa,Fr.l,Xaa,Gaa]⟩
theorem uG{x}:Ua x=.agg [.v (.string x.Name),.v (.int .i64 x.Type_.Kind),.v (.int .i64 x.Type_.Enum)]:=kaa rfl rfl
def Va(x:List GField):D:=.sl 3 (x.map Ua)
instance:Fr Va:=⟨fun x=>Fr.s _ x⟩
theorem CD{x}:Va x=.sl 3 (x.map Ua):=kaa rfl rfl
structure GNode where
 Op:Int
 N:Int
def ob(x:GNode):D:=.agg [.v (.int .i64 x.Op),.v (.int .i64 x.N)]
instance:Fr ob:=⟨fun x=>by simp only[ob,la,fa,Fr.l,Xaa,Gaa]⟩
theorem VJ{x}:ob x=.agg [.v (.int .i64 x.Op),.v (.int .i64 x.N)]:=kaa rfl rfl
def lj(x:List GNode):D:=.sl 2 (x.map ob)
instance:Fr lj:=⟨fun x=>Fr.s _ x⟩
theorem UD{x}:lj x=.sl 2 (x.map ob):=kaa rfl rfl
structure GRule where
 Name:ByteArray
 Def:Int
 Parent:Int
 Priority:Int
 Valid:GDateRange
 Guard:(List GNode)
 Value:(List GNode)
 Source:ByteArray
def Qa(x:GRule):D:=.agg [.v (.string x.Name),.v (.int .i64 x.Def),.v (.int .i64 x.Parent),.v (.int .i64 x.Priority),.v (.int .i64 x.Valid.From),.v (.int .i64 x.Valid.To),.sl 2 (x.Guard.map ob),.sl 2 (x.Value.map ob),.v (.string x.Source)]
instance:Fr Qa:=⟨fun x=>by simp only[Qa,la,fa,Fr.l,Xaa,Gaa]⟩
theorem xJ{x}:Qa x=.agg [.v (.string x.Name),.v (.int .i64 x.Def),.v (.int .i64 x.Parent),.v (.int .i64 x.Priority),.v (.int .i64 x.Valid.From),.v (.int .i64 x.Valid.To),.sl 2 (x.Guard.map ob),.sl 2 (x.Value.map ob),.v (.string x.Source)]:=kaa rfl rfl
def Ud(x:List GRule):D:=.sl 9 (x.map Qa)
instance:Fr Ud:=⟨fun x=>Fr.s _ x⟩
theorem EE{x}:Ud x=.sl 9 (x.map Qa):=kaa rfl rfl
structure GScope where
 Name:ByteArray
 MemberScope:Int
 Inputs:(List GField)
 Defs:(List GField)
 Rules:(List GRule)
def Ea(x:GScope):D:=.agg [.v (.string x.Name),.v (.int .i64 x.MemberScope),.sl 3 (x.Inputs.map Ua),.sl 3 (x.Defs.map Ua),.sl 9 (x.Rules.map Qa)]
instance:Fr Ea:=⟨fun x=>by simp only[Ea,la,fa,Fr.l,Xaa,Gaa]⟩
theorem GG{x}:Ea x=.agg [.v (.string x.Name),.v (.int .i64 x.MemberScope),.sl 3 (x.Inputs.map Ua),.sl 3 (x.Defs.map Ua),.sl 9 (x.Rules.map Qa)]:=kaa rfl rfl
def Dl(x:List GScope):D:=.sl 5 (x.map Ea)
instance:Fr Dl:=⟨fun x=>Fr.s _ x⟩
theorem jD{x}:Dl x=.sl 5 (x.map Ea):=kaa rfl rfl
structure GLaw where
 Enums:(List GEnum)
 Tables:(List GTable)
 Scopes:(List GScope)
def Zb(x:GLaw):D:=.agg [.sl 2 (x.Enums.map Dg),.sl 6 (x.Tables.map yb),.sl 5 (x.Scopes.map Ea)]
instance:Fr Zb:=⟨fun x=>by simp only[Zb,la,fa,Fr.l,Xaa,Gaa]⟩
theorem FP{x}:Zb x=.agg [.sl 2 (x.Enums.map Dg),.sl 6 (x.Tables.map yb),.sl 5 (x.Scopes.map Ea)]:=kaa rfl rfl
structure GValue where
 Kind:Int
 Enum:Int
 N:Int
def pa(x:GValue):D:=.agg [.v (.int .i64 x.Kind),.v (.int .i64 x.Enum),.v (.int .i64 x.N)]
instance:Fr pa:=⟨fun x=>by simp only[pa,la,fa,Fr.l,Xaa,Gaa]⟩
theorem BH{x}:pa x=.agg [.v (.int .i64 x.Kind),.v (.int .i64 x.Enum),.v (.int .i64 x.N)]:=kaa rfl rfl
structure GFact where
 Id:Int
 Member:Int
 Input:Int
 Value:GValue
 Valid:GDateRange
 Recorded:Int
def Al(x:GFact):D:=.agg [.v (.int .i64 x.Id),.v (.int .i64 x.Member),.v (.int .i64 x.Input),.v (.int .i64 x.Value.Kind),.v (.int .i64 x.Value.Enum),.v (.int .i64 x.Value.N),.v (.int .i64 x.Valid.From),.v (.int .i64 x.Valid.To),.v (.int .i64 x.Recorded)]
instance:Fr Al:=⟨fun x=>by simp only[Al,la,fa,Fr.l,Xaa,Gaa]⟩
theorem iJ{x}:Al x=.agg [.v (.int .i64 x.Id),.v (.int .i64 x.Member),.v (.int .i64 x.Input),.v (.int .i64 x.Value.Kind),.v (.int .i64 x.Value.Enum),.v (.int .i64 x.Value.N),.v (.int .i64 x.Valid.From),.v (.int .i64 x.Valid.To),.v (.int .i64 x.Recorded)]:=kaa rfl rfl
def Jk(x:List GFact):D:=.sl 9 (x.map Al)
instance:Fr Jk:=⟨fun x=>Fr.s _ x⟩
theorem QD{x}:Jk x=.sl 9 (x.map Al):=kaa rfl rfl
structure GHousehold where
 Id:Int
 Scope:Int
 Members:Int
 Facts:(List GFact)
def Sa(x:GHousehold):D:=.agg [.v (.int .i64 x.Id),.v (.int .i64 x.Scope),.v (.int .i64 x.Members),.sl 9 (x.Facts.map Al)]
instance:Fr Sa:=⟨fun x=>by simp only[Sa,la,fa,Fr.l,Xaa,Gaa]⟩
theorem sA{x}:Sa x=.agg [.v (.int .i64 x.Id),.v (.int .i64 x.Scope),.v (.int .i64 x.Members),.sl 9 (x.Facts.map Al)]:=kaa rfl rfl
def sa(x:List Int):D:=.sl 1 (x.map aa)
instance:Fr sa:=⟨fun x=>Fr.s _ x⟩
theorem eK{x}:sa x=.sl 1 (x.map aa):=kaa rfl rfl
structure GCalendar where
 Weekend:Int
 Holidays:(List Int)
def Dn(x:GCalendar):D:=.agg [.v (.int .i64 x.Weekend),.sl 1 (x.Holidays.map aa)]
instance:Fr Dn:=⟨fun x=>by simp only[Dn,la,fa,Fr.l,Xaa,Gaa]⟩
theorem cB{x}:Dn x=.agg [.v (.int .i64 x.Weekend),.sl 1 (x.Holidays.map aa)]:=kaa rfl rfl
structure GPayConfig where
 Def:Int
 Rounding:Int
 PayDay:Int
 RecoveryCap:Int
 RecoveryFloor:Int
 FirstMonth:Int
 AppealDays:Int
 Calendar:GCalendar
def Qd(x:GPayConfig):D:=.agg [.v (.int .i64 x.Def),.v (.int .i64 x.Rounding),.v (.int .i64 x.PayDay),.v (.int .i64 x.RecoveryCap),.v (.int .i64 x.RecoveryFloor),.v (.int .i64 x.FirstMonth),.v (.int .i64 x.AppealDays),.v (.int .i64 x.Calendar.Weekend),.sl 1 (x.Calendar.Holidays.map aa)]
instance:Fr Qd:=⟨fun x=>by simp only[Qd,la,fa,Fr.l,Xaa,Gaa]⟩
theorem eA{x}:Qd x=.agg [.v (.int .i64 x.Def),.v (.int .i64 x.Rounding),.v (.int .i64 x.PayDay),.v (.int .i64 x.RecoveryCap),.v (.int .i64 x.RecoveryFloor),.v (.int .i64 x.FirstMonth),.v (.int .i64 x.AppealDays),.v (.int .i64 x.Calendar.Weekend),.sl 1 (x.Calendar.Holidays.map aa)]:=kaa rfl rfl
structure GGuerdonlaw36_Query where
 Month:Int
 Recorded:Int
 Day:Int
def Eg(x:GGuerdonlaw36_Query):D:=.agg [.v (.int .i64 x.Month),.v (.int .i64 x.Recorded),.v (.int .i64 x.Day)]
instance:Fr Eg:=⟨fun x=>by simp only[Eg,la,fa,Fr.l,Xaa,Gaa]⟩
theorem Gq{x}:Eg x=.agg [.v (.int .i64 x.Month),.v (.int .i64 x.Recorded),.v (.int .i64 x.Day)]:=kaa rfl rfl
structure GAward where
 Month:Int
 Cents:Int
 Code:Int
def km(x:GAward):D:=.agg [.v (.int .i64 x.Month),.v (.int .i64 x.Cents),.v (.int .i64 x.Code)]
instance:Fr km:=⟨fun x=>by simp only[km,la,fa,Fr.l,Xaa,Gaa]⟩
theorem IG{x}:km x=.agg [.v (.int .i64 x.Month),.v (.int .i64 x.Cents),.v (.int .i64 x.Code)]:=kaa rfl rfl
def ba(x:Bool):D:=.v (.bool x)
instance:Fr ba:=⟨fun x=>by simp only[ba,la,fa,Fr.l,Xaa,Gaa]⟩
theorem xM{x}:ba x=.v (.bool x):=kaa rfl rfl
def ei(x:List GDateRange):D:=.sl 2 (x.map xa)
instance:Fr ei:=⟨fun x=>Fr.s _ x⟩
theorem Ww{x}:ei x=.sl 2 (x.map xa):=kaa rfl rfl
def Wa(x:List GValue):D:=.sl 3 (x.map pa)
instance:Fr Wa:=⟨fun x=>Fr.s _ x⟩
theorem xD{x}:Wa x=.sl 3 (x.map pa):=kaa rfl rfl
def Vq(x:List (List GValue)):D:=.sl 1 (x.map Wa)
instance:Fr Vq:=⟨fun x=>Fr.s _ x⟩
theorem KA{x}:Vq x=.sl 1 (x.map Wa):=kaa rfl rfl
structure GCase where
 Date:Int
 Inputs:(List GValue)
 Members:(List (List GValue))
def yo(x:GCase):D:=.agg [.v (.int .i64 x.Date),.sl 3 (x.Inputs.map pa),.sl 1 (x.Members.map Wa)]
instance:Fr yo:=⟨fun x=>by simp only[yo,la,fa,Fr.l,Xaa,Gaa]⟩
theorem vJ{x}:yo x=.agg [.v (.int .i64 x.Date),.sl 3 (x.Inputs.map pa),.sl 1 (x.Members.map Wa)]:=kaa rfl rfl
structure GEvalError where
 Code:Int
 Member:Int
 Def:Int
 Rule:Int
def Lf(x:GEvalError):D:=.agg [.v (.int .i64 x.Code),.v (.int .i64 x.Member),.v (.int .i64 x.Def),.v (.int .i64 x.Rule)]
instance:Fr Lf:=⟨fun x=>by simp only[Lf,la,fa,Fr.l,Xaa,Gaa]⟩
theorem Wy{x}:Lf x=.agg [.v (.int .i64 x.Code),.v (.int .i64 x.Member),.v (.int .i64 x.Def),.v (.int .i64 x.Rule)]:=kaa rfl rfl
def Bq(x:List Bool):D:=.sl 1 (x.map ba)
instance:Fr Bq:=⟨fun x=>Fr.s _ x⟩
theorem pG{x}:Bq x=.sl 1 (x.map ba):=kaa rfl rfl
def Rl(x:List GType):D:=.sl 2 (x.map Oa)
instance:Fr Rl:=⟨fun x=>Fr.s _ x⟩
theorem BE{x}:Rl x=.sl 2 (x.map Oa):=kaa rfl rfl
structure GEnv where
 Date:Int
 Inputs:(List GValue)
 Defs:(List GValue)
 Members:(List (List GValue))
 MemberTypes:(List GType)
 Tables:(List GTable)
def ik(x:GEnv):D:=.agg [.v (.int .i64 x.Date),.sl 3 (x.Inputs.map pa),.sl 3 (x.Defs.map pa),.sl 1 (x.Members.map Wa),.sl 2 (x.MemberTypes.map Oa),.sl 6 (x.Tables.map yb)]
instance:Fr ik:=⟨fun x=>by simp only[ik,la,fa,Fr.l,Xaa,Gaa]⟩
theorem lN{x}:ik x=.agg [.v (.int .i64 x.Date),.sl 3 (x.Inputs.map pa),.sl 3 (x.Defs.map pa),.sl 1 (x.Members.map Wa),.sl 2 (x.MemberTypes.map Oa),.sl 6 (x.Tables.map yb)]:=kaa rfl rfl
def Pb(x:List (List Int)):D:=.sl 1 (x.map sa)
instance:Fr Pb:=⟨fun x=>Fr.s _ x⟩
theorem iE{x}:Pb x=.sl 1 (x.map sa):=kaa rfl rfl
structure GLawError where
 Code:Int
 Section:Int
 Item:Int
 Element:Int
def vi(x:GLawError):D:=.agg [.v (.int .i64 x.Code),.v (.int .i64 x.Section),.v (.int .i64 x.Item),.v (.int .i64 x.Element)]
instance:Fr vi:=⟨fun x=>by simp only[vi,la,fa,Fr.l,Xaa,Gaa]⟩
theorem gB{x}:vi x=.agg [.v (.int .i64 x.Code),.v (.int .i64 x.Section),.v (.int .i64 x.Item),.v (.int .i64 x.Element)]:=kaa rfl rfl
structure GSignature where
 Enums:(List GEnum)
 Tables:(List GTable)
 Inputs:(List GType)
 Defs:(List GType)
 MemberDefs:(List GType)
 HasMembers:Bool
def Fa(x:GSignature):D:=.agg [.sl 2 (x.Enums.map Dg),.sl 6 (x.Tables.map yb),.sl 2 (x.Inputs.map Oa),.sl 2 (x.Defs.map Oa),.sl 2 (x.MemberDefs.map Oa),.v (.bool x.HasMembers)]
instance:Fr Fa:=⟨fun x=>by simp only[Fa,la,fa,Fr.l,Xaa,Gaa]⟩
theorem Jz{x}:Fa x=.agg [.sl 2 (x.Enums.map Dg),.sl 6 (x.Tables.map yb),.sl 2 (x.Inputs.map Oa),.sl 2 (x.Defs.map Oa),.sl 2 (x.MemberDefs.map Oa),.v (.bool x.HasMembers)]:=kaa rfl rfl
def zP(x:Int):D:=.v (.int .u8 x)
instance:Fr zP:=⟨fun x=>by simp only[zP,la,fa,Fr.l,Xaa,Gaa]⟩
theorem cW{x}:zP x=.v (.int .u8 x):=kaa rfl rfl
def Gg(x:Int):D:=.v (.int .u64 x)
instance:Fr Gg:=⟨fun x=>by simp only[Gg,la,fa,Fr.l,Xaa,Gaa]⟩
theorem CS{x}:Gg x=.v (.int .u64 x):=kaa rfl rfl
structure GInterp_needs where
 scope:GScope
 memberScope:GScope
 defs:(List Bool)
 memberDefs:(List Bool)
def vf(x:GInterp_needs):D:=.agg [.v (.string x.scope.Name),.v (.int .i64 x.scope.MemberScope),.sl 3 (x.scope.Inputs.map Ua),.sl 3 (x.scope.Defs.map Ua),.sl 9 (x.scope.Rules.map Qa),.v (.string x.memberScope.Name),.v (.int .i64 x.memberScope.MemberScope),.sl 3 (x.memberScope.Inputs.map Ua),.sl 3 (x.memberScope.Defs.map Ua),.sl 9 (x.memberScope.Rules.map Qa),.sl 1 (x.defs.map ba),.sl 1 (x.memberDefs.map ba)]
instance:Fr vf:=⟨fun x=>by simp only[vf,la,fa,Fr.l,Xaa,Gaa]⟩
theorem rv{x}:vf x=.agg [.v (.string x.scope.Name),.v (.int .i64 x.scope.MemberScope),.sl 3 (x.scope.Inputs.map Ua),.sl 3 (x.scope.Defs.map Ua),.sl 9 (x.scope.Rules.map Qa),.v (.string x.memberScope.Name),.v (.int .i64 x.memberScope.MemberScope),.sl 3 (x.memberScope.Inputs.map Ua),.sl 3 (x.memberScope.Defs.map Ua),.sl 9 (x.memberScope.Rules.map Qa),.sl 1 (x.defs.map ba),.sl 1 (x.memberDefs.map ba)]:=kaa rfl rfl
structure GMemberResult where
 Values:(List GValue)
 Rules:(List Int)
def mc(x:GMemberResult):D:=.agg [.sl 3 (x.Values.map pa),.sl 1 (x.Rules.map aa)]
instance:Fr mc:=⟨fun x=>by simp only[mc,la,fa,Fr.l,Xaa,Gaa]⟩
theorem Sv{x}:mc x=.agg [.sl 3 (x.Values.map pa),.sl 1 (x.Rules.map aa)]:=kaa rfl rfl
def Yl(x:List GMemberResult):D:=.sl 2 (x.map mc)
instance:Fr Yl:=⟨fun x=>Fr.s _ x⟩
theorem du{x}:Yl x=.sl 2 (x.map mc):=kaa rfl rfl
structure GResult where
 Values:(List GValue)
 Rules:(List Int)
 Members:(List GMemberResult)
def qq(x:GResult):D:=.agg [.sl 3 (x.Values.map pa),.sl 1 (x.Rules.map aa),.sl 2 (x.Members.map mc)]
instance:Fr qq:=⟨fun x=>by simp only[qq,la,fa,Fr.l,Xaa,Gaa]⟩
theorem lF{x}:qq x=.agg [.sl 3 (x.Values.map pa),.sl 1 (x.Rules.map aa),.sl 2 (x.Members.map mc)]:=kaa rfl rfl
def fm(x:GInterp_needs):D:=.pt (vf x)
instance:Fr fm:=⟨fun x=>Fr.h (e:=vf) x⟩
theorem bu{x}:fm x=.pt (vf x):=kaa rfl rfl
def PD(x:GEnv):D:=.pt (ik x)
instance:Fr PD:=⟨fun x=>Fr.h (e:=ik) x⟩
theorem OG{x}:PD x=.pt (ik x):=kaa rfl rfl
structure GEval_evaluator where
 nodes:(List GNode)
 starts:(List Int)
 env:GEnv
def oa(x:GEval_evaluator):D:=.agg [.sl 2 (x.nodes.map ob),.sl 1 (x.starts.map aa),.v (.int .i64 x.env.Date),.sl 3 (x.env.Inputs.map pa),.sl 3 (x.env.Defs.map pa),.sl 1 (x.env.Members.map Wa),.sl 2 (x.env.MemberTypes.map Oa),.sl 6 (x.env.Tables.map yb)]
instance:Fr oa:=⟨fun x=>by simp only[oa,la,fa,Fr.l,Xaa,Gaa]⟩
theorem eu{x}:oa x=.agg [.sl 2 (x.nodes.map ob),.sl 1 (x.starts.map aa),.v (.int .i64 x.env.Date),.sl 3 (x.env.Inputs.map pa),.sl 3 (x.env.Defs.map pa),.sl 1 (x.env.Members.map Wa),.sl 2 (x.env.MemberTypes.map Oa),.sl 6 (x.env.Tables.map yb)]:=kaa rfl rfl
def Bg(x:Int):D:=.pt (aa x)
instance:Fr Bg:=⟨fun x=>Fr.h (e:=aa) x⟩
theorem sK{x}:Bg x=.pt (aa x):=kaa rfl rfl
structure GRuletree_tree where
 parent:(List Int)
 priority:(List Int)
 outcome:(List Int)
def Tf(x:GRuletree_tree):D:=.agg [.sl 1 (x.parent.map aa),.sl 1 (x.priority.map aa),.sl 1 (x.outcome.map aa)]
instance:Fr Tf:=⟨fun x=>by simp only[Tf,la,fa,Fr.l,Xaa,Gaa]⟩
theorem Wu{x}:Tf x=.agg [.sl 1 (x.parent.map aa),.sl 1 (x.priority.map aa),.sl 1 (x.outcome.map aa)]:=kaa rfl rfl
def Pm(x:GScope):D:=.pt (Ea x)
instance:Fr Pm:=⟨fun x=>Fr.h (e:=Ea) x⟩
theorem OC{x}:Pm x=.pt (Ea x):=kaa rfl rfl
def xq(x:GRule):D:=.pt (Qa x)
instance:Fr xq:=⟨fun x=>Fr.h (e:=Qa) x⟩
theorem mF{x}:xq x=.pt (Qa x):=kaa rfl rfl
def an(x:GField):D:=.pt (Ua x)
instance:Fr an:=⟨fun x=>Fr.h (e:=Ua) x⟩
theorem fD{x}:an x=.pt (Ua x):=kaa rfl rfl
def nn(x:ByteArray):D:=.pt (Eh x)
instance:Fr nn:=⟨fun x=>Fr.h (e:=Eh) x⟩
theorem UK{x}:nn x=.pt (Eh x):=kaa rfl rfl
def Aq(x:GRow):D:=.pt (di x)
instance:Fr Aq:=⟨fun x=>Fr.h (e:=di) x⟩
theorem zG{x}:Aq x=.pt (di x):=kaa rfl rfl
def cr(x:List GAward):D:=.sl 3 (x.map km)
instance:Fr cr:=⟨fun x=>Fr.s _ x⟩
theorem NC{x}:cr x=.sl 3 (x.map km):=kaa rfl rfl
def ze:=(And.intro (And.intro (And.intro (And.intro (And.intro (And.intro @vR @QK) (And.intro @nK @rF)) (And.intro (And.intro @MR @uJ) (And.intro @yA @nM))) (And.intro (And.intro (And.intro @WG @YF) (And.intro @JC @uG)) (And.intro (And.intro @CD @VJ) (And.intro @UD @xJ)))) (And.intro (And.intro (And.intro (And.intro @EE @GG) (And.intro @jD @FP)) (And.intro (And.intro @BH @iJ) (And.intro @QD @sA))) (And.intro (And.intro (And.intro @eK @cB) (And.intro @eA @Gq)) (And.intro (And.intro @IG @xM) (And.intro @Ww @xD))))) (And.intro (And.intro (And.intro (And.intro (And.intro @KA @vJ) (And.intro @Wy @pG)) (And.intro (And.intro @BE @lN) (And.intro @iE @gB))) (And.intro (And.intro (And.intro @Jz @cW) (And.intro @CS @rv)) (And.intro (And.intro @Sv @du) (And.intro @lF @bu)))) (And.intro (And.intro (And.intro (And.intro @OG @eu) (And.intro @sK @Wu)) (And.intro (And.intro @OC @mF) (And.intro @fD @UK))) (And.intro @zG @NC))))
theorem zz:type_of% (And.intro @zx @ze):=And.intro @zx @ze
theorem zg:type_of% (And.intro @zq @ze):=And.intro @zq @ze
theorem tz{N:Nat}{s S:St}(ρ:Im) (h:Tx (Sq ρ s.m 9) s.t S.t∧Jx ρ s.m ρ S.m:=by first|(simp only[zg];done)|(simp only[zg, *];done)) (hk:Vs ρ N=true:=by rfl) (h3:(ρ.filterMap (·.1)).Nodup:=by decide):Tells N s S:=Tells.q ρ hk h3 h
theorem ez{rs:List RV}{o:D}{s:St}(h:lE (Xa s rs) s.m o:=by simp only[zz,zr];exact fq (by first|(simp only[zg];done)|(simp only[zg, *];done)|(simp only[zg, *,List.drop_zero,Nat.zero_add,List.length_map];done))):YA rs o .ret s:=er h
instance:Enc (List (List GValue)) Vq:=⟨trivial⟩
instance:Enc (List (List Int)) Pb:=⟨trivial⟩
instance:Enc (List Bool) Bq:=⟨trivial⟩
instance:Enc (List ByteArray) Wv:=⟨trivial⟩
instance:Enc (List GAward) cr:=⟨trivial⟩
instance:Enc (List GDateRange) ei:=⟨trivial⟩
instance:Enc (List GEnum) Uf:=⟨trivial⟩
instance:Enc (List GFact) Jk:=⟨trivial⟩
instance:Enc (List GField) Va:=⟨trivial⟩
instance:Enc (List GMemberResult) Yl:=⟨trivial⟩
instance:Enc (List GNode) lj:=⟨trivial⟩
instance:Enc (List GRow) sq:=⟨trivial⟩
instance:Enc (List GRule) Ud:=⟨trivial⟩
instance:Enc (List GScope) Dl:=⟨trivial⟩
instance:Enc (List GTable) Bi:=⟨trivial⟩
instance:Enc (List GType) Rl:=⟨trivial⟩
instance:Enc (List GValue) Wa:=⟨trivial⟩
instance:Enc (List Int) sa:=⟨trivial⟩
instance:Enc Bool ba:=⟨trivial⟩
instance:Enc ByteArray Eh:=⟨trivial⟩
instance:Enc GAward km:=⟨trivial⟩
instance:Enc GCalendar Dn:=⟨trivial⟩
instance:Enc GCase yo:=⟨trivial⟩
instance:Enc GDateRange xa:=⟨trivial⟩
instance:Enc GEnum Dg:=⟨trivial⟩
instance:Enc GEnv ik:=⟨trivial⟩
instance:Enc GEvalError Lf:=⟨trivial⟩
instance:Enc GEval_evaluator oa:=⟨trivial⟩
instance:Enc GFact Al:=⟨trivial⟩
instance:Enc GField Ua:=⟨trivial⟩
instance:Enc GGuerdonlaw36_Query Eg:=⟨trivial⟩
instance:Enc GHousehold Sa:=⟨trivial⟩
instance:Enc GInterp_needs vf:=⟨trivial⟩
instance:Enc GLaw Zb:=⟨trivial⟩
instance:Enc GLawError vi:=⟨trivial⟩
instance:Enc GMemberResult mc:=⟨trivial⟩
instance:Enc GNode ob:=⟨trivial⟩
instance:Enc GPayConfig Qd:=⟨trivial⟩
instance:Enc GResult qq:=⟨trivial⟩
instance:Enc GRow di:=⟨trivial⟩
instance:Enc GRule Qa:=⟨trivial⟩
instance:Enc GRuletree_tree Tf:=⟨trivial⟩
instance:Enc GScope Ea:=⟨trivial⟩
instance:Enc GSignature Fa:=⟨trivial⟩
instance:Enc GTable yb:=⟨trivial⟩
instance:Enc GType Oa:=⟨trivial⟩
instance:Enc GValue pa:=⟨trivial⟩
instance:Enc Int aa:=⟨trivial⟩
end Go.Proofs.Dev
namespace Go.Proofs.Dev
open Go Go.Tm
noncomputable section
def sg(t0:GScope):Int→Option (Ex Int Unit Bool):=fun s6=>
 if s6<(t0.Inputs.length:Int)then
  (idx t0.Inputs s6).bind fun x8=>
  if 80<(x8.Name.size:Int)then
   some (Ex.ret false)
  else
  some (Ex.go (ca .i64 (s6+1)))
 else
 some (Ex.brk ())
def mg(t0:GScope):Int→Option (Ex Int Unit Bool):=fun s11=>
 if s11<(t0.Defs.length:Int)then
  (idx t0.Defs s11).bind fun x13=>
  if 80<(x13.Name.size:Int)then
   some (Ex.ret false)
  else
  some (Ex.go (ca .i64 (s11+1)))
 else
 some (Ex.brk ())
def cg(t0:GScope):Int→Option (Ex Int Unit Bool):=fun s16=>
 if s16<(t0.Rules.length:Int)then
  (idx t0.Rules s16).bind fun x18=>
  jaa (α:=Bool) (
   if¬80<(x18.Name.size:Int)then
    if¬80<(x18.Source.size:Int)then
     if¬50<(x18.Guard.length:Int)then
      some (decide (50<(x18.Value.length:Int)))
     else
     some true
    else
    some true
   else
   some true) fun j22=>
  if j22=true then
   some (Ex.ret false)
  else
  some (Ex.go (ca .i64 (s16+1)))
 else
 some (Ex.brk ())
def tf(t0:GScope):Option Bool:=
 jaa (α:=Bool) (
  if¬80<(t0.Name.size:Int)then
   if¬14<(t0.Inputs.length:Int)then
    if¬14<(t0.Defs.length:Int)then
     some (decide (60<(t0.Rules.length:Int)))
    else
    some true
   else
   some true
  else
  some true) fun j4=>
 if j4=true then
  some false
 else
 (ia (sg t0) 0).bind fun y=>match y with
 |.inr v=>some v
 |.inl _=>
 (ia (mg t0) 0).bind fun y=>match y with
 |.inr v=>some v
 |.inl _=>
 (ia (cg t0) 0).bind fun y=>match y with
 |.inr v=>some v
 |.inl _=>
 some true
def Vf(t0:GLaw) (s5:Int):Int→Option (Ex Int Unit (Ex Int Unit Bool)):=fun s11=>
 (idx t0.Enums s5).bind fun x12=>
 if s11<(x12.Members.length:Int)then
  (idx x12.Members s11).bind fun x14=>
  if 80<(x14.size:Int)then
   some (Ex.ret (Ex.ret false))
  else
  some (Ex.go (ca .i64 (s11+1)))
 else
 some (Ex.brk ())
def bh(t0:GLaw):Int→Option (Ex Int Unit Bool):=fun s5=>
 if s5<(t0.Enums.length:Int)then
  jaa (α:=Bool) (
   (idx t0.Enums s5).bind fun x7=>
   if¬80<(x7.Name.size:Int)then
    some (decide (20<(x7.Members.length:Int)))
   else
   some true) fun j9=>
  if j9=true then
   some (Ex.ret false)
  else
  (ia (Vf t0 s5) 0).bind fun y=>match y with
  |.inr v=>some v
  |.inl _=>
  some (Ex.go (ca .i64 (s5+1)))
 else
 some (Ex.brk ())
def Sg(t0:GLaw):(Int×Int)→Option (Ex (Int×Int) Unit Bool):=fun(s18,s19)=>
 if s19<(t0.Tables.length:Int)then
  (idx t0.Tables s19).bind fun x21=>
  jaa (α:=Bool) (
   if¬80<(x21.Name.size:Int)then
    some (decide (150<(ca .i64 (s18+(x21.Rows.length:Int)))))
   else
   some true) fun j23=>
  if j23=true then
   some (Ex.ret false)
  else
  some (Ex.go ((ca .i64 (s18+(x21.Rows.length:Int))),(ca .i64 (s19+1))))
 else
 some (Ex.brk ())
def Ug(t0:GLaw):(Int×Int)→Option (Ex (Int×Int) Unit Bool):=fun(s27,s28)=>
 if s28<(t0.Scopes.length:Int)then
  (idx t0.Scopes s28).bind fun x30=>
  jaa (α:=Bool) (
   if¬60<(ca .i64 (s27+(x30.Rules.length:Int)))then
    (tf x30).bind fun x32=>
    some (!x32)
   else
   some true) fun j33=>
  if j33=true then
   some (Ex.ret false)
  else
  some (Ex.go ((ca .i64 (s27+(x30.Rules.length:Int))),(ca .i64 (s28+1))))
 else
 some (Ex.brk ())
def Wk(t0:GLaw):Option Bool:=
 jaa (α:=Bool) (
  if¬9<(t0.Enums.length:Int)then
   if¬9<(t0.Tables.length:Int)then
    some (decide (5<(t0.Scopes.length:Int)))
   else
   some true
  else
  some true) fun j3=>
 if j3=true then
  some false
 else
 (ia (bh t0) 0).bind fun y=>match y with
 |.inr v=>some v
 |.inl _=>
 (ia (Sg t0) (0,0)).bind fun y=>match y with
 |.inr v=>some v
 |.inl _=>
 (ia (Ug t0) (0,0)).bind fun y=>match y with
 |.inr v=>some v
 |.inl _=>
 some true
def Kh(t0:GHousehold):Option Bool:=
 some (decide ((t0.Facts.length:Int)≤40))
def Nk(t0:GPayConfig):Option Bool:=
 some (decide ((t0.Calendar.Holidays.length:Int)≤70))
def Kp(t0:GLaw) (t1:GHousehold) (t2:GPayConfig):Option Bool:=
 jaa (α:=Bool) (
  (Wk t0).bind fun x1=>
  if x1=true then
   (Kh t1).bind fun x3=>
   if x3=true then
    (Nk t2).bind fun x5=>
    some x5
   else
   some false
  else
  some false) fun j6=>
 some j6
def Nl(t0:Int):Option Bool:=
 jaa (α:=Bool) (
  if 0≤t0 then
   some (decide (t0≤3599))
  else
  some false) fun j2=>
 some j2
def Tn(t0:Int):Option Bool:=
 jaa (α:=Bool) (
  if(Lab t0 4)=0 then
   if(Lab t0 100)=0 then
    some ((Lab t0 400)==0)
   else
   some true
  else
  some false) fun j3=>
 some j3
def zc(t0:Int) (t1:Int):Option Int:=
 jaa (α:=Bool) (
  if¬t1<1 then
   some (decide (12<t1))
  else
  some true) fun j2=>
 if j2=true then
  some 0
 else
 jaa (α:=Bool) (
  if t1=2 then
   (Tn t0).bind fun x5=>
   some x5
  else
  some false) fun j6=>
 if j6=true then
  some 29
 else
 (idx mL (ca .i64 (t1-1))).bind fun x8=>
 some x8
def qk(t0:Int):Option Int:=
 some (ca .i64 ((ca .i64 ((ca .i64 (iab t0 4))-(ca .i64 (iab t0 100))))+(ca .i64 (iab t0 400))))
def Ag(t0:Int):Option Int:=
 (qk (ca .i64 (t0-1))).bind fun x1=>
 (qk 1899).bind fun x2=>
 some (ca .i64 ((ca .i64 ((ca .i64 ((ca .i64 (t0-1900))*365))+x1))-x2))
def qc(t0:Int) (t1:Int):(Int×Int)→Option (Ex (Int×Int) Int Unit):=fun(s10,s11)=>
 if s11<(ca .i64 (t1-1))then
  (zc t0 (ca .i64 (s11+1))).bind fun x13=>
  some (Ex.go ((ca .i64 (s10+x13)),(ca .i64 (s11+1))))
 else
 some (Ex.brk s10)
def ah(t0:Int) (t1:Int) (t2:Int):Option (Int×Int):=
 jaa (α:=Bool) (
  if¬t0<1900 then
   if¬2199<t0 then
    if¬t1<1 then
     if¬12<t1 then
      if¬t2<1 then
       (zc t0 t1).bind fun x6=>
       some (decide (x6<t2))
      else
      some true
     else
     some true
    else
    some true
   else
   some true
  else
  some true) fun j7=>
 if j7=true then
  some (0,3)
 else
 (Ag t0).bind fun x9=>
 (ia (qc t0 t1) (x9,0)).bind fun y=>match y with
 |.inr _=>none
 |.inl b16=>
 some ((ca .i64 ((ca .i64 (b16+t2))-1)),0)
def xr(t0:Int):Option Int:=
 (Nl t0).bind fun x1=>
 if x1=false then
  some 0
 else
 (zc (ca .i64 (1900+(ca .i64 (iab t0 12)))) (ca .i64 ((Lab t0 12)+1))).bind fun x3=>
 some x3
def Pl(t0:Int):Option (GDateRange×Int):=
 (Nl t0).bind fun x1=>
 if x1=false then
  some ((GDateRange.mk 0 0),3)
 else
 (ah (ca .i64 (1900+(ca .i64 (iab t0 12)))) (ca .i64 ((Lab t0 12)+1)) 1).bind fun x3=>
 if¬x3.2=0 then
  some ((GDateRange.mk 0 0),x3.2)
 else
 (xr t0).bind fun x5=>
 some ((GDateRange.mk x3.1 (ca .i64 (x3.1+x5))),0)
def bl(t0:Int):Option Bool:=
 jaa (α:=Bool) (
  if 97≤t0 then
   some (decide (t0≤122))
  else
  some false) fun j2=>
 some j2
def Gaf(t0:Int):Option Bool:=
 jaa (α:=Bool) (
  if 48≤t0 then
   some (decide (t0≤57))
  else
  some false) fun j2=>
 some j2
def Lc(t0:ByteArray):Int→Option (Ex Int Int Unit):=fun s1=>
 jaa (α:=Bool) (
  if s1<(t0.size:Int)then
   (vr t0 s1).bind fun x3=>
   (bl x3).bind fun x4=>
   if x4=false then
    (Gaf x3).bind fun x6=>
    if x6=false then
     some (x3==95)
    else
    some true
   else
   some true
  else
  some false) fun j8=>
 if j8=true then
  some (Ex.go (ca .i64 (s1+1)))
 else
 some (Ex.brk s1)
def Th(t0:ByteArray):Option Int:=
 (ia (Lc t0) 0).bind fun y=>match y with
 |.inr _=>none
 |.inl b11=>
 some b11
def yg(t0:ByteArray):Option Bool:=
 jaa (α:=Bool) (
  if t0=(vaa #[105,102])then
   some true
  else
  if t0=(vaa #[116,104,101,110])then
   some true
  else
  if t0=(vaa #[101,108,115,101])then
   some true
  else
  if t0=(vaa #[111,114])then
   some true
  else
  if t0=(vaa #[97,110,100])then
   some true
  else
  if t0=(vaa #[110,111,116])then
   some true
  else
  if t0=(vaa #[116,114,117,101])then
   some true
  else
  if t0=(vaa #[102,97,108,115,101])then
   some true
  else
  if t0=(vaa #[116,111,100,97,121])then
   some true
  else
  if t0=(vaa #[115,104,97,114,101])then
   some true
  else
  if t0=(vaa #[100,105,118])then
   some true
  else
  if t0=(vaa #[114,111,117,110,100])then
   some true
  else
  if t0=(vaa #[109,105,110])then
   some true
  else
  if t0=(vaa #[109,97,120])then
   some true
  else
  if t0=(vaa #[112,108,117,115])then
   some true
  else
  if t0=(vaa #[109,111,110,116,104,115])then
   some true
  else
  if t0=(vaa #[100,97,121,115])then
   some true
  else
  if t0=(vaa #[121,101,97,114,115])then
   some true
  else
  if t0=(vaa #[121,101,97,114])then
   some true
  else
  if t0=(vaa #[109,111,110,116,104])then
   some true
  else
  if t0=(vaa #[116,97,98])then
   some true
  else
  if t0=(vaa #[98,97,110,100])then
   some true
  else
  if t0=(vaa #[99,111,117,110,116])then
   some true
  else
  if t0=(vaa #[115,117,109])then
   some true
  else
  if t0=(vaa #[97,108,108])then
   some true
  else
  if t0=(vaa #[97,110,121])then
   some true
  else
  if t0=(vaa #[109,111,115,116])then
   some true
  else
  if t0=(vaa #[101,110,117,109])then
   some true
  else
  if t0=(vaa #[116,97,98,108,101])then
   some true
  else
  if t0=(vaa #[114,111,119])then
   some true
  else
  if t0=(vaa #[115,99,111,112,101])then
   some true
  else
  if t0=(vaa #[109,101,109,98,101,114,115])then
   some true
  else
  if t0=(vaa #[105,110,112,117,116])then
   some true
  else
  if t0=(vaa #[100,101,102])then
   some true
  else
  if t0=(vaa #[114,117,108,101])then
   some true
  else
  if t0=(vaa #[111,102])then
   some true
  else
  if t0=(vaa #[111,118,101,114])then
   some true
  else
  if t0=(vaa #[112,114,105,111])then
   some true
  else
  if t0=(vaa #[102,114,111,109])then
   some true
  else
  if t0=(vaa #[116,111])then
   some true
  else
  if t0=(vaa #[101,110,100])then
   some true
  else
  if t0=(vaa #[119,104,101,110])then
   some true
  else
  if t0=(vaa #[105,115])then
   some true
  else
  if t0=(vaa #[115,114,99])then
   some true
  else
  if t0=(vaa #[98,111,111,108])then
   some true
  else
  if t0=(vaa #[105,110,116])then
   some true
  else
  if t0=(vaa #[109,111,110,101,121])then
   some true
  else
  if t0=(vaa #[114,97,116,101])then
   some true
  else
  if t0=(vaa #[100,97,116,101])then
   some true
  else
  if t0=(vaa #[100,111,119,110])then
   some true
  else
  if t0=(vaa #[117,112])then
   some true
  else
  if t0=(vaa #[122,101,114,111])then
   some true
  else
  if t0=(vaa #[97,119,97,121])then
   some true
  else
  if t0=(vaa #[104,97,108,102])then
   some true
  else
  some (decide (t0=(vaa #[101,118,101,110])))) fun j55=>
 if j55=true then
  some true
 else
 some false
def Ra(t0:ByteArray):Option Bool:=
 jaa (α:=Bool) (
  if¬t0=(vaa #[])then
   (vr t0 0).bind fun x2=>
   (bl x2).bind fun x3=>
   if x3=true then
    (Th t0).bind fun x5=>
    if x5=(t0.size:Int)then
     if(t0.size:Int)≤16 then
      (yg t0).bind fun x8=>
      some (!x8)
     else
     some false
    else
    some false
   else
   some false
  else
  some false) fun j9=>
 some j9
def Bc(t0:List GEnum) (t1:(GEnum→Option Bool)):Int→Option (Ex Int Unit Int):=fun s1=>
 if s1<(t0.length:Int)then
  (idx t0 s1).bind fun x3=>
  (t1 x3).bind fun x4=>
  if x4=true then
   some (Ex.ret s1)
  else
  some (Ex.go (ca .i64 (s1+1)))
 else
 some (Ex.brk ())
def Db(t0:List GEnum) (t1:(GEnum→Option Bool)):Option Int:=
 (ia (Bc t0 t1) 0).bind fun y=>match y with
 |.inr v=>some v
 |.inl _=>
 some (-1)
def Ma(t0:List GEnum) (t1:(GEnum→Option Bool)):Option Bool:=
 (Db t0 t1).bind fun x1=>
 some (decide (0≤x1))
def Ue(t0:GEnum) (t1:ByteArray):Option Bool:=
 some (decide (t0.Name=t1))
def zi(t0:List GEnum) (t1:ByteArray):Option Bool:=
 (Ma t0 (fun x900=>Ue x900 t1)).bind fun x1=>
 some x1
def Nc(t0:List ByteArray) (t1:ByteArray):Int→Option (Ex Int Unit Int):=fun s1=>
 if s1<(t0.length:Int)then
  (idx t0 s1).bind fun x3=>
  if t1=x3 then
   some (Ex.ret s1)
  else
  some (Ex.go (ca .i64 (s1+1)))
 else
 some (Ex.brk ())
def ug(t0:List ByteArray) (t1:ByteArray):Option Int:=
 (ia (Nc t0 t1) 0).bind fun y=>match y with
 |.inr v=>some v
 |.inl _=>
 some (-1)
def Qc(t0:List ByteArray) (t1:ByteArray):Option Bool:=
 (ug t0 t1).bind fun x1=>
 some (decide (0≤x1))
def Oh(t2:GEnum):Int→Option (Ex Int Unit (Int×Int)):=fun s8=>
 if s8<(t2.Members.length:Int)then
  (idx t2.Members s8).bind fun x10=>
  (Ra x10).bind fun x11=>
  if x11=false then
   some (Ex.ret (2,(ca .i64 (100+s8))))
  else
  (uo t2.Members s8).bind fun x13=>
  (Qc x13 x10).bind fun x14=>
  if x14=true then
   some (Ex.ret (7,(ca .i64 (100+s8))))
  else
  some (Ex.go (ca .i64 (s8+1)))
 else
 some (Ex.brk ())
def Yk(t0:GLaw) (t1:Int) (t2:GEnum):Option (Int×Int):=
 (Ra t2.Name).bind fun x1=>
 if x1=false then
  some (2,0)
 else
 (uo t0.Enums t1).bind fun x3=>
 (zi x3 t2.Name).bind fun x4=>
 if x4=true then
  some (7,0)
 else
 if(t2.Members.length:Int)=0 then
  some (5,0)
 else
 if 16<(t2.Members.length:Int)then
  some (4,116)
 else
 (ia (Oh t2) 0).bind fun y=>match y with
 |.inr v=>some v
 |.inl _=>
 some (0,0)
def mh(t0:GLaw):Int→Option (Ex Int Unit GLawError):=fun s2=>
 if s2<(t0.Enums.length:Int)then
  (idx t0.Enums s2).bind fun x4=>
  (Yk t0 s2 x4).bind fun x5=>
  if¬x5.1=0 then
   some (Ex.ret (GLawError.mk x5.1 1 s2 x5.2))
  else
  some (Ex.go (ca .i64 (s2+1)))
 else
 some (Ex.brk ())
def Am(t0:GLaw):Option GLawError:=
 if 8<(t0.Enums.length:Int)then
  some (GLawError.mk 4 1 8 0)
 else
 (ia (mh t0) 0).bind fun y=>match y with
 |.inr v=>some v
 |.inl _=>
 some (GLawError.mk 0 0 0 0)
def Kb(t0:GType) (t1:List GEnum):Option Bool:=
 jaa (α:=Bool) (
  if t0.Kind=1 then
   some true
  else
  if t0.Kind=2 then
   some true
  else
  if t0.Kind=3 then
   some true
  else
  if t0.Kind=4 then
   some true
  else
  some (t0.Kind==5)) fun j5=>
 if j5=true then
  some (t0.Enum==0)
 else
 if t0.Kind=6 then
  jaa (α:=Bool) (
   if 0≤t0.Enum then
    some (decide (t0.Enum<(t1.length:Int)))
   else
   some false) fun j9=>
  some j9
 else
 some false
def wc(t0:GType) (t1:List GEnum):Option (Int×Int):=
 (Kb t0 t1).bind fun x1=>
 if x1=false then
  some (0,(-1))
 else
 if t0.Kind=1 then
  some (0,1)
 else
 if t0.Kind=2 then
  some ((-1000000000000),1000000000000)
 else
 if t0.Kind=3 then
  some ((-1000000000000000),1000000000000000)
 else
 if t0.Kind=4 then
  some ((-1000000000),1000000000)
 else
 if t0.Kind=5 then
  some (0,109572)
 else
 (idx t1 t0.Enum).bind fun x8=>
 some (0,(ca .i64 ((x8.Members.length:Int)-1)))
def nc(t0:GDateRange):Option Bool:=
 jaa (α:=Bool) (
  if 0≤t0.From then
   if t0.From≤t0.To then
    some (decide (t0.To≤109573))
   else
   some false
  else
  some false) fun j3=>
 some j3
def ab(t0:List GRow) (t1:(GRow→Option Bool)):Int→Option (Ex Int Unit (Int×Bool)):=fun s1=>
 if s1<(t0.length:Int)then
  (idx t0 s1).bind fun x3=>
  (t1 x3).bind fun x4=>
  if x4=true then
   some (Ex.ret (s1,true))
  else
  some (Ex.go (ca .i64 (s1+1)))
 else
 some (Ex.brk ())
def qb(t0:List GRow) (t1:(GRow→Option Bool)):Option (Int×Bool):=
 (ia (ab t0 t1) 0).bind fun y=>match y with
 |.inr v=>some v
 |.inl _=>
 some (0,false)
def Xb(t0:GDateRange):Option Bool:=
 jaa (α:=Bool) (
  (nc t0).bind fun x1=>
  if x1=true then
   some (decide (t0.From<t0.To))
  else
  some false) fun j3=>
 some j3
def Nh(t0:GDateRange) (t1:GDateRange):Option (GDateRange×Bool):=
 jaa (α:=Bool) (
  (Xb t0).bind fun x1=>
  if x1=true then
   (Xb t1).bind fun x3=>
   some (!x3)
  else
  some true) fun j4=>
 if j4=true then
  some ((GDateRange.mk 0 0),false)
 else
 if(min t0.To t1.To)≤(max t0.From t1.From)then
  some ((GDateRange.mk 0 0),false)
 else
 some ((GDateRange.mk (max t0.From t1.From) (min t0.To t1.To)),true)
def Nj(t0:GRow) (t1:GRow):Option Bool:=
 (Nh t0.Valid t1.Valid).bind fun x1=>
 jaa (α:=Bool) (
  if x1.2=true then
   some (decide ((max t0.Lo t1.Lo)<(min t0.Hi t1.Hi)))
  else
  some false) fun j3=>
 some j3
def Pc(t0:GRow) (t1:GRow):Option Bool:=
 (Nj t0 t1).bind fun x1=>
 some x1
def Og(t0:GTable) (x7:(Int×Int)) (x8:(Int×Int)):Int→Option (Ex Int Unit (Int×Int)):=fun s9=>
 if s9<(t0.Rows.length:Int)then
  (idx t0.Rows s9).bind fun x11=>
  jaa (α:=Bool) (
   (nc x11.Valid).bind fun x12=>
   if x12=true then
    if¬x11.Valid.From=x11.Valid.To then
     some (decide (x11.Hi≤x11.Lo))
    else
    some true
   else
   some true) fun j15=>
  if j15=true then
   some (Ex.ret (s9,3))
  else
  jaa (α:=Bool) (
   if¬x11.Lo<x7.1 then
    if¬x7.2<x11.Lo then
     if¬(ca .i64 (x11.Hi-1))<x7.1 then
      some (decide (x7.2<(ca .i64 (x11.Hi-1))))
     else
     some true
    else
    some true
   else
   some true) fun j20=>
  if j20=true then
   some (Ex.ret (s9,3))
  else
  jaa (α:=Bool) (
   if¬x11.N<x8.1 then
    some (decide (x8.2<x11.N))
   else
   some true) fun j23=>
  if j23=true then
   some (Ex.ret (s9,3))
  else
  (uo t0.Rows s9).bind fun x25=>
  (qb x25 (fun x900=>Pc x900 x11)).bind fun x26=>
  if x26.2=true then
   some (Ex.ret (s9,11))
  else
  some (Ex.go (ca .i64 (s9+1)))
 else
 some (Ex.brk ())
def si(t0:GTable) (t1:List GEnum):Option (Int×Int):=
 if 64<(t0.Rows.length:Int)then
  some (64,4)
 else
 jaa (α:=Bool) (
  (Kb t0.Key t1).bind fun x2=>
  if x2=true then
   (Kb t0.Value t1).bind fun x4=>
   some (!x4)
  else
  some true) fun j5=>
 if j5=true then
  some ((-1),8)
 else
 (wc t0.Key t1).bind fun x7=>
 (wc t0.Value t1).bind fun x8=>
 (ia (Og t0 x7 x8) 0).bind fun y=>match y with
 |.inr v=>some v
 |.inl _=>
 some (0,0)
def cc(t0:List GTable) (t1:(GTable→Option Bool)):Int→Option (Ex Int Unit Int):=fun s1=>
 if s1<(t0.length:Int)then
  (idx t0 s1).bind fun x3=>
  (t1 x3).bind fun x4=>
  if x4=true then
   some (Ex.ret s1)
  else
  some (Ex.go (ca .i64 (s1+1)))
 else
 some (Ex.brk ())
def lb(t0:List GTable) (t1:(GTable→Option Bool)):Option Int:=
 (ia (cc t0 t1) 0).bind fun y=>match y with
 |.inr v=>some v
 |.inl _=>
 some (-1)
def Ja(t0:List GTable) (t1:(GTable→Option Bool)):Option Bool:=
 (lb t0 t1).bind fun x1=>
 some (decide (0≤x1))
def Xd(t0:GTable) (t1:ByteArray):Option Bool:=
 some (decide (t0.Name=t1))
def Ti(t0:List GTable) (t1:ByteArray):Option Bool:=
 (Ja t0 (fun x900=>Xd x900 t1)).bind fun x1=>
 some x1
def wg(t0:GLaw):Int→Option (Ex Int Unit GLawError):=fun s2=>
 if s2<(t0.Tables.length:Int)then
  (idx t0.Tables s2).bind fun x4=>
  (si x4 t0.Enums).bind fun x5=>
  jaa (α:=(Int×Int)) (
   (Ra x4.Name).bind fun x6=>
   if x6=false then
    some (2,0)
   else
   jaa (α:=Bool) (
    (zi t0.Enums x4.Name).bind fun x8=>
    if x8=false then
     (uo t0.Tables s2).bind fun x10=>
     (Ti x10 x4.Name).bind fun x11=>
     some x11
    else
    some true) fun j12=>
   if j12=true then
    some (7,0)
   else
   if¬x5.2=0 then
    if¬x5.1=(-1)then
     some (x5.2,(ca .i64 (100+x5.1)))
    else
    some (x5.2,0)
   else
   some (0,0)) fun(j16,j17)=>
  if¬j16=0 then
   some (Ex.ret (GLawError.mk j16 2 s2 j17))
  else
  some (Ex.go (ca .i64 (s2+1)))
 else
 some (Ex.brk ())
def zl(t0:GLaw):Option GLawError:=
 if 8<(t0.Tables.length:Int)then
  some (GLawError.mk 4 2 8 0)
 else
 (ia (wg t0) 0).bind fun y=>match y with
 |.inr v=>some v
 |.inl _=>
 some (GLawError.mk 0 0 0 0)
def kh(t0:List (List Int)) (t1:Int):Option (List Int):=
 if t0.length≤1048576∧(∀l∈t0,l.length≤1048576∧∀e∈l,0≤e∧e<t0.length)∧0≤t1∧t1<t0.length then
  some (JA t0 t1)
 else none
def Ka(t0:List Int):Option (List Int):=if t0.length≤8796093022208 then some (t0.mergeSort fun x y=>decide (x≤y))else none
def Aa(t0:List Int):Option (List Int):=if t0.length≤8796093022208 then some (Go.Lib.compact t0)else none
def Ah(t0:List Int):Option (List Int):=
 (Ka t0).bind fun x1=>
 (Aa x1).bind fun x2=>
 some x2
def Zf(t0:List GNode):((List Int)×(List Int)×(List Int)×Int)→Option (Ex ((List Int)×(List Int)×(List Int)×Int) ((List Int)×(List Int)×(List Int)) Unit):=fun(s1,s2,s3,s4)=>
 if s4<(t0.length:Int)then
  jaa (α:=((List Int)×(List Int)×(List Int))) (
   (idx t0 s4).bind fun x6=>
   if x6.Op=7 then
    (app 8 s1 ([x6.N])).bind fun x8=>
    some (x8,s2,s3)
   else
   if x6.Op=8 then
    (app 8 s2 ([x6.N])).bind fun x10=>
    some (s1,x10,s3)
   else
   jaa (α:=Bool) (
    if x6.Op=36 then
     some true
    else
    if x6.Op=37 then
     some true
    else
    if x6.Op=38 then
     some true
    else
    some (x6.Op==39)) fun j14=>
   if j14=true then
    (app 8 s3 ([x6.N])).bind fun x16=>
    some (s1,s2,x16)
   else
   some (s1,s2,s3)) fun(j17,j18,j19)=>
  some (Ex.go (j17,j18,j19,(ca .i64 (s4+1))))
 else
 some (Ex.brk (s1,s2,s3))
def Zd(t0:List GNode):Option ((List Int)×(List Int)×(List Int)):=
 (ia (Zf t0) (([]:List Int),([]:List Int),([]:List Int),0)).bind fun y=>match y with
 |.inr _=>none
 |.inl (b24,b25,b26)=>
 (Ah b24).bind fun x27=>
 (Ah b25).bind fun x28=>
 (Ah b26).bind fun x29=>
 some (x27,x28,x29)
def pe(t1:Int) (x1:((List Int)×(List Int)×(List Int))):((List Int)×Int)→Option (Ex ((List Int)×Int) (List Int) Unit):=fun(s3,s4)=>
 if s4<(x1.2.1.length:Int)then
  jaa (α:=(List Int)) (
   (idx x1.2.1 s4).bind fun x6=>
   jaa (α:=Bool) (
    if 0≤x6 then
     some (decide (x6<t1))
    else
    some false) fun j8=>
   if j8=true then
    (app 8 s3 ([x6])).bind fun x10=>
    some x10
   else
   some s3) fun j11=>
  some (Ex.go (j11,(ca .i64 (s4+1))))
 else
 some (Ex.brk s3)
def Ae(t1:Int) (x2:((List Int)×(List Int)×(List Int))):((List Int)×Int)→Option (Ex ((List Int)×Int) (List Int) Unit):=fun(s15,s16)=>
 if s16<(x2.2.1.length:Int)then
  jaa (α:=(List Int)) (
   (idx x2.2.1 s16).bind fun x18=>
   jaa (α:=Bool) (
    if 0≤x18 then
     some (decide (x18<t1))
    else
    some false) fun j20=>
   if j20=true then
    (app 8 s15 ([x18])).bind fun x22=>
    some x22
   else
   some s15) fun j23=>
  some (Ex.go (j23,(ca .i64 (s16+1))))
 else
 some (Ex.brk s15)
def bd(t0:GRule) (t1:Int):Option (List Int):=
 (Zd t0.Guard).bind fun x1=>
 (Zd t0.Value).bind fun x2=>
 (ia (pe t1 x1) (([]:List Int),0)).bind fun y=>match y with
 |.inr _=>none
 |.inl b14=>
 (ia (Ae t1 x2) (b14,0)).bind fun y=>match y with
 |.inr _=>none
 |.inl b26=>
 some b26
def ag(t0:List Int):Option (List Int):=
 (Ka t0).bind fun x1=>
 (Aa x1).bind fun x2=>
 some x2
def Jb(t0:GScope):Option (List (List Int)):=
 if t0.Defs.length≤1048576∧t0.Rules.length≤1048576∧(∀r∈t0.Rules,r.Guard.length≤1048576∧r.Value.length≤1048576)then
  ((waa t0.Defs.length).mapM fun(d:Nat)=>((t0.Rules.filter fun(r:GRule)=>r.Def==(d:Int)).mapM fun r=>bd r t0.Defs.length).bind fun ls=>some (Te ls.flatten))
 else none
def pc(t0:GScope) (t1:Int):Option (List Int):=
 jaa (α:=Bool) (
  if¬t1<0 then
   some (decide ((t0.Defs.length:Int)≤t1))
  else
  some true) fun j2=>
 if j2=true then
  some ([])
 else
 (Jb t0).bind fun x4=>
 (kh x4 t1).bind fun x5=>
 some x5
def Yb(t0:List GScope) (t1:(GScope→Option Bool)):Int→Option (Ex Int Unit Int):=fun s1=>
 if s1<(t0.length:Int)then
  (idx t0 s1).bind fun x3=>
  (t1 x3).bind fun x4=>
  if x4=true then
   some (Ex.ret s1)
  else
  some (Ex.go (ca .i64 (s1+1)))
 else
 some (Ex.brk ())
def ib(t0:List GScope) (t1:(GScope→Option Bool)):Option Int:=
 (ia (Yb t0 t1) 0).bind fun y=>match y with
 |.inr v=>some v
 |.inl _=>
 some (-1)
def Ia(t0:List GScope) (t1:(GScope→Option Bool)):Option Bool:=
 (ib t0 t1).bind fun x1=>
 some (decide (0≤x1))
def Oc(t0:GScope) (t1:GScope):Option Bool:=
 some (decide (t0.Name=t1.Name))
def Vb(t0:GField) (t1:GField):Option Bool:=
 some (decide (t0.Name=t1.Name))
def bc(t0:List GField) (t1:(GField→Option Bool)):Int→Option (Ex Int Unit Int):=fun s1=>
 if s1<(t0.length:Int)then
  (idx t0 s1).bind fun x3=>
  (t1 x3).bind fun x4=>
  if x4=true then
   some (Ex.ret s1)
  else
  some (Ex.go (ca .i64 (s1+1)))
 else
 some (Ex.brk ())
def jb(t0:List GField) (t1:(GField→Option Bool)):Option Int:=
 (ia (bc t0 t1) 0).bind fun y=>match y with
 |.inr v=>some v
 |.inl _=>
 some (-1)
def Ba(t0:List GField) (t1:(GField→Option Bool)):Option Bool:=
 (jb t0 t1).bind fun x1=>
 some (decide (0≤x1))
def eg(t0:GLaw) (t1:GField) (t2:List GField) (t3:List GField):Option Int:=
 (Ra t1.Name).bind fun x1=>
 if x1=false then
  some 2
 else
 jaa (α:=Bool) (
  (Ba t2 (fun x900=>Vb x900 t1)).bind fun x3=>
  if x3=false then
   (Ba t3 (fun x900=>Vb x900 t1)).bind fun x5=>
   some x5
  else
  some true) fun j6=>
 if j6=true then
  some 7
 else
 (Kb t1.Type_ t0.Enums).bind fun x8=>
 if x8=false then
  some 8
 else
 some 0
def Rg(t0:List GField):((List GType)×Int)→Option (Ex ((List GType)×Int) (List GType) Unit):=fun(s1,s2)=>
 if s2<(t0.length:Int)then
  (idx t0 s2).bind fun x4=>
  (app 16 s1 ([x4.Type_])).bind fun x5=>
  some (Ex.go (x5,(ca .i64 (s2+1))))
 else
 some (Ex.brk s1)
def tg(t0:List GField):Option (List GType):=
 (ia (Rg t0) (([]:List GType),0)).bind fun y=>match y with
 |.inr _=>none
 |.inl b8=>
 some b8
def Bf(t0:GLaw) (t1:Int):Option GSignature:=
 (idx t0.Scopes t1).bind fun x1=>
 (tg x1.Inputs).bind fun x2=>
 (tg x1.Defs).bind fun x3=>
 jaa (α:=((List GType)×Bool)) (
  jaa (α:=Bool) (
   if 0≤x1.MemberScope then
    some (decide (x1.MemberScope<(t0.Scopes.length:Int)))
   else
   some false) fun j5=>
  if j5=true then
   (idx t0.Scopes x1.MemberScope).bind fun x7=>
   (tg x7.Defs).bind fun x8=>
   some (x8,true)
  else
  some (([]:List GType),false)) fun(j9,j10)=>
 some (GSignature.mk t0.Enums t0.Tables x2 x3 j9 j10)
def Ac(t0:List GRule) (t1:(GRule→Option Bool)):Int→Option (Ex Int Unit Int):=fun s1=>
 if s1<(t0.length:Int)then
  (idx t0 s1).bind fun x3=>
  (t1 x3).bind fun x4=>
  if x4=true then
   some (Ex.ret s1)
  else
  some (Ex.go (ca .i64 (s1+1)))
 else
 some (Ex.brk ())
def Fb(t0:List GRule) (t1:(GRule→Option Bool)):Option Int:=
 (ia (Ac t0 t1) 0).bind fun y=>match y with
 |.inr v=>some v
 |.inl _=>
 some (-1)
def gb(t0:List GRule) (t1:(GRule→Option Bool)):Option Bool:=
 (Fb t0 t1).bind fun x1=>
 some (decide (0≤x1))
def Ee(t0:GRule) (t1:GRule):Option Bool:=
 some (decide (t0.Name=t1.Name))
def strings_Contains(t0:ByteArray) (t1:ByteArray):Option Bool:=
 if t1.size=1 then some (t0.data.toList.contains (t1.data.toList.headD 0))else none
def fg(t0:ByteArray):Int→Option (Ex Int Unit Bool):=fun s5=>
 if s5<(t0.size:Int)then
  jaa (α:=Bool) (
   (vr t0 s5).bind fun x7=>
   if¬x7<32 then
    some (decide (126<x7))
   else
   some true) fun j9=>
  if j9=true then
   some (Ex.ret false)
  else
  some (Ex.go (ca .i64 (s5+1)))
 else
 some (Ex.brk ())
def Kg(t0:ByteArray):Option Bool:=
 jaa (α:=Bool) (
  if¬64<(t0.size:Int)then
   (strings_Contains t0 (vaa #[34])).bind fun x2=>
   some x2
  else
  some true) fun j3=>
 if j3=true then
  some false
 else
 (ia (fg t0) 0).bind fun y=>match y with
 |.inr v=>some v
 |.inl _=>
 some true
def Bh(t0:Int):Option Int:=
 jaa (α:=Bool) (
  if t0=1 then
   some true
  else
  if t0=2 then
   some true
  else
  if t0=3 then
   some true
  else
  if t0=4 then
   some true
  else
  if t0=5 then
   some true
  else
  if t0=6 then
   some true
  else
  if t0=7 then
   some true
  else
  if t0=8 then
   some true
  else
  if t0=9 then
   some true
  else
  if t0=35 then
   some true
  else
  if t0=36 then
   some true
  else
  if t0=37 then
   some true
  else
  if t0=38 then
   some true
  else
  some (t0==39)) fun j14=>
 if j14=true then
  some 0
 else
 jaa (α:=Bool) (
  if t0=10 then
   some true
  else
  if t0=25 then
   some true
  else
  if t0=31 then
   some true
  else
  if t0=32 then
   some true
  else
  if t0=33 then
   some true
  else
  some (t0==34)) fun j21=>
 if j21=true then
  some 1
 else
 jaa (α:=Bool) (
  if t0=11 then
   some true
  else
  if t0=12 then
   some true
  else
  if t0=13 then
   some true
  else
  if t0=14 then
   some true
  else
  if t0=15 then
   some true
  else
  if t0=16 then
   some true
  else
  if t0=17 then
   some true
  else
  if t0=18 then
   some true
  else
  if t0=19 then
   some true
  else
  if t0=20 then
   some true
  else
  if t0=21 then
   some true
  else
  if t0=22 then
   some true
  else
  if t0=23 then
   some true
  else
  if t0=24 then
   some true
  else
  if t0=27 then
   some true
  else
  if t0=28 then
   some true
  else
  if t0=29 then
   some true
  else
  some (t0==30)) fun j40=>
 if j40=true then
  some 2
 else
 if t0=26 then
  some 3
 else
 some (-1)
def uh(t0:List GNode):((List Int)×(List Int)×Int)→Option (Ex ((List Int)×(List Int)×Int) ((List Int)×(List Int)) ((List Int)×Int×Int)):=fun(s4,s5,s6)=>
 if s6<(t0.length:Int)then
  (idx t0 s6).bind fun x8=>
  (Bh x8.Op).bind fun x9=>
  if x9<0 then
   some (Ex.ret ([],s6,2))
  else
  if(s5.length:Int)<x9 then
   some (Ex.ret ([],s6,5))
  else
  (idx s4 s6).bind fun x12=>
  (put s4 s6 s6).bind fun x13=>
  jaa (α:=(List Int)) (
   if 0<x9 then
    (idx s5 (ca .i64 ((s5.length:Int)-x9))).bind fun x15=>
    (idx x13 s6).bind fun x16=>
    (put x13 s6 x15).bind fun x17=>
    some x17
   else
   some x13) fun j18=>
  (uo s5 (ca .i64 ((s5.length:Int)-x9))).bind fun x19=>
  (idx j18 s6).bind fun x20=>
  (app 8 x19 ([x20])).bind fun x21=>
  if 12<(x21.length:Int)then
   some (Ex.ret ([],s6,16))
  else
  some (Ex.go (j18,x21,(ca .i64 (s6+1))))
 else
 some (Ex.brk (s4,s5))
def oi(t0:List GNode):Option ((List Int)×Int×Int):=
 if 48<(t0.length:Int)then
  some ([],0,4)
 else
 if(t0.length:Int)=0 then
  some ([],0,5)
 else
 (au 8 0 (t0.length:Int) (t0.length:Int)).bind fun x3=>
 (ia (uh t0) (x3,([]:List Int),0)).bind fun y=>match y with
 |.inr v=>some v
 |.inl (b26,b27)=>
 if 1<(b27.length:Int)then
  some ([],(t0.length:Int),4)
 else
 some (b26,0,0)
def Oj(t0:Int):Option Bool:=
 jaa (α:=Bool) (
  if t0=1 then
   some true
  else
  if t0=2 then
   some true
  else
  if t0=3 then
   some true
  else
  if t0=4 then
   some true
  else
  if t0=5 then
   some true
  else
  if t0=6 then
   some true
  else
  if t0=7 then
   some true
  else
  if t0=8 then
   some true
  else
  if t0=14 then
   some true
  else
  if t0=15 then
   some true
  else
  if t0=16 then
   some true
  else
  if t0=33 then
   some true
  else
  if t0=34 then
   some true
  else
  if t0=36 then
   some true
  else
  if t0=37 then
   some true
  else
  if t0=38 then
   some true
  else
  some (t0==39)) fun j17=>
 if j17=true then
  some true
 else
 some false
def Qb(t0:Int) (t1:Int) (t2:GSignature):Option (GType×Int):=
 (wc (GType.mk t1 0) t2.Enums).bind fun x1=>
 jaa (α:=Bool) (
  if¬t0<x1.1 then
   some (decide (x1.2<t0))
  else
  some true) fun j3=>
 if j3=true then
  some ((GType.mk 0 0),3)
 else
 some ((GType.mk t1 0),0)
def kn(t0:Int) (t1:GSignature):Option (GType×Int):=
 if t0<0 then
  some ((GType.mk 0 0),3)
 else
 jaa (α:=Bool) (
  if¬(t1.Enums.length:Int)≤(ca .i64 (iab t0 16))then
   (idx t1.Enums (ca .i64 (iab t0 16))).bind fun x3=>
   some (decide ((x3.Members.length:Int)≤(Lab t0 16)))
  else
  some true) fun j4=>
 if j4=true then
  some ((GType.mk 0 0),6)
 else
 some ((GType.mk 6 (ca .i64 (iab t0 16))),0)
def Wc(t0:Int) (t1:List GType) (t2:GSignature):Option (GType×Int):=
 jaa (α:=Bool) (
  if¬t0<0 then
   some (decide ((t1.length:Int)≤t0))
  else
  some true) fun j2=>
 if j2=true then
  some ((GType.mk 0 0),6)
 else
 (idx t1 t0).bind fun x4=>
 (Kb x4 t2.Enums).bind fun x5=>
 if x5=false then
  some ((GType.mk 0 0),8)
 else
 some (x4,0)
def qi(t0:Int):Option Bool:=
 jaa (α:=Bool) (
  if 0≤t0 then
   some (decide (t0≤5))
  else
  some false) fun j2=>
 some j2
def Zj(t0:GNode) (t1:GType) (t2:GSignature):Option (GType×Int):=
 jaa (α:=(Int⊕(GType×Int))) (
  if t0.Op=34 then
   jaa (α:=Bool) (
    if¬t0.N<0 then
     (qi (Lab t0.N 8)).bind fun x3=>
     some (!x3)
    else
    some true) fun j4=>
   if j4=true then
    some (Sum.inr ((GType.mk 0 0),3))
   else
   some (Sum.inl (ca .i64 (iab t0.N 8)))
  else
  some (Sum.inl t0.N)) fun z=>match z with
 |.inr v=>some v
 |.inl j6=>
 jaa (α:=Bool) (
  if¬j6<0 then
   some (decide ((t2.Tables.length:Int)≤j6))
  else
  some true) fun j8=>
 if j8=true then
  some ((GType.mk 0 0),6)
 else
 (idx t2.Tables j6).bind fun x10=>
 jaa (α:=Bool) (
  (Kb x10.Key t2.Enums).bind fun x11=>
  if x11=true then
   (Kb x10.Value t2.Enums).bind fun x13=>
   if x13=true then
    some (!((t1.Kind==x10.Key.Kind)&&(t1.Enum==x10.Key.Enum)))
   else
   some true
  else
  some true) fun j15=>
 if j15=true then
  some ((GType.mk 0 0),8)
 else
 if t0.Op=34 then
  jaa (α:=Bool) (
   if x10.Key.Kind=3 then
    some (x10.Value.Kind !=4)
   else
   some true) fun j19=>
  if j19=true then
   some ((GType.mk 0 0),8)
  else
  some (x10.Key,0)
 else
 some (x10.Value,0)
def He(t0:Int):Option Bool:=
 jaa (α:=Bool) (
  if¬t0=2 then
   if¬t0=3 then
    some (t0==4)
   else
   some true
  else
  some true) fun j3=>
 some j3
def Mg(t0:GNode) (t1:GSignature):Option (GType×Int):=
 if t1.HasMembers=false then
  some ((GType.mk 0 0),6)
 else
 if t0.Op=35 then
  some ((GType.mk 2 0),0)
 else
 (Wc t0.N t1.MemberDefs t1).bind fun x3=>
 if¬x3.2=0 then
  some ((GType.mk 0 0),x3.2)
 else
 jaa (α:=Bool) (
  if t0.Op=36 then
   if¬x3.1.Kind=2 then
    some (x3.1.Kind==3)
   else
   some true
  else
  jaa (α:=Bool) (
   if t0.Op=37 then
    some true
   else
   some (t0.Op==38)) fun j8=>
  if j8=true then
   some (x3.1.Kind==1)
  else
  if t0.Op=39 then
   (He x3.1.Kind).bind fun x11=>
   if x11=false then
    some (x3.1.Kind==5)
   else
   some true
  else
  some false) fun j13=>
 if j13=false then
  some ((GType.mk 0 0),8)
 else
 some (x3.1,0)
def Zh(t0:Int) (t1:Int) (t2:Int):Option (GType×Bool):=
 if t0=14 then
  jaa (α:=Bool) (
   if t2=4 then
    if¬t1=3 then
     some (t1==4)
    else
    some true
   else
   some false) fun j4=>
  some ((GType.mk t1 0),j4)
 else
 if t2=2 then
  jaa (α:=Bool) (
   if¬t1=2 then
    some (t1==3)
   else
   some true) fun j7=>
  some ((GType.mk t1 0),j7)
 else
 jaa (α:=Bool) (
  if t0=15 then
   if t1=3 then
    some (t2==3)
   else
   some false
  else
  some false) fun j10=>
 if j10=true then
  some ((GType.mk 4 0),true)
 else
 some ((GType.mk 0 0),false)
def Ya(t0:Int) (t1:List GType):Option (GType×Bool):=
 if t0=10 then
  (idx t1 0).bind fun x2=>
  (He x2.Kind).bind fun x3=>
  some (x2,x3)
 else
 if t0=25 then
  (idx t1 0).bind fun x5=>
  some ((GType.mk 1 0),(x5.Kind==1))
 else
 jaa (α:=Bool) (
  if t0=11 then
   some true
  else
  some (t0==12)) fun j7=>
 if j7=true then
  jaa (α:=(Int×Int×Bool)) (
   (idx t1 0).bind fun x9=>
   (idx t1 1).bind fun x10=>
   if x9.Kind=x10.Kind∧x9.Enum=x10.Enum then
    (He x9.Kind).bind fun x12=>
    some (x9.Kind,x9.Enum,x12)
   else
   some (x9.Kind,x9.Enum,false)) fun(j13,j14,j15)=>
  some ((GType.mk j13 j14),j15)
 else
 jaa (α:=Bool) (
  if t0=13 then
   some true
  else
  if t0=14 then
   some true
  else
  some (t0==15)) fun j18=>
 if j18=true then
  (idx t1 0).bind fun x20=>
  (idx t1 1).bind fun x21=>
  (Zh t0 x20.Kind x21.Kind).bind fun x22=>
  some (x22.1,x22.2)
 else
 if t0=16 then
  jaa (α:=(Int×Int×Bool)) (
   (idx t1 0).bind fun x24=>
   if x24.Kind=3 then
    (idx t1 1).bind fun x26=>
    some (x24.Kind,x24.Enum,(x26.Kind==3))
   else
   some (x24.Kind,x24.Enum,false)) fun(j27,j28,j29)=>
  some ((GType.mk j27 j28),j29)
 else
 jaa (α:=Bool) (
  if t0=17 then
   some true
  else
  some (t0==18)) fun j31=>
 if j31=true then
  jaa (α:=(Int×Int×Bool)) (
   (idx t1 0).bind fun x33=>
   (idx t1 1).bind fun x34=>
   if x33.Kind=x34.Kind∧x33.Enum=x34.Enum then
    (He x33.Kind).bind fun x36=>
    if x36=false then
     some (x33.Kind,x33.Enum,(x33.Kind==5))
    else
    some (x33.Kind,x33.Enum,true)
   else
   some (x33.Kind,x33.Enum,false)) fun(j38,j39,j40)=>
  some ((GType.mk j38 j39),j40)
 else
 jaa (α:=Bool) (
  if t0=19 then
   some true
  else
  some (t0==20)) fun j42=>
 if j42=true then
  (idx t1 0).bind fun x44=>
  (idx t1 1).bind fun x45=>
  some ((GType.mk 1 0),((x44.Kind==x45.Kind)&&(x44.Enum==x45.Enum)))
 else
 jaa (α:=Bool) (
  if t0=21 then
   some true
  else
  some (t0==22)) fun j47=>
 if j47=true then
  jaa (α:=Bool) (
   (idx t1 0).bind fun x49=>
   (idx t1 1).bind fun x50=>
   if x49.Kind=x50.Kind∧x49.Enum=x50.Enum then
    (He x49.Kind).bind fun x52=>
    if x52=false then
     some (x49.Kind==5)
    else
    some true
   else
   some false) fun j54=>
  some ((GType.mk 1 0),j54)
 else
 jaa (α:=Bool) (
  if t0=23 then
   some true
  else
  some (t0==24)) fun j56=>
 if j56=true then
  jaa (α:=Bool) (
   (idx t1 0).bind fun x58=>
   if x58.Kind=1 then
    (idx t1 1).bind fun x60=>
    some (x60.Kind==1)
   else
   some false) fun j61=>
  some ((GType.mk 1 0),j61)
 else
 if t0=26 then
  jaa (α:=(Int×Int×Bool)) (
   (idx t1 1).bind fun x63=>
   (idx t1 0).bind fun x64=>
   if x64.Kind=1 then
    (idx t1 2).bind fun x66=>
    some (x63.Kind,x63.Enum,((x63.Kind==x66.Kind)&&(x63.Enum==x66.Enum)))
   else
   some (x63.Kind,x63.Enum,false)) fun(j67,j68,j69)=>
  some ((GType.mk j67 j68),j69)
 else
 jaa (α:=Bool) (
  if t0=27 then
   some true
  else
  some (t0==28)) fun j71=>
 if j71=true then
  jaa (α:=(Int×Int×Bool)) (
   (idx t1 0).bind fun x73=>
   if x73.Kind=5 then
    (idx t1 1).bind fun x75=>
    some (x73.Kind,x73.Enum,(x75.Kind==2))
   else
   some (x73.Kind,x73.Enum,false)) fun(j76,j77,j78)=>
  some ((GType.mk j76 j77),j78)
 else
 jaa (α:=Bool) (
  if t0=29 then
   some true
  else
  some (t0==30)) fun j80=>
 if j80=true then
  jaa (α:=Bool) (
   (idx t1 0).bind fun x82=>
   if x82.Kind=5 then
    (idx t1 1).bind fun x84=>
    some (x84.Kind==5)
   else
   some false) fun j85=>
  some ((GType.mk 2 0),j85)
 else
 jaa (α:=Bool) (
  if t0=31 then
   some true
  else
  some (t0==32)) fun j87=>
 if j87=true then
  (idx t1 0).bind fun x89=>
  some ((GType.mk 2 0),(x89.Kind==5))
 else
 some ((GType.mk 0 0),false)
def za(t0:GNode) (t1:List GType) (t2:GSignature):Option (GType×Int):=
 jaa (α:=(Unit⊕(GType×Int))) (
  if t0.Op=1 then
   (Qb t0.N 1 t2).bind fun x2=>
   some (Sum.inr (x2.1,x2.2))
  else
  if t0.Op=2 then
   (Qb t0.N 2 t2).bind fun x4=>
   some (Sum.inr (x4.1,x4.2))
  else
  if t0.Op=3 then
   (Qb t0.N 3 t2).bind fun x6=>
   some (Sum.inr (x6.1,x6.2))
  else
  if t0.Op=4 then
   (Qb t0.N 4 t2).bind fun x8=>
   some (Sum.inr (x8.1,x8.2))
  else
  if t0.Op=5 then
   (Qb t0.N 5 t2).bind fun x10=>
   some (Sum.inr (x10.1,x10.2))
  else
  if t0.Op=6 then
   (kn t0.N t2).bind fun x12=>
   some (Sum.inr (x12.1,x12.2))
  else
  if t0.Op=7 then
   (Wc t0.N t2.Inputs t2).bind fun x14=>
   some (Sum.inr (x14.1,x14.2))
  else
  if t0.Op=8 then
   (Wc t0.N t2.Defs t2).bind fun x16=>
   some (Sum.inr (x16.1,x16.2))
  else
  if t0.Op=9 then
   some (Sum.inr ((GType.mk 5 0),0))
  else
  jaa (α:=Bool) (
   if t0.Op=33 then
    some true
   else
   some (t0.Op==34)) fun j19=>
  if j19=true then
   (idx t1 0).bind fun x21=>
   (Zj t0 x21 t2).bind fun x22=>
   some (Sum.inr (x22.1,x22.2))
  else
  jaa (α:=Bool) (
   if t0.Op=35 then
    some true
   else
   if t0.Op=36 then
    some true
   else
   if t0.Op=37 then
    some true
   else
   if t0.Op=38 then
    some true
   else
   some (t0.Op==39)) fun j27=>
  if j27=true then
   (Mg t0 t2).bind fun x29=>
   some (Sum.inr (x29.1,x29.2))
  else
  jaa (α:=Bool) (
   if t0.Op=14 then
    some true
   else
   if t0.Op=15 then
    some true
   else
   some (t0.Op==16)) fun j32=>
  if j32=true then
   (qi t0.N).bind fun x34=>
   if x34=false then
    some (Sum.inr ((GType.mk 0 0),3))
   else
   some (Sum.inl ())
  else
  some (Sum.inl ())) fun z=>match z with
 |.inr v=>some v
 |.inl _=>
 (Ya t0.Op t1).bind fun x36=>
 if x36.2=false then
  some ((GType.mk 0 0),8)
 else
 some (x36.1,0)
def fk(t0:List GNode) (t1:GSignature):((List GType)×Int)→Option (Ex ((List GType)×Int) (List GType) (GType×Int×Int)):=fun(s3,s4)=>
 if s4<(t0.length:Int)then
  (idx t0 s4).bind fun x6=>
  jaa (α:=Bool) (
   if¬x6.N=0 then
    (Oj x6.Op).bind fun x8=>
    some (!x8)
   else
   some false) fun j9=>
  if j9=true then
   some (Ex.ret ((GType.mk 0 0),s4,2))
  else
  (Bh x6.Op).bind fun x11=>
  (Zx s3 (ca .i64 ((s3.length:Int)-x11))).bind fun x12=>
  (za x6 x12 t1).bind fun x13=>
  if¬x13.2=0 then
   some (Ex.ret ((GType.mk 0 0),s4,x13.2))
  else
  (uo s3 (ca .i64 ((s3.length:Int)-x11))).bind fun x15=>
  (app 16 x15 ([x13.1])).bind fun x16=>
  some (Ex.go (x16,(ca .i64 (s4+1))))
 else
 some (Ex.brk s3)
def qn(t0:List GNode) (t1:GSignature):Option (GType×Int×Int):=
 (oi t0).bind fun x1=>
 if¬x1.2.2=0 then
  some ((GType.mk 0 0),x1.2.1,x1.2.2)
 else
 (ia (fk t0 t1) (([]:List GType),0)).bind fun y=>match y with
 |.inr v=>some v
 |.inl b19=>
 (idx b19 0).bind fun x20=>
 some (x20,0,0)
def zh(t0:List GNode) (t1:GSignature) (t2:GType):Option Int:=
 (qn t0 t1).bind fun x1=>
 if¬x1.2.2=0 then
  some x1.2.2
 else
 if¬(x1.1.Kind=t2.Kind∧x1.1.Enum=t2.Enum)then
  some 8
 else
 some 0
def ji(x1:GRule) (x2:List GRule):(Int×Int)→Option (Ex (Int×Int) Int Unit):=fun(s3,s4)=>
 if s4<(x2.length:Int)then
  jaa (α:=Int) (
   (idx x2 s4).bind fun x6=>
   if x6.Def=x1.Def then
    some (ca .i64 (s3+1))
   else
   some s3) fun j8=>
  some (Ex.go (j8,(ca .i64 (s4+1))))
 else
 some (Ex.brk s3)
def mj(t0:GScope) (t1:Int) (t2:GSignature):Option Int:=
 (idx t0.Rules t1).bind fun x1=>
 (uo t0.Rules t1).bind fun x2=>
 (ia (ji x1 x2) (0,0)).bind fun y=>match y with
 |.inr _=>none
 |.inl b11=>
 (Ra x1.Name).bind fun x12=>
 if x12=false then
  some 2
 else
 (uo t0.Rules t1).bind fun x14=>
 (gb x14 (fun x900=>Ee x900 x1)).bind fun x15=>
 if x15=true then
  some 7
 else
 jaa (α:=Bool) (
  if¬x1.Def<0 then
   some (decide ((t0.Defs.length:Int)≤x1.Def))
  else
  some true) fun j18=>
 if j18=true then
  some 6
 else
 jaa (α:=Bool) (
  if¬x1.Parent=(-1)then
   if¬x1.Parent<0 then
    if¬t1≤x1.Parent then
     (idx t0.Rules x1.Parent).bind fun x23=>
     some (x23.Def !=x1.Def)
    else
    some true
   else
   some true
  else
  some false) fun j24=>
 if j24=true then
  some 9
 else
 jaa (α:=Bool) (
  if¬x1.Priority<0 then
   some (decide (9<x1.Priority))
  else
  some true) fun j27=>
 if j27=true then
  some 3
 else
 jaa (α:=Bool) (
  if¬x1.Valid.From<0 then
   if¬x1.Valid.To≤x1.Valid.From then
    some (decide (109573<x1.Valid.To))
   else
   some true
  else
  some true) fun j31=>
 if j31=true then
  some 3
 else
 if 8≤b11 then
  some 4
 else
 (Kg x1.Source).bind fun x34=>
 if x34=false then
  some 2
 else
 jaa (α:=(Unit⊕Int)) (
  if 0<(x1.Guard.length:Int)then
   (zh x1.Guard t2 (GType.mk 1 0)).bind fun x37=>
   if¬x37=0 then
    some (Sum.inr x37)
   else
   some (Sum.inl ())
  else
  some (Sum.inl ())) fun z=>match z with
 |.inr v=>some v
 |.inl _=>
 (idx t0.Defs x1.Def).bind fun x39=>
 (zh x1.Value t2 x39.Type_).bind fun x40=>
 some x40
def lf(t0:List Int) (t1:Int):Int→Option (Ex Int Unit Int):=fun s1=>
 if s1<(t0.length:Int)then
  (idx t0 s1).bind fun x3=>
  if t1=x3 then
   some (Ex.ret s1)
  else
  some (Ex.go (ca .i64 (s1+1)))
 else
 some (Ex.brk ())
def nk(t0:List Int) (t1:Int):Option Int:=
 (ia (lf t0 t1) 0).bind fun y=>match y with
 |.inr v=>some v
 |.inl _=>
 some (-1)
def vd(t0:List Int) (t1:Int):Option Bool:=
 (nk t0 t1).bind fun x1=>
 some (decide (0≤x1))
def fh(t0:GLaw) (x1:GScope):Int→Option (Ex Int Unit (Int×Int)):=fun s20=>
 if s20<(x1.Inputs.length:Int)then
  (idx x1.Inputs s20).bind fun x22=>
  (uo x1.Inputs s20).bind fun x23=>
  (eg t0 x22 x23 ([])).bind fun x24=>
  if¬x24=0 then
   some (Ex.ret (x24,(ca .i64 (100+s20))))
  else
  some (Ex.go (ca .i64 (s20+1)))
 else
 some (Ex.brk ())
def Zg(t0:GLaw) (x1:GScope):Int→Option (Ex Int Unit (Int×Int)):=fun s27=>
 if s27<(x1.Defs.length:Int)then
  (idx x1.Defs s27).bind fun x29=>
  (uo x1.Defs s27).bind fun x30=>
  (eg t0 x29 x1.Inputs x30).bind fun x31=>
  if¬x31=0 then
   some (Ex.ret (x31,(ca .i64 (200+s27))))
  else
  some (Ex.go (ca .i64 (s27+1)))
 else
 some (Ex.brk ())
def Wg(x1:GScope) (x34:GSignature):Int→Option (Ex Int Unit (Int×Int)):=fun s35=>
 if s35<(x1.Rules.length:Int)then
  (mj x1 s35 x34).bind fun x37=>
  if¬x37=0 then
   some (Ex.ret (x37,(ca .i64 (300+s35))))
  else
  some (Ex.go (ca .i64 (s35+1)))
 else
 some (Ex.brk ())
def Tg(x1:GScope):Int→Option (Ex Int Unit (Int×Int)):=fun s40=>
 if s40<(x1.Defs.length:Int)then
  (pc x1 s40).bind fun x42=>
  (vd x42 s40).bind fun x43=>
  if x43=true then
   some (Ex.ret (9,(ca .i64 (200+s40))))
  else
  some (Ex.go (ca .i64 (s40+1)))
 else
 some (Ex.brk ())
def fi(t0:GLaw) (t1:Int):Option (Int×Int):=
 (idx t0.Scopes t1).bind fun x1=>
 (uo t0.Scopes t1).bind fun x2=>
 jaa (α:=Bool) (
  (zi t0.Enums x1.Name).bind fun x3=>
  if x3=false then
   (Ti t0.Tables x1.Name).bind fun x5=>
   if x5=false then
    (Ia x2 (fun x900=>Oc x900 x1)).bind fun x7=>
    some x7
   else
   some true
  else
  some true) fun j8=>
 (Ra x1.Name).bind fun x9=>
 if x9=false then
  some (2,0)
 else
 if j8=true then
  some (7,0)
 else
 jaa (α:=Bool) (
  if¬x1.MemberScope=(-1)then
   if¬x1.MemberScope<0 then
    if¬t1≤x1.MemberScope then
     (idx x2 x1.MemberScope).bind fun x15=>
     some (x15.MemberScope !=(-1))
    else
    some true
   else
   some true
  else
  some false) fun j16=>
 if j16=true then
  some (6,0)
 else
 if 12<(x1.Inputs.length:Int)then
  some (4,112)
 else
 if 12<(x1.Defs.length:Int)then
  some (4,212)
 else
 (ia (fh t0 x1) 0).bind fun y=>match y with
 |.inr v=>some v
 |.inl _=>
 (ia (Zg t0 x1) 0).bind fun y=>match y with
 |.inr v=>some v
 |.inl _=>
 (Bf t0 t1).bind fun x34=>
 (ia (Wg x1 x34) 0).bind fun y=>match y with
 |.inr v=>some v
 |.inl _=>
 (ia (Tg x1) 0).bind fun y=>match y with
 |.inr v=>some v
 |.inl _=>
 some (0,0)
def vg(t0:GLaw):Int→Option (Ex Int Unit GLawError):=fun s2=>
 if s2<(t0.Scopes.length:Int)then
  (fi t0 s2).bind fun x4=>
  if¬x4.1=0 then
   some (Ex.ret (GLawError.mk x4.1 3 s2 x4.2))
  else
  some (Ex.go (ca .i64 (s2+1)))
 else
 some (Ex.brk ())
def ql(t0:GLaw):Option GLawError:=
 if 4<(t0.Scopes.length:Int)then
  some (GLawError.mk 4 3 4 0)
 else
 (ia (vg t0) 0).bind fun y=>match y with
 |.inr v=>some v
 |.inl _=>
 some (GLawError.mk 0 0 0 0)
def Gi(t0:GLaw):Option GLawError:=
 (Am t0).bind fun x1=>
 if¬x1.Code=0 then
  some x1
 else
 (zl t0).bind fun x3=>
 if¬x3.Code=0 then
  some x3
 else
 (ql t0).bind fun x5=>
 some x5
def uj(t0:Int):Option Bool:=
 jaa (α:=Bool) (
  if 0≤t0 then
   some (decide (t0≤109572))
  else
  some false) fun j2=>
 some j2
def Dc(t0:GCalendar):Int→Option (Ex Int Unit Bool):=fun s5=>
 if s5<(t0.Holidays.length:Int)then
  (idx t0.Holidays s5).bind fun x7=>
  jaa (α:=Bool) (
   (uj x7).bind fun x8=>
   if x8=true then
    if 0<s5 then
     (idx t0.Holidays (ca .i64 (s5-1))).bind fun x11=>
     some (decide (x7≤x11))
    else
    some false
   else
   some true) fun j12=>
  if j12=true then
   some (Ex.ret false)
  else
  some (Ex.go (ca .i64 (s5+1)))
 else
 some (Ex.brk ())
def Of(t0:GCalendar):Option Bool:=
 jaa (α:=Bool) (
  if¬t0.Weekend<0 then
   if¬126<t0.Weekend then
    some (decide (64<(t0.Holidays.length:Int)))
   else
   some true
  else
  some true) fun j3=>
 if j3=true then
  some false
 else
 (ia (Dc t0) 0).bind fun y=>match y with
 |.inr v=>some v
 |.inl _=>
 some true
def db(t0:GLaw) (t1:Int) (t2:GPayConfig):Option Int:=
 (Gi t0).bind fun x1=>
 if¬(x1.Code=0∧x1.Section=0∧x1.Item=0∧x1.Element=0)then
  some 1
 else
 jaa (α:=Bool) (
  if¬t1<0 then
   if¬(t0.Scopes.length:Int)≤t1 then
    if¬t2.Def<0 then
     (idx t0.Scopes t1).bind fun x6=>
     some (decide ((x6.Defs.length:Int)≤t2.Def))
    else
    some true
   else
   some true
  else
  some true) fun j7=>
 if j7=true then
  some 6
 else
 (idx t0.Scopes t1).bind fun x9=>
 (idx x9.Defs t2.Def).bind fun x10=>
 if¬(x10.Type_.Kind=3∧x10.Type_.Enum=0)then
  some 8
 else
 jaa (α:=Bool) (
  if¬t2.Rounding<0 then
   if¬5<t2.Rounding then
    (Of t2.Calendar).bind fun x14=>
    some (!x14)
   else
   some true
  else
  some true) fun j15=>
 if j15=true then
  some 1
 else
 jaa (α:=Bool) (
  jaa (α:=Bool) (
   if¬t2.PayDay<1 then
    some (decide (28<t2.PayDay))
   else
   some true) fun j18=>
  if j18=true then
   some true
  else
  jaa (α:=Bool) (
   if¬t2.RecoveryCap<0 then
    some (decide (1000000<t2.RecoveryCap))
   else
   some true) fun j21=>
  if j21=true then
   some true
  else
  jaa (α:=Bool) (
   if¬t2.RecoveryFloor<0 then
    some (decide (1000000000000000<t2.RecoveryFloor))
   else
   some true) fun j24=>
  if j24=true then
   some true
  else
  jaa (α:=Bool) (
   if¬t2.FirstMonth<0 then
    some (decide (3599<t2.FirstMonth))
   else
   some true) fun j27=>
  if j27=true then
   some true
  else
  if¬t2.AppealDays<0 then
   some (decide (365<t2.AppealDays))
  else
  some true) fun j30=>
 if j30=true then
  some 3
 else
 some 0
def xc(t0:GLaw) (t1:Int):Option ((List GField)×Bool):=
 (idx t0.Scopes t1).bind fun x1=>
 jaa (α:=Bool) (
  if¬x1.MemberScope<0 then
   some (decide ((t0.Scopes.length:Int)≤x1.MemberScope))
  else
  some true) fun j3=>
 if j3=true then
  some ([],false)
 else
 (idx t0.Scopes x1.MemberScope).bind fun x5=>
 some (x5.Inputs,true)
def Yh(t0:GDateRange):Option Bool:=
 jaa (α:=Bool) (
  (nc t0).bind fun x1=>
  if x1=true then
   some (decide (t0.From<t0.To))
  else
  some false) fun j3=>
 some j3
def sf(t0:GFact):Option Int:=
 if t0.Id<0 then
  some 3
 else
 jaa (α:=Bool) (
  if¬t0.Member<(-1)then
   some (decide (8≤t0.Member))
  else
  some true) fun j3=>
 if j3=true then
  some 3
 else
 jaa (α:=Bool) (
  if¬t0.Input<(-1)then
   some (decide (12≤t0.Input))
  else
  some true) fun j6=>
 if j6=true then
  some 3
 else
 jaa (α:=Bool) (
  if t0.Member=(-1)then
   some (t0.Input==(-1))
  else
  some false) fun j9=>
 if j9=true then
  some 3
 else
 (Yh t0.Valid).bind fun x11=>
 if x11=false then
  some 3
 else
 jaa (α:=Bool) (
  if¬t0.Recorded<0 then
   some (decide (109572<t0.Recorded))
  else
  some true) fun j14=>
 if j14=true then
  some 3
 else
 jaa (α:=Bool) (
  if¬t0.Value.Kind<1 then
   some (decide (6<t0.Value.Kind))
  else
  some true) fun j17=>
 if j17=true then
  some 8
 else
 jaa (α:=Bool) (
  if t0.Input=(-1)then
   some (t0.Value.Kind !=1)
  else
  some false) fun j20=>
 if j20=true then
  some 8
 else
 some 0
def Ld:Int→List Int→List GFact→Option (Int×Int)
 |_,_,[]=>some (0,0)
 |i,seen,f::l=>(sf f).bind fun c=>if¬c=0 then some (i,c)else if seen.contains f.Id then some (i,7)else Ld (i+1) (f.Id::seen) l
def Vh(t0:List GFact):Option (Int×Int):=if 128<(t0.length:Int)then some (0,4)else Ld 0 [] t0
def je(t0:GLaw) (t1:GHousehold) (x4:((List GField)×Bool)):Int→Option (Ex Int Unit (Int×Int)):=fun s13=>
 if s13<(t1.Facts.length:Int)then
  (idx t1.Facts s13).bind fun x15=>
  if t1.Members≤x15.Member then
   some (Ex.ret (s13,6))
  else
  jaa (α:=(List GField)) (
   if x15.Member=(-1)then
    (idx t0.Scopes t1.Scope).bind fun x18=>
    some x18.Inputs
   else
   some x4.1) fun j19=>
  jaa (α:=((Int×Int)⊕(Ex Int Unit (Int×Int)))) (
   if¬x15.Input=(-1)then
    jaa (α:=Bool) (
     if¬x15.Input<0 then
      some (decide ((j19.length:Int)≤x15.Input))
     else
     some true) fun j22=>
    if j22=true then
     some (Sum.inr (Ex.ret (s13,6)))
    else
    (idx j19 x15.Input).bind fun x24=>
    some (Sum.inl (x24.Type_.Kind,x24.Type_.Enum))
   else
   some (Sum.inl (1,0))) fun z=>match z with
  |.inr v=>some v
  |.inl (j25,j26)=>
  jaa (α:=Bool) (
   if x15.Value.Kind=j25 then
    some (x15.Value.Enum !=j26)
   else
   some true) fun j28=>
  if j28=true then
   some (Ex.ret (s13,8))
  else
  (wc (GType.mk j25 j26) t0.Enums).bind fun x30=>
  jaa (α:=Bool) (
   if¬x15.Value.N<x30.1 then
    some (decide (x30.2<x15.Value.N))
   else
   some true) fun j32=>
  if j32=true then
   some (Ex.ret (s13,3))
  else
  some (Ex.go (ca .i64 (s13+1)))
 else
 some (Ex.brk ())
def Ce(t0:GLaw) (t1:GHousehold):Option (Int×Int):=
 jaa (α:=Bool) (
  if¬t1.Scope<0 then
   some (decide ((t0.Scopes.length:Int)≤t1.Scope))
  else
  some true) fun j2=>
 if j2=true then
  some ((-1),6)
 else
 (xc t0 t1.Scope).bind fun x4=>
 jaa (α:=Bool) (
  if¬t1.Id<0 then
   if¬t1.Members<0 then
    if¬8<t1.Members then
     if¬t1.Members=0 then
      some (!x4.2)
     else
     some false
    else
    some true
   else
   some true
  else
  some true) fun j9=>
 if j9=true then
  some ((-1),3)
 else
 (Vh t1.Facts).bind fun x11=>
 if¬x11.2=0 then
  some (x11.1,x11.2)
 else
 (ia (je t0 t1 x4) 0).bind fun y=>match y with
 |.inr v=>some v
 |.inl _=>
 some (0,0)
def Od(t0:GLaw) (t1:GHousehold) (t2:GPayConfig):Option Bool:=
 (db t0 t1.Scope t2).bind fun x1=>
 if¬x1=0 then
  some false
 else
 (Ce t0 t1).bind fun x3=>
 some (x3.2==0)
def Eb(t0:GDateRange) (t1:Int):Option Bool:=
 jaa (α:=Bool) (
  (nc t0).bind fun x1=>
  if x1=true then
   if t0.From≤t1 then
    some (decide (t1<t0.To))
   else
   some false
  else
  some false) fun j4=>
 some j4
def Po(t0:GFact) (t1:GFact):Option Bool:=
 if¬t0.Recorded=t1.Recorded then
  some (decide (t1.Recorded<t0.Recorded))
 else
 some (decide (t1.Id<t0.Id))
def Zk(t0:List GFact) (t1:Int) (t2:Int) (t3:Int) (t4:Int):(Int×Int)→Option (Ex (Int×Int) Int Unit):=fun(s1,s2)=>
 if s2<(t0.length:Int)then
  jaa (α:=Int) (
   (idx t0 s2).bind fun x4=>
   jaa (α:=Bool) (
    if x4.Member=t1 then
     if x4.Input=t2 then
      if¬t4<x4.Recorded then
       (Eb x4.Valid t3).bind fun x8=>
       some (!x8)
      else
      some true
     else
     some true
    else
    some true) fun j9=>
   if j9=true then
    some s1
   else
   jaa (α:=Bool) (
    if¬s1<0 then
     (idx t0 s1).bind fun x12=>
     (Po x4 x12).bind fun x13=>
     some x13
    else
    some true) fun j14=>
   if j14=true then
    some s2
   else
   some s1) fun j16=>
  some (Ex.go (j16,(ca .i64 (s2+1))))
 else
 some (Ex.brk s1)
def Qj(t0:List GFact) (t1:Int) (t2:Int) (t3:Int) (t4:Int):Option (GValue×Bool):=
 (ia (Zk t0 t1 t2 t3 t4) ((-1),0)).bind fun y=>match y with
 |.inr _=>none
 |.inl b19=>
 if b19<0 then
  some ((GValue.mk 0 0 0),false)
 else
 (idx t0 b19).bind fun x21=>
 some (x21.Value,true)
def Tc(t0:List GFact) (t1:Int) (t3:Int) (t4:Int) (x1:List GValue):((List GValue)×Int)→Option (Ex ((List GValue)×Int) (List GValue) ((List GValue)×Bool)):=fun(s2,s3)=>
 if s3<(x1.length:Int)then
  (Qj t0 t1 s3 t3 t4).bind fun x5=>
  if x5.2=false then
   some (Ex.ret ([],false))
  else
  (idx s2 s3).bind fun x7=>
  (put s2 s3 x5.1).bind fun x8=>
  some (Ex.go (x8,(ca .i64 (s3+1))))
 else
 some (Ex.brk s2)
def jd(t0:List GFact) (t1:Int) (t2:Int) (t3:Int) (t4:Int):Option ((List GValue)×Bool):=
 (au 24 (GValue.mk 0 0 0) t2 t2).bind fun x1=>
 (ia (Tc t0 t1 t3 t4 x1) (x1,0)).bind fun y=>match y with
 |.inr v=>some v
 |.inl b11=>
 some (b11,true)
def Md(t0:GHousehold) (t1:Int) (t2:Int):((List Int)×Int)→Option (Ex ((List Int)×Int) (List Int) Unit):=fun(s1,s2)=>
 if s2<(min (max t0.Members 0) 8)then
  jaa (α:=(List Int)) (
   (Qj t0.Facts s2 (-1) t1 t2).bind fun x4=>
   jaa (α:=Bool) (
    if x4.2=true then
     if x4.1.Kind=1 then
      some (x4.1.N==1)
     else
     some false
    else
    some false) fun j7=>
   if j7=true then
    (app 8 s1 ([s2])).bind fun x9=>
    some x9
   else
   some s1) fun j10=>
  some (Ex.go (j10,(ca .i64 (s2+1))))
 else
 some (Ex.brk s1)
def Hf(t0:GHousehold) (t1:Int) (t2:Int):Option (List Int):=
 (ia (Md t0 t1 t2) (([]:List Int),0)).bind fun y=>match y with
 |.inr _=>none
 |.inl b13=>
 some b13
def Hh(t1:GHousehold) (t2:Int) (t3:Int) (x11:((List GField)×Bool)) (x12:List Int):((List (List GValue))×Int)→Option (Ex ((List (List GValue))×Int) (List (List GValue)) (GCase×Int)):=fun(s13,s14)=>
 if s14<(x12.length:Int)then
  (idx x12 s14).bind fun x16=>
  (jd t1.Facts x16 (x11.1.length:Int) t2 t3).bind fun x17=>
  if x17.2=false then
   some (Ex.ret ((GCase.mk 0 ([]) ([])),6))
  else
  (app 24 s13 ([x17.1])).bind fun x19=>
  some (Ex.go (x19,(ca .i64 (s14+1))))
 else
 some (Ex.brk s13)
def Yf(t0:GLaw) (t1:GHousehold) (t2:Int) (t3:Int):Option (GCase×Int):=
 (Gi t0).bind fun x1=>
 if¬(x1.Code=0∧x1.Section=0∧x1.Item=0∧x1.Element=0)then
  some ((GCase.mk 0 ([]) ([])),1)
 else
 (Ce t0 t1).bind fun x3=>
 if¬x3.2=0 then
  some ((GCase.mk 0 ([]) ([])),1)
 else
 jaa (α:=Bool) (
  if¬t2<0 then
   some (decide (109572<t2))
  else
  some true) fun j6=>
 if j6=true then
  some ((GCase.mk 0 ([]) ([])),3)
 else
 (idx t0.Scopes t1.Scope).bind fun x8=>
 (jd t1.Facts (-1) (x8.Inputs.length:Int) t2 t3).bind fun x9=>
 if x9.2=false then
  some ((GCase.mk 0 ([]) ([])),6)
 else
 (xc t0 t1.Scope).bind fun x11=>
 (Hf t1 t2 t3).bind fun x12=>
 (ia (Hh t1 t2 t3 x11 x12) (([]:List (List GValue)),0)).bind fun y=>match y with
 |.inr v=>some v
 |.inl b22=>
 some ((GCase.mk t2 x9.1 b22),0)
def od(t0:GLaw) (t1:List GValue) (t2:List GField):Int→Option (Ex Int Unit (Int×Int)):=fun s3=>
 if s3<(t1.length:Int)then
  (idx t1 s3).bind fun x5=>
  (idx t2 s3).bind fun x6=>
  jaa (α:=Bool) (
   if x5.Kind=x6.Type_.Kind then
    some (x5.Enum !=x6.Type_.Enum)
   else
   some true) fun j8=>
  if j8=true then
   some (Ex.ret (s3,8))
  else
  (wc x6.Type_ t0.Enums).bind fun x10=>
  jaa (α:=Bool) (
   if¬x5.N<x10.1 then
    some (decide (x10.2<x5.N))
   else
   some true) fun j12=>
  if j12=true then
   some (Ex.ret (s3,3))
  else
  some (Ex.go (ca .i64 (s3+1)))
 else
 some (Ex.brk ())
def kd(t0:GLaw) (t1:List GValue) (t2:List GField):Option (Int×Int):=
 if(t1.length:Int)<(t2.length:Int)then
  some ((t1.length:Int),5)
 else
 if(t2.length:Int)<(t1.length:Int)then
  some ((t2.length:Int),4)
 else
 (ia (od t0 t1 t2) 0).bind fun y=>match y with
 |.inr v=>some v
 |.inl _=>
 some (0,0)
def xe(t0:GLaw) (t1:Int):Option ((List GField)×Int):=
 (idx t0.Scopes t1).bind fun x1=>
 jaa (α:=Bool) (
  if¬x1.MemberScope<0 then
   some (decide ((t0.Scopes.length:Int)≤x1.MemberScope))
  else
  some true) fun j3=>
 if j3=true then
  some ([],0)
 else
 (idx t0.Scopes x1.MemberScope).bind fun x5=>
 some (x5.Inputs,8)
def df(t0:GLaw) (t2:GCase) (x10:((List GField)×Int)):Int→Option (Ex Int Unit (Int×Int×Int)):=fun s12=>
 if s12<(t2.Members.length:Int)then
  (idx t2.Members s12).bind fun x14=>
  (kd t0 x14 x10.1).bind fun x15=>
  if¬x15.2=0 then
   some (Ex.ret (s12,x15.1,x15.2))
  else
  some (Ex.go (ca .i64 (s12+1)))
 else
 some (Ex.brk ())
def lh(t0:GLaw) (t1:Int) (t2:GCase):Option (Int×Int×Int):=
 jaa (α:=Bool) (
  if¬t1<0 then
   some (decide ((t0.Scopes.length:Int)≤t1))
  else
  some true) fun j2=>
 if j2=true then
  some ((-1),(-1),6)
 else
 jaa (α:=Bool) (
  if¬t2.Date<0 then
   some (decide (109572<t2.Date))
  else
  some true) fun j5=>
 if j5=true then
  some ((-1),(-1),3)
 else
 (idx t0.Scopes t1).bind fun x7=>
 (kd t0 t2.Inputs x7.Inputs).bind fun x8=>
 if¬x8.2=0 then
  some ((-1),x8.1,x8.2)
 else
 (xe t0 t1).bind fun x10=>
 if x10.2<(t2.Members.length:Int)then
  some (x10.2,(-1),4)
 else
 (ia (df t0 t2 x10) 0).bind fun y=>match y with
 |.inr v=>some v
 |.inl _=>
 some (0,0,0)
def Tb(t0:GLaw) (t1:Int) (t2:GCase) (t3:Bool) (t4:Int):Option GEvalError:=
 (Gi t0).bind fun x1=>
 if¬x1.Code=0 then
  some (GEvalError.mk 1 (-1) (-1) (-1))
 else
 jaa (α:=Bool) (
  if¬t1<0 then
   if¬(t0.Scopes.length:Int)≤t1 then
    if t3=true then
     if¬t4<0 then
      (idx t0.Scopes t1).bind fun x7=>
      some (decide ((x7.Defs.length:Int)≤t4))
     else
     some true
    else
    some false
   else
   some true
  else
  some true) fun j8=>
 if j8=true then
  some (GEvalError.mk 6 (-1) (-1) (-1))
 else
 (lh t0 t1 t2).bind fun x10=>
 if¬x10.2.2=0 then
  some (GEvalError.mk x10.2.2 x10.1 (-1) (-1))
 else
 some (GEvalError.mk 0 0 0 0)
def Cd(t0:GScope):Option ((List Int)×Int):=(Jb t0).bind fun x=>some (Xp x)
def On(t0:List GNode):Option ((List Int)×Int):=
 (oi t0).bind fun x1=>
 some (x1.1,x1.2.2)
def ig(t0:GEval_evaluator):((List Int)×Int×Int)→Option (Ex ((List Int)×Int×Int) (List Int) Unit):=fun(s4,s5,s6)=>
 if 0≤s6 then
  (idx s4 s6).bind fun x8=>
  (put s4 s6 s5).bind fun x9=>
  (idx t0.starts s5).bind fun x10=>
  some (Ex.go (x9,(ca .i64 (x10-1)),(ca .i64 (s6-1))))
 else
 some (Ex.brk s4)
def sd(t0:GEval_evaluator) (t1:Int):Option (List Int):=
 (idx t0.nodes t1).bind fun x1=>
 (Bh x1.Op).bind fun x2=>
 (au 8 0 x2 x2).bind fun x3=>
 (ia (ig t0) (x3,(ca .i64 (t1-1)),(ca .i64 ((x3.length:Int)-1)))).bind fun y=>match y with
 |.inr _=>none
 |.inl b14=>
 some b14
def aj(t0:GNode):Option Bool:=
 jaa (α:=Bool) (
  (Bh t0.Op).bind fun x1=>
  if¬x1<0 then
   if¬t0.N=0 then
    (Oj t0.Op).bind fun x4=>
    some (!x4)
   else
   some false
  else
  some true) fun j5=>
 if j5=true then
  some false
 else
 jaa (α:=Bool) (
  if t0.Op=14 then
   some true
  else
  if t0.Op=15 then
   some true
  else
  some (t0.Op==16)) fun j9=>
 if j9=true then
  jaa (α:=Bool) (
   if 0≤t0.N then
    some (decide (t0.N≤5))
   else
   some false) fun j12=>
  some j12
 else
 if t0.Op=34 then
  jaa (α:=Bool) (
   if 0≤t0.N then
    some (decide ((Lab t0.N 8)≤5))
   else
   some false) fun j15=>
  some j15
 else
 if t0.Op=6 then
  some (decide (0≤t0.N))
 else
 some true
def rn(t0:GNode) (t1:GEnv):Option Bool:=
 if t0.Op=7 then
  jaa (α:=Bool) (
   if 0≤t0.N then
    some (decide (t0.N<(t1.Inputs.length:Int)))
   else
   some false) fun j3=>
  some j3
 else
 if t0.Op=8 then
  jaa (α:=Bool) (
   if 0≤t0.N then
    if t0.N<(t1.Defs.length:Int)then
     (idx t1.Defs t0.N).bind fun x7=>
     some (x7.Kind !=0)
    else
    some false
   else
   some false) fun j8=>
  some j8
 else
 if t0.Op=33 then
  jaa (α:=Bool) (
   if 0≤t0.N then
    some (decide (t0.N<(t1.Tables.length:Int)))
   else
   some false) fun j11=>
  some j11
 else
 if t0.Op=34 then
  some (decide ((ca .i64 (iab t0.N 8))<(t1.Tables.length:Int)))
 else
 jaa (α:=Bool) (
  if t0.Op=36 then
   some true
  else
  if t0.Op=37 then
   some true
  else
  if t0.Op=38 then
   some true
  else
  some (t0.Op==39)) fun j16=>
 if j16=true then
  jaa (α:=Bool) (
   if 0≤t0.N then
    some (decide (t0.N<(t1.MemberTypes.length:Int)))
   else
   some false) fun j19=>
  some j19
 else
 some true
def sb(t0:GValue):Option Bool:=
 jaa (α:=Bool) (
  if¬t0.Kind=6 then
   some (t0.Enum !=0)
  else
  some false) fun j2=>
 if j2=true then
  some false
 else
 if t0.Kind=1 then
  jaa (α:=Bool) (
   if¬t0.N=0 then
    some (t0.N==1)
   else
   some true) fun j6=>
  some j6
 else
 if t0.Kind=2 then
  jaa (α:=Bool) (
   if(-1000000000000)≤t0.N then
    some (decide (t0.N≤1000000000000))
   else
   some false) fun j9=>
  some j9
 else
 if t0.Kind=3 then
  jaa (α:=Bool) (
   if(-1000000000000000)≤t0.N then
    some (decide (t0.N≤1000000000000000))
   else
   some false) fun j12=>
  some j12
 else
 if t0.Kind=4 then
  jaa (α:=Bool) (
   if(-1000000000)≤t0.N then
    some (decide (t0.N≤1000000000))
   else
   some false) fun j15=>
  some j15
 else
 if t0.Kind=5 then
  jaa (α:=Bool) (
   if 0≤t0.N then
    some (decide (t0.N≤109572))
   else
   some false) fun j18=>
  some j18
 else
 if t0.Kind=6 then
  jaa (α:=Bool) (
   if 0≤t0.Enum then
    if t0.Enum<8 then
     if 0≤t0.N then
      some (decide (t0.N<16))
     else
     some false
    else
    some false
   else
   some false) fun j23=>
  some j23
 else
 some false
def Ve(t0:List GValue):Int→Option (Ex Int Unit Bool):=fun s1=>
 if s1<(t0.length:Int)then
  (idx t0 s1).bind fun x3=>
  (sb x3).bind fun x4=>
  if x4=false then
   some (Ex.ret false)
  else
  some (Ex.go (ca .i64 (s1+1)))
 else
 some (Ex.brk ())
def Pg(t0:List GValue):Option Bool:=
 (ia (Ve t0) 0).bind fun y=>match y with
 |.inr v=>some v
 |.inl _=>
 some true
def wk(t0:GValue) (t1:GType):Option Bool:=
 jaa (α:=Bool) (
  (sb t0).bind fun x1=>
  if x1=true then
   if t0.Kind=t1.Kind then
    some (t0.Enum==t1.Enum)
   else
   some false
  else
  some false) fun j4=>
 some j4
def Mf(t0:Int):Option Bool:=
 jaa (α:=Bool) (
  if¬t0=2 then
   if¬t0=3 then
    some (t0==4)
   else
   some true
  else
  some true) fun j3=>
 some j3
def Zc(t0:Int) (t1:GType):Option Bool:=
 if¬t1.Enum=0 then
  some false
 else
 if t0=36 then
  jaa (α:=Bool) (
   if¬t1.Kind=2 then
    some (t1.Kind==3)
   else
   some true) fun j4=>
  some j4
 else
 if t0=39 then
  jaa (α:=Bool) (
   (Mf t1.Kind).bind fun x6=>
   if x6=false then
    some (t1.Kind==5)
   else
   some true) fun j8=>
  some j8
 else
 some (t1.Kind==1)
def Za(t0:Int) (t1:Int):Option Bool:=
 if t0=10 then
  (Mf t1).bind fun x2=>
  some x2
 else
 if t0=25 then
  some (t1==1)
 else
 some (t1==5)
def Gd(t0:GValue) (t1:GValue):Option Bool:=
 jaa (α:=Bool) (
  if t0.Kind=t1.Kind then
   some (t0.Enum==t1.Enum)
  else
  some false) fun j2=>
 some j2
def Ca(t0:Int) (t1:GValue) (t2:GValue):Option Bool:=
 jaa (α:=Bool) (
  if t0=11 then
   some true
  else
  some (t0==12)) fun j2=>
 if j2=true then
  jaa (α:=Bool) (
   (Gd t1 t2).bind fun x4=>
   if x4=true then
    (Mf t1.Kind).bind fun x6=>
    some x6
   else
   some false) fun j7=>
  some j7
 else
 if t0=13 then
  jaa (α:=Bool) (
   if t2.Kind=2 then
    if¬t1.Kind=2 then
     some (t1.Kind==3)
    else
    some true
   else
   some false) fun j11=>
  some j11
 else
 if t0=14 then
  jaa (α:=Bool) (
   if t2.Kind=4 then
    if¬t1.Kind=3 then
     some (t1.Kind==4)
    else
    some true
   else
   some false) fun j15=>
  some j15
 else
 if t0=15 then
  if t2.Kind=2 then
   jaa (α:=Bool) (
    if¬t1.Kind=2 then
     some (t1.Kind==3)
    else
    some true) fun j19=>
   some j19
  else
  jaa (α:=Bool) (
   if t1.Kind=3 then
    some (t2.Kind==3)
   else
   some false) fun j21=>
  some j21
 else
 if t0=16 then
  jaa (α:=Bool) (
   if t1.Kind=3 then
    some (t2.Kind==3)
   else
   some false) fun j24=>
  some j24
 else
 jaa (α:=Bool) (
  if t0=17 then
   some true
  else
  if t0=18 then
   some true
  else
  if t0=21 then
   some true
  else
  some (t0==22)) fun j28=>
 if j28=true then
  jaa (α:=Bool) (
   (Gd t1 t2).bind fun x30=>
   if x30=true then
    (Mf t1.Kind).bind fun x32=>
    if x32=false then
     some (t1.Kind==5)
    else
    some true
   else
   some false) fun j34=>
  some j34
 else
 jaa (α:=Bool) (
  if t0=19 then
   some true
  else
  some (t0==20)) fun j36=>
 if j36=true then
  (Gd t1 t2).bind fun x38=>
  some x38
 else
 jaa (α:=Bool) (
  if t0=23 then
   some true
  else
  some (t0==24)) fun j40=>
 if j40=true then
  jaa (α:=Bool) (
   if t1.Kind=1 then
    some (t2.Kind==1)
   else
   some false) fun j43=>
  some j43
 else
 jaa (α:=Bool) (
  if t0=27 then
   some true
  else
  some (t0==28)) fun j45=>
 if j45=true then
  jaa (α:=Bool) (
   if t1.Kind=5 then
    some (t2.Kind==2)
   else
   some false) fun j48=>
  some j48
 else
 jaa (α:=Bool) (
  if t1.Kind=5 then
   some (t2.Kind==5)
  else
  some false) fun j50=>
 some j50
def ja(t0:GNode) (t1:List GValue) (t2:GEnv):Option Bool:=
 if t0.Op=7 then
  (idx t2.Inputs t0.N).bind fun x2=>
  (sb x2).bind fun x3=>
  some x3
 else
 if t0.Op=8 then
  (idx t2.Defs t0.N).bind fun x5=>
  (sb x5).bind fun x6=>
  some x6
 else
 if t0.Op=33 then
  (idx t2.Tables t0.N).bind fun x8=>
  jaa (α:=Bool) (
   (idx t1 0).bind fun x9=>
   (wk x9 x8.Key).bind fun x10=>
   if x10=true then
    if 1≤x8.Value.Kind then
     some (decide (x8.Value.Kind≤6))
    else
    some false
   else
   some false) fun j13=>
  some j13
 else
 if t0.Op=34 then
  (idx t2.Tables (ca .i64 (iab t0.N 8))).bind fun x15=>
  jaa (α:=Bool) (
   (idx t1 0).bind fun x16=>
   if x16.Kind=3 then
    if x15.Key.Kind=3∧x15.Key.Enum=0 then
     some ((x15.Value.Kind==4)&&(x15.Value.Enum==0))
    else
    some false
   else
   some false) fun j19=>
  some j19
 else
 jaa (α:=Bool) (
  if t0.Op=36 then
   some true
  else
  if t0.Op=37 then
   some true
  else
  if t0.Op=38 then
   some true
  else
  some (t0.Op==39)) fun j23=>
 if j23=true then
  (idx t2.MemberTypes t0.N).bind fun x25=>
  (Zc t0.Op x25).bind fun x26=>
  some x26
 else
 if(t1.length:Int)=1 then
  (idx t1 0).bind fun x28=>
  (Za t0.Op x28.Kind).bind fun x29=>
  some x29
 else
 if(t1.length:Int)=2 then
  (idx t1 0).bind fun x31=>
  (idx t1 1).bind fun x32=>
  (Ca t0.Op x31 x32).bind fun x33=>
  some x33
 else
 if(t1.length:Int)=3 then
  jaa (α:=Bool) (
   (idx t1 0).bind fun x35=>
   if x35.Kind=1 then
    (idx t1 1).bind fun x37=>
    (idx t1 2).bind fun x38=>
    (Gd x37 x38).bind fun x39=>
    some x39
   else
   some false) fun j40=>
  some j40
 else
 some true
def Jh(t0:GNode) (t1:GEnv) (x1:GType):(Int×Int×Int×Int)→Option (Ex (Int×Int×Int×Int) (Int×Int×Int) (GValue×Int)):=fun(s7,s8,s9,s10)=>
 if s10<(t1.Members.length:Int)then
  jaa (α:=((Int×Int×Int)⊕(Ex (Int×Int×Int×Int) (Int×Int×Int) (GValue×Int)))) (
   (idx t1.Members s10).bind fun x12=>
   jaa (α:=Bool) (
    if¬(x12.length:Int)≤t0.N then
     (idx x12 t0.N).bind fun x14=>
     some (x14.Kind==0)
    else
    some true) fun j15=>
   if j15=true then
    some (Sum.inr (Ex.ret ((GValue.mk 0 0 0),6)))
   else
   (idx x12 t0.N).bind fun x17=>
   (wk x17 x1).bind fun x18=>
   if x18=false then
    some (Sum.inr (Ex.ret ((GValue.mk 0 0 0),8)))
   else
   if t0.Op=36 then
    (sb (GValue.mk s7 s8 (ca .i64 (s9+x17.N)))).bind fun x21=>
    if x21=false then
     some (Sum.inr (Ex.ret ((GValue.mk 0 0 0),3)))
    else
    some (Sum.inl (s7,s8,(ca .i64 (s9+x17.N))))
   else
   if t0.Op=37 then
    some (Sum.inl (s7,s8,(min s9 x17.N)))
   else
   if t0.Op=38 then
    some (Sum.inl (s7,s8,(max s9 x17.N)))
   else
   if t0.Op=39 then
    jaa (α:=Bool) (
     if¬s10=0 then
      some (decide (s9<x17.N))
     else
     some true) fun j27=>
    if j27=true then
     some (Sum.inl (x17.Kind,x17.Enum,x17.N))
    else
    some (Sum.inl (s7,s8,s9))
   else
   some (Sum.inl (s7,s8,s9))) fun z=>match z with
  |.inr v=>some v
  |.inl (j29,j30,j31)=>
  some (Ex.go (j29,j30,j31,(ca .i64 (s10+1))))
 else
 some (Ex.brk (s7,s8,s9))
def Qf(t0:GNode) (t1:GEnv):Option (GValue×Int):=
 (idx t1.MemberTypes t0.N).bind fun x1=>
 jaa (α:=Int) (
  if t0.Op=37 then
   some 1
  else
  some 0) fun j3=>
 jaa (α:=Bool) (
  if t0.Op=39 then
   some ((t1.Members.length:Int)==0)
  else
  some false) fun j5=>
 if j5=true then
  some ((GValue.mk 0 0 0),6)
 else
 (ia (Jh t0 t1 x1) (x1.Kind,x1.Enum,j3,0)).bind fun y=>match y with
 |.inr v=>some v
 |.inl (b36,b37,b38)=>
 some ((GValue.mk b36 b37 b38),0)
def fe(t0:GRow) (t1:Int) (t2:Int):Option Bool:=
 jaa (α:=Bool) (
  (Eb t0.Valid t1).bind fun x1=>
  if x1=true then
   if t0.Lo≤t2 then
    some (decide (t2<t0.Hi))
   else
   some false
  else
  some false) fun j4=>
 some j4
def uk(t0:GTable) (t1:Int) (t2:Int):Option (Int×Bool):=
 (qb t0.Rows (fun x900=>fe x900 t1 t2)).bind fun x1=>
 some (x1.1,x1.2)
def Xc(t0 t1:Int):Option (Int×Int):=if 0≤t0∧t0<18446744073709551616∧0≤t1∧t1<18446744073709551616 then some (t0*t1 / 18446744073709551616,t0*t1 % 18446744073709551616)else none
def Yd(t0 t1 t2:Int):Option (Int×Int):=if 0≤t0∧t0<t2∧0≤t1∧t1<18446744073709551616∧t2<18446744073709551616 then some ((t0*18446744073709551616+t1) / t2,(t0*18446744073709551616+t1) % t2)else none
def og(t0:Int) (t1:Int):Option (Int×Int×Bool):=
 jaa (α:=Int) (
  if t1<0 then
   some (ca .u64 (-(ca .u64 t1)))
  else
  some (ca .u64 t1)) fun j2=>
 (Xc (ca .u64 t0) j2).bind fun x3=>
 if 1000000≤x3.1 then
  some (0,0,false)
 else
 (Yd x3.1 x3.2 1000000).bind fun x5=>
 if 1000000000000000<x5.1 then
  some (0,0,false)
 else
 if t1<0 then
  some ((ca .i64 (-(ca .i64 x5.1))),(ca .i64 (-(ca .i64 x5.2))),true)
 else
 some ((ca .i64 x5.1),(ca .i64 x5.2),true)
def uf(t0:Int):Option Bool:=
 jaa (α:=Bool) (
  if 0≤t0 then
   some (decide (t0≤5))
  else
  some false) fun j2=>
 some j2
def Jd(t0:Int) (t1:Int):Option Bool:=
 jaa (α:=Bool) (
  if¬t1<t0 then
   some (decide (t0<(ca .i64 (-t1))))
  else
  some true) fun j2=>
 some j2
def Vc(t0:Int):Option Int:=
 if t0<0 then
  some (ca .u64 (-(ca .u64 t0)))
 else
 some (ca .u64 t0)
def pd(t0:Int) (t1:Int) (t2:Int) (t3:Bool) (t4:Int):Option Int:=
 if t1=0 then
  some t0
 else
 jaa (α:=Bool) (
  if t4=0 then
   some t3
  else
  if t4=1 then
   some (!t3)
  else
  if t4=3 then
   some true
  else
  if t4=4 then
   some (decide ((ca .u64 (t2-t1))≤t1))
  else
  if t4=5 then
   if¬(ca .u64 (t2-t1))<t1 then
    if t1=(ca .u64 (t2-t1))then
     some ((Lab t0 2)==1)
    else
    some false
   else
   some true
  else
  some false) fun j9=>
 jaa (α:=Int) (
  if j9=true then
   some (ca .u64 (t0+1))
  else
  some t0) fun j11=>
 some j11
def Ek(t0:Int) (t1:Bool):Option Int:=
 if t1=true then
  some (ca .i64 (-(ca .i64 t0)))
 else
 some (ca .i64 t0)
def Pd(t0:Int) (t1:Int) (t2:Int):Option (Int×Int):=
 (uf t2).bind fun x1=>
 if x1=false then
  some (0,1)
 else
 if t1=0 then
  some (0,12)
 else
 jaa (α:=Bool) (
  (Jd t0 4611686018427387904).bind fun x4=>
  if x4=false then
   (Jd t1 4611686018427387904).bind fun x6=>
   some x6
  else
  some true) fun j7=>
 if j7=true then
  some (0,3)
 else
 (Vc t0).bind fun x9=>
 (Vc t1).bind fun x10=>
 (quo .u64 x9 x10).bind fun x11=>
 (rem .u64 x9 x10).bind fun x12=>
 (pd x11 x12 x10 (!((decide (t0<0))==(decide (t1<0)))) t2).bind fun x13=>
 (Ek x13 (!((decide (t0<0))==(decide (t1<0))))).bind fun x14=>
 some (x14,0)
def Uj(t0:Int) (t1:Int) (t2:Int):Option (Int×Int):=
 jaa (α:=Bool) (
  if¬(ca .i64 (t0+(ca .i64 (iab t1 1000000))))<(-2000000000000000)then
   some (decide (2000000000000000<(ca .i64 (t0+(ca .i64 (iab t1 1000000))))))
  else
  some true) fun j2=>
 if j2=true then
  some (0,3)
 else
 jaa (α:=Int) (
  if 1<(ca .i64 (t0+(ca .i64 (iab t1 1000000))))then
   some (ca .i64 ((Lab (ca .i64 (t0+(ca .i64 (iab t1 1000000)))) 2)+2))
  else
  if(ca .i64 (t0+(ca .i64 (iab t1 1000000))))<(-1)then
   some (ca .i64 ((Lab (ca .i64 (t0+(ca .i64 (iab t1 1000000)))) 2)-2))
  else
  some (Lab (ca .i64 (t0+(ca .i64 (iab t1 1000000)))) 2)) fun j6=>
 (Pd (ca .i64 ((ca .i64 (j6*1000000))+(Lab t1 1000000))) 1000000 t2).bind fun x7=>
 if¬x7.2=0 then
  some (0,x7.2)
 else
 jaa (α:=Bool) (
  if¬(ca .i64 ((ca .i64 ((ca .i64 (t0+(ca .i64 (iab t1 1000000))))-j6))+x7.1))<(-1000000000000000)then
   some (decide (1000000000000000<(ca .i64 ((ca .i64 ((ca .i64 (t0+(ca .i64 (iab t1 1000000))))-j6))+x7.1))))
  else
  some true) fun j10=>
 if j10=true then
  some (0,3)
 else
 some ((ca .i64 ((ca .i64 ((ca .i64 (t0+(ca .i64 (iab t1 1000000))))-j6))+x7.1)),0)
def oh(t0:GTable) (t1:Int) (t2:Int):(Int×Int×Int)→Option (Ex (Int×Int×Int) (Int×Int) (Int×Int)):=fun(s10,s11,s12)=>
 if s12<(t0.Rows.length:Int)then
  jaa (α:=((Int×Int)⊕(Ex (Int×Int×Int) (Int×Int) (Int×Int)))) (
   (idx t0.Rows s12).bind fun x14=>
   jaa (α:=Bool) (
    (Eb x14.Valid t1).bind fun x15=>
    if x15=true then
     some (decide ((min x14.Hi t2)≤(max x14.Lo 0)))
    else
    some true) fun j17=>
   if j17=true then
    some (Sum.inl (s10,s11))
   else
   (og (ca .i64 ((min x14.Hi t2)-(max x14.Lo 0))) x14.N).bind fun x19=>
   if x19.2.2=false then
    some (Sum.inr (Ex.ret (0,3)))
   else
   some (Sum.inl ((ca .i64 (s10+x19.1)),(ca .i64 (s11+x19.2.1))))) fun z=>match z with
  |.inr v=>some v
  |.inl (j21,j22)=>
  some (Ex.go (j21,j22,(ca .i64 (s12+1))))
 else
 some (Ex.brk (s10,s11))
def pk(t0:GTable) (t1:Int) (t2:Int) (t3:Int):Option (Int×Int):=
 jaa (α:=Bool) (
  if¬t3<0 then
   some (decide (5<t3))
  else
  some true) fun j2=>
 if j2=true then
  some (0,1)
 else
 jaa (α:=Bool) (
  if t0.Key.Kind=3∧t0.Key.Enum=0 then
   some (!((t0.Value.Kind==4)&&(t0.Value.Enum==0)))
  else
  some true) fun j5=>
 if j5=true then
  some (0,8)
 else
 jaa (α:=Bool) (
  if¬t2<(-1000000000000000)then
   some (decide (1000000000000000<t2))
  else
  some true) fun j8=>
 if j8=true then
  some (0,3)
 else
 (ia (oh t0 t1 t2) (0,0,0)).bind fun y=>match y with
 |.inr v=>some v
 |.inl (b26,b27)=>
 (Uj b26 b27 t3).bind fun x28=>
 some (x28.1,x28.2)
def qf(t0:Bool):Option GValue:=
 if t0=true then
  some (GValue.mk 1 0 1)
 else
 some (GValue.mk 1 0 0)
def Yj(t0:Int):Option Bool:=
 jaa (α:=Bool) (
  if 0≤t0 then
   some (decide (t0≤109572))
  else
  some false) fun j2=>
 some j2
def ij(t0:Int):Int→Option (Ex Int Int Unit):=fun s3=>
 (Ag (ca .i64 (s3+1))).bind fun x4=>
 if x4≤t0 then
  some (Ex.go (ca .i64 (s3+1)))
 else
 some (Ex.brk s3)
def kj(b7:Int):(Int×Int)→Option (Ex (Int×Int) Unit (Int×Int×Int)):=fun(s9,s10)=>
 if s10<12 then
  (zc b7 (ca .i64 (s10+1))).bind fun x12=>
  if s9<x12 then
   some (Ex.ret (b7,(ca .i64 (s10+1)),(ca .i64 (s9+1))))
  else
  some (Ex.go ((ca .i64 (s9-x12)),(ca .i64 (s10+1))))
 else
 some (Ex.brk ())
def Ci(t0:Int):Option (Int×Int×Int):=
 (Yj t0).bind fun x1=>
 if x1=false then
  some (0,0,0)
 else
 (ia (ij t0) (ca .i64 (1900+(ca .i64 (iab t0 366))))).bind fun y=>match y with
 |.inr _=>none
 |.inl b7=>
 (Ag b7).bind fun x8=>
 (ia (kj b7) ((ca .i64 (t0-x8)),0)).bind fun y=>match y with
 |.inr v=>some v
 |.inl _=>
 some (0,0,0)
def Jl(t0:Int) (t1:GValue):Option GValue:=
 if t0=10 then
  some (GValue.mk t1.Kind 0 (ca .i64 (-t1.N)))
 else
 if t0=25 then
  (qf (t1.N==0)).bind fun x3=>
  some x3
 else
 (Ci t1.N).bind fun x4=>
 if t0=31 then
  some (GValue.mk 2 0 x4.1)
 else
 some (GValue.mk 2 0 x4.2.1)
def Zl(t0:Int) (t1:Int):Option (Int×Int):=
 (Xc (ca .u64 (max t0 (ca .i64 (-t0)))) (ca .u64 (max t1 (ca .i64 (-t1))))).bind fun x1=>
 jaa (α:=Bool) (
  if x1.1=0 then
   some (decide (1000000000000000<x1.2))
  else
  some true) fun j3=>
 if j3=true then
  some (0,3)
 else
 if¬(decide (t0<0))=(decide (t1<0))then
  some ((ca .i64 (-(ca .i64 x1.2))),0)
 else
 some ((ca .i64 x1.2),0)
def Dm(t0:Int) (t1:Int) (t2:Int) (t3:Int):Option (Int×Int):=
 (uf t3).bind fun x1=>
 if x1=false then
  some (0,1)
 else
 if t2=0 then
  some (0,12)
 else
 jaa (α:=Bool) (
  (Jd t0 1000000000000000).bind fun x4=>
  if x4=false then
   (Jd t1 1000000000).bind fun x6=>
   if x6=false then
    (Jd t2 1000000000).bind fun x8=>
    some x8
   else
   some true
  else
  some true) fun j9=>
 if j9=true then
  some (0,3)
 else
 (Vc t0).bind fun x11=>
 (Vc t1).bind fun x12=>
 (Xc x11 x12).bind fun x13=>
 (Vc t2).bind fun x14=>
 if x14≤x13.1 then
  some (0,3)
 else
 (Yd x13.1 x13.2 x14).bind fun x16=>
 if 1000000000000000<x16.1 then
  some (0,3)
 else
 (pd x16.1 x16.2 x14 (!((!((decide (t0<0))==(decide (t1<0))))==(decide (t2<0)))) t3).bind fun x18=>
 if 1000000000000000<x18 then
  some (0,3)
 else
 (Ek x18 (!((!((decide (t0<0))==(decide (t1<0))))==(decide (t2<0))))).bind fun x20=>
 some (x20,0)
def Ho(t0:Int) (t1:Int) (t2:Int):Option (Int×Int):=
 (Dm t0 t1 1000000 t2).bind fun x1=>
 some (x1.1,x1.2)
def ai(t0:Int):Option Bool:=
 jaa (α:=Bool) (
  if 0≤t0 then
   some (decide (t0≤5))
  else
  some false) fun j2=>
 some j2
def nh(t0:Int) (t1:Int):Option Bool:=
 jaa (α:=Bool) (
  if¬t1<t0 then
   some (decide (t0<(ca .i64 (-t1))))
  else
  some true) fun j2=>
 some j2
def Ws(t0:Int) (t1:Int) (t2:Int):Option (Int×Int):=
 (ai t2).bind fun x1=>
 if x1=false then
  some (0,1)
 else
 jaa (α:=Bool) (
  (nh t0 1000000000).bind fun x3=>
  if x3=false then
   (nh t1 1000000000).bind fun x5=>
   some x5
  else
  some true) fun j6=>
 if j6=true then
  some (0,3)
 else
 (Pd (ca .i64 (t0*t1)) 1000000 t2).bind fun x8=>
 if¬x8.2=0 then
  some (0,x8.2)
 else
 (nh x8.1 1000000000).bind fun x10=>
 if x10=true then
  some (0,3)
 else
 some (x8.1,0)
def Vk(t0:Int) (t1:Int) (t2:Int):Option (Int×Int):=
 (uf t2).bind fun x1=>
 if x1=false then
  some (0,1)
 else
 if t1<1 then
  some (0,12)
 else
 jaa (α:=Bool) (
  (Jd t0 1000000000000000).bind fun x4=>
  if x4=false then
   some (decide (1000000000000000<t1))
  else
  some true) fun j6=>
 if j6=true then
  some (0,3)
 else
 (Pd t0 t1 t2).bind fun x8=>
 if¬x8.2=0 then
  some (0,x8.2)
 else
 (Jd (ca .i64 (x8.1*t1)) 1000000000000000).bind fun x10=>
 if x10=true then
  some (0,3)
 else
 some ((ca .i64 (x8.1*t1)),0)
def Uk(t0:Int) (t1:Int) (t2:Int) (t3:Bool) (t4:Int):Option Bool:=
 if t1=0 then
  some false
 else
 if t4=0 then
  some t3
 else
 if t4=1 then
  some (!t3)
 else
 if t4=3 then
  some true
 else
 if t4=4 then
  some (decide ((ca .u64 (t2-t1))≤t1))
 else
 if t4=5 then
  jaa (α:=Bool) (
   if¬(ca .u64 (t2-t1))<t1 then
    if t1=(ca .u64 (t2-t1))then
     some ((Lab t0 2)==1)
    else
    some false
   else
   some true) fun j9=>
  some j9
 else
 some false
def Vj(t0:Int) (t1:Int) (t2:Int):Option (Int×Int):=
 (ai t2).bind fun x1=>
 if x1=false then
  some (0,1)
 else
 if t1=0 then
  some (0,12)
 else
 jaa (α:=Bool) (
  (nh t0 1000000000000000).bind fun x4=>
  if x4=false then
   (nh t1 1000000000000000).bind fun x6=>
   some x6
  else
  some true) fun j7=>
 if j7=true then
  some (0,3)
 else
 (Xc (ca .u64 (max t0 (ca .i64 (-t0)))) 1000000).bind fun x9=>
 if(ca .u64 (max t1 (ca .i64 (-t1))))≤x9.1 then
  some (0,3)
 else
 (Yd x9.1 x9.2 (ca .u64 (max t1 (ca .i64 (-t1))))).bind fun x11=>
 if 1000000000<x11.1 then
  some (0,3)
 else
 jaa (α:=Int) (
  (Uk x11.1 x11.2 (ca .u64 (max t1 (ca .i64 (-t1)))) (!((decide (t0<0))==(decide (t1<0)))) t2).bind fun x13=>
  if x13=true then
   some (ca .i64 ((ca .i64 x11.1)+1))
  else
  some (ca .i64 x11.1)) fun j15=>
 if 1000000000<j15 then
  some (0,3)
 else
 jaa (α:=Int) (
  if¬(decide (t0<0))=(decide (t1<0))then
   some (ca .i64 (-j15))
  else
  some j15) fun j18=>
 some (j18,0)
def Me(t0:GNode) (t1:GValue) (t2:GValue):Option (GValue×Int):=
 jaa (α:=(Int×Int×Int)) (
  if t0.Op=13 then
   (Zl t1.N t2.N).bind fun x2=>
   some (t1.Kind,x2.1,x2.2)
  else
  jaa (α:=Bool) (
   if t0.Op=14 then
    some (t1.Kind==3)
   else
   some false) fun j4=>
  if j4=true then
   (Ho t1.N t2.N t0.N).bind fun x6=>
   some (t1.Kind,x6.1,x6.2)
  else
  if t0.Op=14 then
   (Ws t1.N t2.N t0.N).bind fun x8=>
   some (t1.Kind,x8.1,x8.2)
  else
  if t0.Op=16 then
   (Vk t1.N t2.N t0.N).bind fun x10=>
   some (t1.Kind,x10.1,x10.2)
  else
  if t2.Kind=2 then
   (Pd t1.N t2.N t0.N).bind fun x12=>
   some (t1.Kind,x12.1,x12.2)
  else
  (Vj t1.N t2.N t0.N).bind fun x13=>
  some (4,x13.1,x13.2)) fun(j14,j15,j16)=>
 some ((GValue.mk j14 0 j15),j16)
def Re(t0:Int) (t1:Int):Option (Int×Int):=
 jaa (α:=Bool) (
  (Yj t0).bind fun x1=>
  if x1=true then
   if¬t1<(-3600)then
    some (decide (3600<t1))
   else
   some true
  else
  some true) fun j4=>
 if j4=true then
  some (0,3)
 else
 (Ci t0).bind fun x6=>
 jaa (α:=Bool) (
  if¬(ca .i64 ((ca .i64 ((ca .i64 ((ca .i64 ((ca .i64 (x6.1-1900))*12))+x6.2.1))-1))+t1))<0 then
   some (decide (3599<(ca .i64 ((ca .i64 ((ca .i64 ((ca .i64 ((ca .i64 (x6.1-1900))*12))+x6.2.1))-1))+t1))))
  else
  some true) fun j8=>
 if j8=true then
  some (0,3)
 else
 (zc (ca .i64 (1900+(ca .i64 (iab (ca .i64 ((ca .i64 ((ca .i64 ((ca .i64 ((ca .i64 (x6.1-1900))*12))+x6.2.1))-1))+t1)) 12)))) (ca .i64 ((Lab (ca .i64 ((ca .i64 ((ca .i64 ((ca .i64 ((ca .i64 (x6.1-1900))*12))+x6.2.1))-1))+t1)) 12)+1))).bind fun x10=>
 (ah (ca .i64 (1900+(ca .i64 (iab (ca .i64 ((ca .i64 ((ca .i64 ((ca .i64 ((ca .i64 (x6.1-1900))*12))+x6.2.1))-1))+t1)) 12)))) (ca .i64 ((Lab (ca .i64 ((ca .i64 ((ca .i64 ((ca .i64 ((ca .i64 (x6.1-1900))*12))+x6.2.1))-1))+t1)) 12)+1)) (min x6.2.2 x10)).bind fun x11=>
 some (x11.1,x11.2)
def vh(t0:Int) (t1:Int):Option Int:=
 jaa (α:=Bool) (
  (Yj t0).bind fun x1=>
  if x1=true then
   (Yj t1).bind fun x3=>
   if x3=true then
    some (decide (t1<t0))
   else
   some true
  else
  some true) fun j5=>
 if j5=true then
  some 0
 else
 (Ci t0).bind fun x7=>
 (Ci t1).bind fun x8=>
 jaa (α:=Int) (
  (Re t0 (ca .i64 (12*(ca .i64 (x8.1-x7.1))))).bind fun x9=>
  jaa (α:=Bool) (
   if x9.2=0 then
    some (decide (t1<x9.1))
   else
   some true) fun j11=>
  if j11=true then
   some (ca .i64 ((ca .i64 (x8.1-x7.1))-1))
  else
  some (ca .i64 (x8.1-x7.1))) fun j13=>
 some (max j13 0)
def zb(t0:GNode) (t1:GValue) (t2:GValue):Option (GValue×Int):=
 jaa (α:=Bool) (
  if t0.Op=11 then
   some true
  else
  some (t0.Op==27)) fun j2=>
 if j2=true then
  some ((GValue.mk t1.Kind 0 (ca .i64 (t1.N+t2.N))),0)
 else
 if t0.Op=12 then
  some ((GValue.mk t1.Kind 0 (ca .i64 (t1.N-t2.N))),0)
 else
 jaa (α:=Bool) (
  if t0.Op=13 then
   some true
  else
  if t0.Op=14 then
   some true
  else
  if t0.Op=15 then
   some true
  else
  some (t0.Op==16)) fun j8=>
 if j8=true then
  (Me t0 t1 t2).bind fun x10=>
  some (x10.1,x10.2)
 else
 jaa (α:=Bool) (
  if t0.Op=17 then
   some true
  else
  some (t0.Op==18)) fun j12=>
 if j12=true then
  if(t0.Op==17)=(decide (t2.N<t1.N))then
   some (t2,0)
  else
  some (t1,0)
 else
 if t0.Op=19 then
  (qf (t1.N==t2.N)).bind fun x16=>
  some (x16,0)
 else
 if t0.Op=20 then
  (qf (t1.N !=t2.N)).bind fun x18=>
  some (x18,0)
 else
 if t0.Op=21 then
  (qf (decide (t1.N<t2.N))).bind fun x20=>
  some (x20,0)
 else
 if t0.Op=22 then
  (qf (decide (t1.N≤t2.N))).bind fun x22=>
  some (x22,0)
 else
 if t0.Op=23 then
  jaa (α:=(Int×Int×Int)) (
   if t1.N=1 then
    (qf (t2.N==1)).bind fun x25=>
    some (x25.Kind,x25.Enum,x25.N)
   else
   (qf false).bind fun x26=>
   some (x26.Kind,x26.Enum,x26.N)) fun(j27,j28,j29)=>
  some ((GValue.mk j27 j28 j29),0)
 else
 if t0.Op=24 then
  jaa (α:=(Int×Int×Int)) (
   if¬t1.N=1 then
    (qf (t2.N==1)).bind fun x32=>
    some (x32.Kind,x32.Enum,x32.N)
   else
   (qf true).bind fun x33=>
   some (x33.Kind,x33.Enum,x33.N)) fun(j34,j35,j36)=>
  some ((GValue.mk j34 j35 j36),0)
 else
 if t0.Op=28 then
  (Re t1.N t2.N).bind fun x38=>
  some ((GValue.mk 5 0 x38.1),x38.2)
 else
 if t0.Op=29 then
  some ((GValue.mk 2 0 (ca .i64 (t2.N-t1.N))),0)
 else
 (vh t1.N t2.N).bind fun x40=>
 some ((GValue.mk 2 0 x40),0)
def wa(t0:GNode) (t1:List GValue) (t2:GEnv):Option (GValue×Int):=
 jaa (α:=Bool) (
  if t0.Op=1 then
   some true
  else
  if t0.Op=2 then
   some true
  else
  if t0.Op=3 then
   some true
  else
  if t0.Op=4 then
   some true
  else
  some (t0.Op==5)) fun j5=>
 if j5=true then
  some ((GValue.mk t0.Op 0 t0.N),0)
 else
 if t0.Op=6 then
  some ((GValue.mk 6 (ca .i64 (iab t0.N 16)) (Lab t0.N 16)),0)
 else
 if t0.Op=7 then
  (idx t2.Inputs t0.N).bind fun x9=>
  some (x9,0)
 else
 if t0.Op=8 then
  (idx t2.Defs t0.N).bind fun x11=>
  some (x11,0)
 else
 if t0.Op=9 then
  some ((GValue.mk 5 0 t2.Date),0)
 else
 if t0.Op=35 then
  some ((GValue.mk 2 0 (t2.Members.length:Int)),0)
 else
 jaa (α:=Bool) (
  if t0.Op=36 then
   some true
  else
  if t0.Op=37 then
   some true
  else
  if t0.Op=38 then
   some true
  else
  some (t0.Op==39)) fun j17=>
 if j17=true then
  (Qf t0 t2).bind fun x19=>
  some (x19.1,x19.2)
 else
 if t0.Op=33 then
  (idx t2.Tables t0.N).bind fun x21=>
  (idx t1 0).bind fun x22=>
  (uk x21 t2.Date x22.N).bind fun x23=>
  if x23.2=false then
   some ((GValue.mk 0 0 0),6)
  else
  (idx x21.Rows x23.1).bind fun x25=>
  some ((GValue.mk x21.Value.Kind x21.Value.Enum x25.N),0)
 else
 if t0.Op=34 then
  (idx t2.Tables (ca .i64 (iab t0.N 8))).bind fun x27=>
  (idx t1 0).bind fun x28=>
  (pk x27 t2.Date x28.N (Lab t0.N 8)).bind fun x29=>
  some ((GValue.mk 3 0 x29.1),x29.2)
 else
 if(t1.length:Int)=1 then
  (idx t1 0).bind fun x31=>
  (Jl t0.Op x31).bind fun x32=>
  some (x32,0)
 else
 if(t1.length:Int)=2 then
  (idx t1 0).bind fun x34=>
  (idx t1 1).bind fun x35=>
  (zb t0 x34 x35).bind fun x36=>
  some (x36.1,x36.2)
 else
 (idx t1 0).bind fun x37=>
 if x37.N=1 then
  (idx t1 1).bind fun x39=>
  some (x39,0)
 else
 (idx t1 2).bind fun x40=>
 some (x40,0)
def Ki(t0:GNode) (t1:List GValue) (t2:GEnv):Option (GValue×Int):=
 jaa (α:=Bool) (
  (aj t0).bind fun x1=>
  if x1=true then
   (Bh t0.Op).bind fun x3=>
   some ((t1.length:Int) !=x3)
  else
  some true) fun j4=>
 if j4=true then
  some ((GValue.mk 0 0 0),2)
 else
 (rn t0 t2).bind fun x6=>
 if x6=false then
  some ((GValue.mk 0 0 0),6)
 else
 jaa (α:=Bool) (
  (Pg t1).bind fun x8=>
  if x8=true then
   (ja t0 t1 t2).bind fun x10=>
   some (!x10)
  else
  some true) fun j11=>
 if j11=true then
  some ((GValue.mk 0 0 0),8)
 else
 (wa t0 t1 t2).bind fun x13=>
 if¬x13.2=0 then
  some ((GValue.mk 0 0 0),x13.2)
 else
 (sb x13.1).bind fun x15=>
 if x15=false then
  some ((GValue.mk 0 0 0),3)
 else
 some (x13.1,0)
def Cc(t0:GEval_evaluator) (x2:List Int) (R214:(GEval_evaluator→Int→Option (GValue×Int))):((List GValue)×Int)→Option (Ex ((List GValue)×Int) (List GValue) (GValue×Int)):=fun(s9,s10)=>
 if s10<(x2.length:Int)then
  (idx x2 s10).bind fun x12=>
  (R214 t0 x12).bind fun x13=>
  if¬x13.2=0 then
   some (Ex.ret ((GValue.mk 0 0 0),x13.2))
  else
  (idx s9 s10).bind fun x15=>
  (put s9 s10 x13.1).bind fun x16=>
  some (Ex.go (x16,(ca .i64 (s10+1))))
 else
 some (Ex.brk s9)
def Sb(R214:(GEval_evaluator→Int→Option (GValue×Int))) (R250:(GEval_evaluator→GNode→(List Int)→Option (GValue×Int))) (R275:(GEval_evaluator→Int→Option (GValue×Int))) (t0:GEval_evaluator) (t1:Int):Option (GValue×Int):=
 (idx t0.nodes t1).bind fun x1=>
 (sd t0 t1).bind fun x2=>
 jaa (α:=Bool) (
  if x1.Op=23 then
   some true
  else
  if x1.Op=24 then
   some true
  else
  some (x1.Op==26)) fun j5=>
 if j5=true then
  (R250 t0 x1 x2).bind fun x7=>
  some (x7.1,x7.2)
 else
 (au 24 (GValue.mk 0 0 0) (x2.length:Int) (x2.length:Int)).bind fun x8=>
 (ia (Cc t0 x2 R214) (x8,0)).bind fun y=>match y with
 |.inr v=>some v
 |.inl b19=>
 (Ki x1 b19 t0.env).bind fun x20=>
 some (x20.1,x20.2)
def ue(R214:(GEval_evaluator→Int→Option (GValue×Int))) (R250:(GEval_evaluator→GNode→(List Int)→Option (GValue×Int))) (R275:(GEval_evaluator→Int→Option (GValue×Int))) (t0:GEval_evaluator) (t1:GNode) (t2:List Int):Option (GValue×Int):=
 if¬t1.N=0 then
  some ((GValue.mk 0 0 0),2)
 else
 (idx t2 0).bind fun x2=>
 (R275 t0 x2).bind fun x3=>
 if¬x3.2=0 then
  some ((GValue.mk 0 0 0),x3.2)
 else
 jaa (α:=Bool) (
  if t1.Op=26 then
   some (x3.1.N==1)
  else
  some false) fun j6=>
 if j6=true then
  (idx t2 1).bind fun x8=>
  (R214 t0 x8).bind fun x9=>
  some (x9.1,x9.2)
 else
 if t1.Op=26 then
  (idx t2 2).bind fun x11=>
  (R214 t0 x11).bind fun x12=>
  some (x12.1,x12.2)
 else
 if(t1.Op==23)=(x3.1.N==0)then
  some (x3.1,0)
 else
 (idx t2 1).bind fun x14=>
 (R275 t0 x14).bind fun x15=>
 some (x15.1,x15.2)
def Rb(R214:(GEval_evaluator→Int→Option (GValue×Int))) (R250:(GEval_evaluator→GNode→(List Int)→Option (GValue×Int))) (R275:(GEval_evaluator→Int→Option (GValue×Int))) (t0:GEval_evaluator) (t1:Int):Option (GValue×Int):=
 (R214 t0 t1).bind fun x1=>
 if¬x1.2=0 then
  some ((GValue.mk 0 0 0),x1.2)
 else
 jaa (α:=Bool) (
  if x1.1.Kind=1 then
   (sb x1.1).bind fun x4=>
   some (!x4)
  else
  some true) fun j5=>
 if j5=true then
  some ((GValue.mk 0 0 0),8)
 else
 some (x1.1,0)
def da:Nat→(GEval_evaluator→Int→Option (GValue×Int))×(GEval_evaluator→GNode→(List Int)→Option (GValue×Int))×(GEval_evaluator→Int→Option (GValue×Int))
 |0=>(fun _ _=>none,fun _ _ _=>none,fun _ _=>none)
 |n+1=>(Sb (da n).1 (da n).2.1 (da n).2.2,ue (da n).1 (da n).2.1 (da n).2.2,Rb (da n).1 (da n).2.1 (da n).2.2)
def Ih(t0:GEval_evaluator) (t1:Int):Option (GValue×Int):=(da Ap).1 t0 t1
def so(t0:GEval_evaluator) (t1:GNode) (t2:List Int):Option (GValue×Int):=(da Ap).2.1 t0 t1 t2
def um(t0:GEval_evaluator) (t1:Int):Option (GValue×Int):=(da Ap).2.2 t0 t1
def xk(t0:List GNode) (t1:GEnv):Option (GValue×Int):=
 (On t0).bind fun x1=>
 if¬x1.2=0 then
  some ((GValue.mk 0 0 0),x1.2)
 else
 (Ih (GEval_evaluator.mk t0 x1.1 t1) (ca .i64 ((t0.length:Int)-1))).bind fun x3=>
 some (x3.1,x3.2)
def Nd(t0:List GRule) (t1:(GRule→Option Bool)):((List Int)×(List Int)×(List Int)×Int)→Option (Ex ((List Int)×(List Int)×(List Int)×Int) ((List Int)×(List Int)) Unit):=fun(s2,s3,s4,s5)=>
 if s5<(t0.length:Int)then
  jaa (α:=((List Int)×(List Int)×(List Int))) (
   (idx t0 s5).bind fun x7=>
   jaa (α:=Int) (
    jaa (α:=Bool) (
     if 0≤x7.Parent then
      some (decide (x7.Parent<s5))
     else
     some false) fun j9=>
    if j9=true then
     (idx s4 x7.Parent).bind fun x11=>
     some x11
    else
    some (-1)) fun j12=>
   (idx s4 s5).bind fun x13=>
   (put s4 s5 j12).bind fun x14=>
   (t1 x7).bind fun x15=>
   if x15=true then
    (idx x14 s5).bind fun x17=>
    (put x14 s5 (s2.length:Int)).bind fun x18=>
    (app 8 s2 ([s5])).bind fun x19=>
    (app 8 s3 ([j12])).bind fun x20=>
    some (x19,x20,x18)
   else
   some (s2,s3,x14)) fun(j21,j22,j23)=>
  some (Ex.go (j21,j22,j23,(ca .i64 (s5+1))))
 else
 some (Ex.brk (s2,s3))
def Sd(t0:List GRule) (t1:(GRule→Option Bool)):Option ((List Int)×(List Int)):=
 (au 8 0 (t0.length:Int) (t0.length:Int)).bind fun x1=>
 (ia (Nd t0 t1) (([]:List Int),([]:List Int),x1,0)).bind fun y=>match y with
 |.inr _=>none
 |.inl (b28,b29)=>
 some (b28,b29)
def Td(t0:GRule) (t1:Int) (t2:Int):Option Bool:=
 jaa (α:=Bool) (
  if t0.Def=t1 then
   (Eb t0.Valid t2).bind fun x2=>
   some x2
  else
  some false) fun j3=>
 some j3
def Cf(t0:GScope) (x1:((List Int)×(List Int))):((List Int)×Int)→Option (Ex ((List Int)×Int) (List Int) Unit):=fun(s2,s3)=>
 if s3<(x1.1.length:Int)then
  (idx x1.1 s3).bind fun x5=>
  (idx t0.Rules x5).bind fun x6=>
  (app 8 s2 ([x6.Priority])).bind fun x7=>
  some (Ex.go (x7,(ca .i64 (s3+1))))
 else
 some (Ex.brk s2)
def Pf(t0:GScope) (t1:Int) (t2:Int):Option ((List Int)×(List Int)×(List Int)):=
 (Sd t0.Rules (fun x900=>Td x900 t1 t2)).bind fun x1=>
 (ia (Cf t0 x1) (([]:List Int),0)).bind fun y=>match y with
 |.inr _=>none
 |.inl b10=>
 some (x1.1,x1.2,b10)
def Pe(t0:List Int) (t1:List Int):Int→Option (Ex Int Unit Int):=fun s3=>
 if s3<(t0.length:Int)then
  (idx t0 s3).bind fun x5=>
  jaa (α:=Bool) (
   if¬x5<(-1)then
    some (decide (s3≤x5))
   else
   some true) fun j7=>
  if j7=true then
   some (Ex.ret 9)
  else
  jaa (α:=Bool) (
   (idx t1 s3).bind fun x9=>
   if¬x9<0 then
    some (decide (9<x9))
   else
   some true) fun j11=>
  if j11=true then
   some (Ex.ret 3)
  else
  some (Ex.go (ca .i64 (s3+1)))
 else
 some (Ex.brk ())
def qh(t0:List Int) (t1:List Int):Option Int:=
 if¬(t0.length:Int)=(t1.length:Int)then
  some 2
 else
 if 8<(t0.length:Int)then
  some 4
 else
 (ia (Pe t0 t1) 0).bind fun y=>match y with
 |.inr v=>some v
 |.inl _=>
 some 0
def Oe(t0:List Int) (t1:Int):((List Int)×Int)→Option (Ex ((List Int)×Int) (List Int) Unit):=fun(s1,s2)=>
 if s2<(t0.length:Int)then
  jaa (α:=(List Int)) (
   (idx t0 s2).bind fun x4=>
   if x4=t1 then
    (app 8 s1 ([s2])).bind fun x6=>
    some x6
   else
   some s1) fun j7=>
  some (Ex.go (j7,(ca .i64 (s2+1))))
 else
 some (Ex.brk s1)
def ph(t0:List Int) (t1:Int):Option (List Int):=
 (ia (Oe t0 t1) (([]:List Int),0)).bind fun y=>match y with
 |.inr _=>none
 |.inl b10=>
 some b10
def Cg(t0:GRuletree_tree) (x1:List Int):((List Int)×Int)→Option (Ex ((List Int)×Int) (List Int) Unit):=fun(s2,s3)=>
 if s3<(x1.length:Int)then
  jaa (α:=(List Int)) (
   (idx x1 s3).bind fun x5=>
   (idx t0.outcome x5).bind fun x6=>
   if x6=(-1)then
    some s2
   else
   jaa (α:=(List Int)) (
    jaa (α:=Bool) (
     if 0<(s2.length:Int)then
      (idx t0.priority x5).bind fun x9=>
      (idx s2 0).bind fun x10=>
      (idx t0.priority x10).bind fun x11=>
      some (decide (x11<x9))
     else
     some false) fun j12=>
    if j12=true then
     (uo s2 0).bind fun x14=>
     some x14
    else
    some s2) fun j15=>
   jaa (α:=Bool) (
    if¬(j15.length:Int)=0 then
     (idx t0.priority x5).bind fun x17=>
     (idx j15 0).bind fun x18=>
     (idx t0.priority x18).bind fun x19=>
     some (x17==x19)
    else
    some true) fun j20=>
   if j20=true then
    (app 8 j15 ([x5])).bind fun x22=>
    some x22
   else
   some j15) fun j23=>
  some (Ex.go (j23,(ca .i64 (s3+1))))
 else
 some (Ex.brk s2)
def Ui(t0:GRuletree_tree) (t1:Int):Option (List Int):=
 (ph t0.parent t1).bind fun x1=>
 (ia (Cg t0 x1) (([]:List Int),0)).bind fun y=>match y with
 |.inr _=>none
 |.inl b26=>
 some b26
def fb(t0:GRuletree_tree) (t1:Int):Option Int:=
 (Ui t0 t1).bind fun x1=>
 if(x1.length:Int)=0 then
  some (-1)
 else
 if(x1.length:Int)=1 then
  (idx x1 0).bind fun x4=>
  (idx t0.outcome x4).bind fun x5=>
  some x5
 else
 some (-2)
def af(t0:List Int) (t1:List Int) (t2:List Bool):((List Int)×Int)→Option (Ex ((List Int)×Int) (List Int) Unit):=fun(s2,s3)=>
 if 0≤s3 then
  jaa (α:=(List Int)) (
   (fb (GRuletree_tree.mk t0 t1 s2) s3).bind fun x5=>
   (idx s2 s3).bind fun x6=>
   (put s2 s3 x5).bind fun x7=>
   jaa (α:=Bool) (
    (idx x7 s3).bind fun x8=>
    if x8=(-1)then
     (idx t2 s3).bind fun x10=>
     some x10
    else
    some false) fun j11=>
   if j11=true then
    (idx x7 s3).bind fun x13=>
    (put x7 s3 s3).bind fun x14=>
    some x14
   else
   some x7) fun j15=>
  some (Ex.go (j15,(ca .i64 (s3-1))))
 else
 some (Ex.brk s2)
def Qg(t0:List Int) (t1:List Int) (t2:List Bool):Option (List Int):=
 (au 8 0 (t0.length:Int) (t0.length:Int)).bind fun x1=>
 (ia (af t0 t1 t2) (x1,(ca .i64 ((t0.length:Int)-1)))).bind fun y=>match y with
 |.inr _=>none
 |.inl b18=>
 some b18
def Xi(t0:List Int) (t1:List Int) (t2:List Bool):Option Int:=
 jaa (α:=Bool) (
  (qh t0 t1).bind fun x1=>
  if x1=0 then
   some ((t2.length:Int) !=(t0.length:Int))
  else
  some true) fun j3=>
 if j3=true then
  some (-1)
 else
 (Qg t0 t1 t2).bind fun x5=>
 (fb (GRuletree_tree.mk t0 t1 x5) (-1)).bind fun x6=>
 some x6
def Ni(t0:GScope) (t1:GEnv) (t2:Int) (t3:Int) (x1:((List Int)×(List Int)×(List Int))):((List Bool)×Int)→Option (Ex ((List Bool)×Int) (List Bool) (Int×GEvalError)):=fun(s3,s4)=>
 if s4<(x1.1.length:Int)then
  jaa (α:=((List Bool)⊕(Ex ((List Bool)×Int) (List Bool) (Int×GEvalError)))) (
   (idx x1.1 s4).bind fun x6=>
   (idx t0.Rules x6).bind fun x7=>
   if(x7.Guard.length:Int)=0 then
    (idx s3 s4).bind fun x9=>
    (put s3 s4 true).bind fun x10=>
    some (Sum.inl x10)
   else
   (xk x7.Guard t1).bind fun x11=>
   if¬x11.2=0 then
    some (Sum.inr (Ex.ret (0,(GEvalError.mk x11.2 t2 t3 x6))))
   else
   (idx s3 s4).bind fun x13=>
   (put s3 s4 (x11.1.N==1)).bind fun x14=>
   some (Sum.inl x14)) fun z=>match z with
  |.inr v=>some v
  |.inl j15=>
  some (Ex.go (j15,(ca .i64 (s4+1))))
 else
 some (Ex.brk s3)
def xf(t0:GScope) (t1:GEnv) (t2:Int) (t3:Int):Option (Int×GEvalError):=
 (Pf t0 t3 t1.Date).bind fun x1=>
 (au 1 false (x1.1.length:Int) (x1.1.length:Int)).bind fun x2=>
 (ia (Ni t0 t1 t2 t3 x1) (x2,0)).bind fun y=>match y with
 |.inr v=>some v
 |.inl b18=>
 (Xi x1.2.1 x1.2.2 b18).bind fun x19=>
 if x19<0 then
  some (x19,(GEvalError.mk 0 0 0 0))
 else
 (idx x1.1 x19).bind fun x21=>
 some (x21,(GEvalError.mk 0 0 0 0))
def td(t0:GScope) (t1:GEnv) (t2:Int) (t3:List Bool) (x3:((List Int)×Int)):((List GValue)×(List Int)×Int)→Option (Ex ((List GValue)×(List Int)×Int) ((List GValue)×(List Int)) (((List Int)×GEvalError)×GEnv)):=fun(s4,s5,s6)=>
 if s6<(x3.1.length:Int)then
  jaa (α:=(((List GValue)×(List Int))⊕(Ex ((List GValue)×(List Int)×Int) ((List GValue)×(List Int)) (((List Int)×GEvalError)×GEnv)))) (
   (idx x3.1 s6).bind fun x8=>
   (idx t3 x8).bind fun x9=>
   if x9=false then
    some (Sum.inl (s4,s5))
   else
   (xf t0 (GEnv.mk t1.Date t1.Inputs s4 t1.Members t1.MemberTypes t1.Tables) t2 x8).bind fun x11=>
   if¬x11.2.Code=0 then
    some (Sum.inr (Ex.ret (([],x11.2),(GEnv.mk t1.Date t1.Inputs s4 t1.Members t1.MemberTypes t1.Tables))))
   else
   if x11.1=(-1)then
    some (Sum.inr (Ex.ret (([],(GEvalError.mk 10 t2 x8 (-1))),(GEnv.mk t1.Date t1.Inputs s4 t1.Members t1.MemberTypes t1.Tables))))
   else
   if x11.1=(-2)then
    some (Sum.inr (Ex.ret (([],(GEvalError.mk 11 t2 x8 (-1))),(GEnv.mk t1.Date t1.Inputs s4 t1.Members t1.MemberTypes t1.Tables))))
   else
   (idx t0.Rules x11.1).bind fun x15=>
   (xk x15.Value (GEnv.mk t1.Date t1.Inputs s4 t1.Members t1.MemberTypes t1.Tables)).bind fun x16=>
   if¬x16.2=0 then
    some (Sum.inr (Ex.ret (([],(GEvalError.mk x16.2 t2 x8 x11.1)),(GEnv.mk t1.Date t1.Inputs s4 t1.Members t1.MemberTypes t1.Tables))))
   else
   (idx s4 x8).bind fun x18=>
   (put s4 x8 x16.1).bind fun x19=>
   (idx s5 x8).bind fun x20=>
   (put s5 x8 x11.1).bind fun x21=>
   some (Sum.inl (x19,x21))) fun z=>match z with
  |.inr v=>some v
  |.inl (j22,j23)=>
  some (Ex.go (j22,j23,(ca .i64 (s6+1))))
 else
 some (Ex.brk (s4,s5))
def ya(t0:GScope) (t1:GEnv) (t2:Int) (t3:List Bool):Option (((List Int)×GEvalError)×GEnv):=
 (au 24 (GValue.mk 0 0 0) (t0.Defs.length:Int) (t0.Defs.length:Int)).bind fun x1=>
 (au 8 0 (t0.Defs.length:Int) (t0.Defs.length:Int)).bind fun x2=>
 (Cd t0).bind fun x3=>
 (ia (td t0 t1 t2 t3 x3) (x1,x2,0)).bind fun y=>match y with
 |.inr v=>some v
 |.inl (b27,b28)=>
 some ((b28,(GEvalError.mk 0 0 0 0)),(GEnv.mk t1.Date t1.Inputs b27 t1.Members t1.MemberTypes t1.Tables))
def Mi(t3:GInterp_needs):((List GType)×Int)→Option (Ex ((List GType)×Int) (List GType) Unit):=fun(s1,s2)=>
 if s2<(t3.memberScope.Defs.length:Int)then
  (idx t3.memberScope.Defs s2).bind fun x4=>
  (app 16 s1 ([x4.Type_])).bind fun x5=>
  some (Ex.go (x5,(ca .i64 (s2+1))))
 else
 some (Ex.brk s1)
def Vi(t0:GLaw) (t2:GCase) (t3:GInterp_needs):((List (List GValue))×(List GMemberResult)×Int)→Option (Ex ((List (List GValue))×(List GMemberResult)×Int) ((List (List GValue))×(List GMemberResult)) (GResult×GEnv×GEvalError)):=fun(s9,s10,s11)=>
 if s11<(t2.Members.length:Int)then
  (idx t2.Members s11).bind fun x13=>
  (ya t3.memberScope (GEnv.mk t2.Date x13 ([]) ([]) ([]) t0.Tables) s11 t3.memberDefs).bind fun x14=>
  if¬x14.1.2.Code=0 then
   some (Ex.ret ((GResult.mk ([]) ([]) ([])),(GEnv.mk 0 ([]) ([]) ([]) ([]) ([])),x14.1.2))
  else
  (app 24 s9 ([x14.2.Defs])).bind fun x16=>
  (app 48 s10 ([(GMemberResult.mk x14.2.Defs x14.1.1)])).bind fun x17=>
  some (Ex.go (x16,x17,(ca .i64 (s11+1))))
 else
 some (Ex.brk (s9,s10))
def rf(t0:GLaw) (t1:Int) (t2:GCase) (t3:GInterp_needs):Option (GResult×GEnv×GEvalError):=
 (ia (Mi t3) (([]:List GType),0)).bind fun y=>match y with
 |.inr _=>none
 |.inl b8=>
 (ia (Vi t0 t2 t3) (([]:List (List GValue)),([]:List GMemberResult),0)).bind fun y=>match y with
 |.inr v=>some v
 |.inl (b21,b22)=>
 (ya t3.scope (GEnv.mk t2.Date t2.Inputs ([]) b21 b8 t0.Tables) (-1) t3.defs).bind fun x23=>
 if¬x23.1.2.Code=0 then
  some ((GResult.mk ([]) ([]) ([])),(GEnv.mk 0 ([]) ([]) ([]) ([]) ([])),x23.1.2)
 else
 some ((GResult.mk x23.2.Defs x23.1.1 b22),x23.2,(GEvalError.mk 0 0 0 0))
def Hl(x8:List Int):((List Bool)×Int)→Option (Ex ((List Bool)×Int) (List Bool) Unit):=fun(s9,s10)=>
 if s10<(x8.length:Int)then
  (idx x8 s10).bind fun x12=>
  (idx s9 x12).bind fun x13=>
  (put s9 x12 true).bind fun x14=>
  some (Ex.go (x14,(ca .i64 (s10+1))))
 else
 some (Ex.brk s9)
def bg(t0:GScope) (b17:List Bool):((List Int)×Int)→Option (Ex ((List Int)×Int) (List Int) Unit):=fun(s18,s19)=>
 if s19<(t0.Rules.length:Int)then
  jaa (α:=(List Int)) (
   (idx t0.Rules s19).bind fun x21=>
   jaa (α:=Bool) (
    if¬x21.Def<0 then
     if¬(t0.Defs.length:Int)≤x21.Def then
      (idx b17 x21.Def).bind fun x24=>
      some (!x24)
     else
     some true
    else
    some true) fun j25=>
   if j25=true then
    some s18
   else
   (Zd x21.Guard).bind fun x27=>
   (Zd x21.Value).bind fun x28=>
   (app 8 s18 x27.2.2).bind fun x29=>
   (app 8 x29 x28.2.2).bind fun x30=>
   some x30) fun j31=>
  some (Ex.go (j31,(ca .i64 (s19+1))))
 else
 some (Ex.brk s18)
def Lg(t0:GScope) (t1:Int):Option (List Int):=
 jaa (α:=Bool) (
  if¬t1<0 then
   some (decide ((t0.Defs.length:Int)≤t1))
  else
  some true) fun j2=>
 if j2=true then
  some ([])
 else
 (au 1 false (t0.Defs.length:Int) (t0.Defs.length:Int)).bind fun x4=>
 (idx x4 t1).bind fun x5=>
 (put x4 t1 true).bind fun x6=>
 (Jb t0).bind fun x7=>
 (kh x7 t1).bind fun x8=>
 (ia (Hl x8) (x6,0)).bind fun y=>match y with
 |.inr _=>none
 |.inl b17=>
 (ia (bg t0 b17) (([]:List Int),0)).bind fun y=>match y with
 |.inr _=>none
 |.inl b34=>
 (ag b34).bind fun x35=>
 some x35
def zj(t0:GLaw) (t1:Int):Option (ByteArray×Int×(List GField)×(List GField)×(List GRule)×ByteArray×Int×(List GField)×(List GField)×(List GRule)×(List Bool)×(List Bool)):=
 (idx t0.Scopes t1).bind fun x3=>
 (au 1 false (x3.Defs.length:Int) (x3.Defs.length:Int)).bind fun x4=>
 jaa (α:=(ByteArray×Int×(List GField)×(List GField)×(List GRule)×(List Bool))) (
  if 0≤x3.MemberScope then
   (idx t0.Scopes x3.MemberScope).bind fun x6=>
   (au 1 false (x6.Defs.length:Int) (x6.Defs.length:Int)).bind fun x7=>
   some (x6.Name,x6.MemberScope,x6.Inputs,x6.Defs,x6.Rules,x7)
  else
  some ((vaa #[]),0,([]:List GField),([]:List GField),([]:List GRule),([]:List Bool))) fun(j8,j9,j10,j11,j12,j13)=>
 some (x3.Name,x3.MemberScope,x3.Inputs,x3.Defs,x3.Rules,j8,j9,j10,j11,j12,x4,j13)
def Ii(x28:List Int):((List Bool)×Int)→Option (Ex ((List Bool)×Int) (List Bool) Unit):=fun(s29,s30)=>
 if s30<(x28.length:Int)then
  (idx x28 s30).bind fun x32=>
  (idx s29 x32).bind fun x33=>
  (put s29 x32 true).bind fun x34=>
  some (Ex.go (x34,(ca .i64 (s30+1))))
 else
 some (Ex.brk s29)
def Wi(x45:List Int):((List Bool)×Int)→Option (Ex ((List Bool)×Int) (List Bool) Unit):=fun(s46,s47)=>
 if s47<(x45.length:Int)then
  (idx x45 s47).bind fun x49=>
  (idx s46 x49).bind fun x50=>
  (put s46 x49 true).bind fun x51=>
  some (Ex.go (x51,(ca .i64 (s47+1))))
 else
 some (Ex.brk s46)
def kg(i19:ByteArray) (i20:Int) (i21:List GField) (i22:List GField) (i23:List GRule) (s39:List Bool) (x42:Int):Option (List Bool):=
 (idx s39 x42).bind fun x43=>
 (put s39 x42 true).bind fun x44=>
 (pc (GScope.mk i19 i20 i21 i22 i23) x42).bind fun x45=>
 (ia (Wi x45) (x44,0)).bind fun y=>match y with
 |.inr _=>none
 |.inl b54=>
 some b54
def Oi(i19:ByteArray) (i20:Int) (i21:List GField) (i22:List GField) (i23:List GRule) (x38:List Int):((List Bool)×Int)→Option (Ex ((List Bool)×Int) (List Bool) Unit):=fun(s39,s40)=>
 if s40<(x38.length:Int)then
  (idx x38 s40).bind fun x42=>
  (kg i19 i20 i21 i22 i23 s39 x42).bind fun i55=>
  some (Ex.go (i55,(ca .i64 (s40+1))))
 else
 some (Ex.brk s39)
def Li(t3:Int) (i14:ByteArray) (i15:Int) (i16:List GField) (i17:List GField) (i18:List GRule) (i19:ByteArray) (i20:Int) (i21:List GField) (i22:List GField) (i23:List GRule) (i24:List Bool) (i25:List Bool):Option ((List Bool)×(List Bool)):=
 (idx i24 t3).bind fun x26=>
 (put i24 t3 true).bind fun x27=>
 (pc (GScope.mk i14 i15 i16 i17 i18) t3).bind fun x28=>
 (ia (Ii x28) (x27,0)).bind fun y=>match y with
 |.inr _=>none
 |.inl b37=>
 (Lg (GScope.mk i14 i15 i16 i17 i18) t3).bind fun x38=>
 (ia (Oi i19 i20 i21 i22 i23 x38) (i25,0)).bind fun y=>match y with
 |.inr _=>none
 |.inl b58=>
 some (b37,b58)
def Uc(t0:GLaw) (t1:Int) (t2:GCase) (t3:Int):Option (GValue×Int×GEvalError):=
 (Tb t0 t1 t2 true t3).bind fun x1=>
 if¬x1.Code=0 then
  some ((GValue.mk 0 0 0),0,x1)
 else
 (zj t0 t1).bind fun(i14,i15,i16,i17,i18,i19,i20,i21,i22,i23,i24,i25)=>
 (Li t3 i14 i15 i16 i17 i18 i19 i20 i21 i22 i23 i24 i25).bind fun(i59,i60)=>
 (rf t0 t1 t2 (GInterp_needs.mk (GScope.mk i14 i15 i16 i17 i18) (GScope.mk i19 i20 i21 i22 i23) i59 i60)).bind fun x61=>
 if¬x61.2.2.Code=0 then
  some ((GValue.mk 0 0 0),0,x61.2.2)
 else
 (idx x61.1.Values t3).bind fun x63=>
 (idx x61.1.Rules t3).bind fun x64=>
 some (x63,x64,(GEvalError.mk 0 0 0 0))
def Ng(t0:GLaw) (t1:GHousehold) (t2:GPayConfig) (t3:List GDateRange) (t4:Int):(Int×Int×Int)→Option (Ex (Int×Int×Int) (Int×Int) (Int×Int)):=fun(s1,s2,s3)=>
 if s3<(t3.length:Int)then
  (idx t3 s3).bind fun x5=>
  (Yf t0 t1 x5.From t4).bind fun x6=>
  if¬x6.2=0 then
   some (Ex.ret (0,x6.2))
  else
  (Uc t0 t1.Scope x6.1 t2.Def).bind fun x8=>
  if¬x8.2.2.Code=0 then
   some (Ex.ret (0,x8.2.2.Code))
  else
  some (Ex.go ((ca .i64 (s1+(ca .i64 (x8.1.N*(ca .i64 (x5.To-x5.From)))))),(ca .i64 (s2+(ca .i64 (x5.To-x5.From)))),(ca .i64 (s3+1))))
 else
 some (Ex.brk (s1,s2))
def Si(t0:GLaw) (t1:GHousehold) (t2:GPayConfig) (t3:List GDateRange) (t4:Int):Option (Int×Int):=
 (ia (Ng t0 t1 t2 t3 t4) (0,0,0)).bind fun y=>match y with
 |.inr v=>some v
 |.inl (b13,b14)=>
 (Pd b13 b14 t2.Rounding).bind fun x15=>
 if¬x15.2=0 then
  some (0,x15.2)
 else
 some ((max x15.1 0),0)
def cmp_isNaN_int(t0:Int):Option Bool:=
 some false
def cmp_Less_int(t0:Int) (t1:Int):Option Bool:=
 jaa (α:=Bool) (
  (cmp_isNaN_int t0).bind fun x1=>
  if x1=true then
   (cmp_isNaN_int t1).bind fun x3=>
   if x3=true then
    some (decide (t0<t1))
   else
   some true
  else
  some (decide (t0<t1))) fun j5=>
 some j5
def ni(t0:Int):Option Bool:=
 some false
def Ec(t0:List Int) (t1:Int):(Int×Int)→Option (Ex (Int×Int) Int Unit):=fun(s1,s2)=>
 if s1<s2 then
  (idx t0 (ca .i64 (Sae (ca .u64 (ca .i64 (s1+s2))) 2))).bind fun x4=>
  (cmp_Less_int x4 t1).bind fun x5=>
  if x5=true then
   some (Ex.go ((ca .i64 ((ca .i64 (Sae (ca .u64 (ca .i64 (s1+s2))) 2))+1)),s2))
  else
  some (Ex.go (s1,(ca .i64 (Sae (ca .u64 (ca .i64 (s1+s2))) 2))))
 else
 some (Ex.brk s1)
def Wb(t0:List Int) (t1:Int):Option (Int×Bool):=
 (ia (Ec t0 t1) (0,(t0.length:Int))).bind fun y=>match y with
 |.inr _=>none
 |.inl b9=>
 jaa (α:=Bool) (
  if b9<(t0.length:Int)then
   (idx t0 b9).bind fun x11=>
   if¬x11=t1 then
    (ni x11).bind fun x13=>
    if x13=true then
     (ni t1).bind fun x15=>
     some x15
    else
    some false
   else
   some true
  else
  some false) fun j16=>
 some (b9,j16)
def Bl(t0:GDateRange) (t1:List Int):(Int×(List GDateRange)×Int)→Option (Ex (Int×(List GDateRange)×Int) (Int×(List GDateRange)) Unit):=fun(s2,s3,s4)=>
 jaa (α:=Bool) (
  if s4<(t1.length:Int)then
   (idx t1 s4).bind fun x6=>
   some (decide (x6<t0.To))
  else
  some false) fun j7=>
 if j7=true then
  (idx t1 s4).bind fun x9=>
  (app 16 s3 ([(GDateRange.mk s2 x9)])).bind fun x10=>
  some (Ex.go (x9,x10,(ca .i64 (s4+1))))
 else
 some (Ex.brk (s2,s3))
def Qi(t0:GDateRange) (t1:List Int):Option (List GDateRange):=
 (Wb t1 (ca .i64 (t0.From+1))).bind fun x1=>
 (ia (Bl t0 t1) (t0.From,([]:List GDateRange),x1.1)).bind fun y=>match y with
 |.inr _=>none
 |.inl (b14,b15)=>
 (app 16 b15 ([(GDateRange.mk b14 t0.To)])).bind fun x16=>
 some x16
def ud(t0:List GDateRange):((List Int)×Int)→Option (Ex ((List Int)×Int) (List Int) Unit):=fun(s1,s2)=>
 if s2<(t0.length:Int)then
  jaa (α:=(List Int)) (
   (idx t0 s2).bind fun x4=>
   (Xb x4).bind fun x5=>
   if x5=true then
    (app 8 s1 ([x4.From,x4.To])).bind fun x7=>
    some x7
   else
   some s1) fun j8=>
  some (Ex.go (j8,(ca .i64 (s2+1))))
 else
 some (Ex.brk s1)
def bf(t0:List GDateRange):Option (List Int):=
 (ia (ud t0) (([]:List Int),0)).bind fun y=>match y with
 |.inr _=>none
 |.inl b11=>
 (Ka b11).bind fun x12=>
 (Aa x12).bind fun x13=>
 some x13
def Ye(t0:List GFact) (t1:Int):((List GDateRange)×Int)→Option (Ex ((List GDateRange)×Int) (List GDateRange) Unit):=fun(s1,s2)=>
 if s2<(t0.length:Int)then
  jaa (α:=(List GDateRange)) (
   (idx t0 s2).bind fun x4=>
   jaa (α:=Bool) (
    if x4.Recorded≤t1 then
     (Yh x4.Valid).bind fun x6=>
     some x6
    else
    some false) fun j7=>
   if j7=true then
    (app 16 s1 ([x4.Valid])).bind fun x9=>
    some x9
   else
   some s1) fun j10=>
  some (Ex.go (j10,(ca .i64 (s2+1))))
 else
 some (Ex.brk s1)
def Ze(x14:List Int):((List Int)×Int)→Option (Ex ((List Int)×Int) (List Int) Unit):=fun(s15,s16)=>
 if s16<(x14.length:Int)then
  jaa (α:=(List Int)) (
   (idx x14 s16).bind fun x18=>
   jaa (α:=Bool) (
    if 1≤x18 then
     some (decide (x18≤109572))
    else
    some false) fun j20=>
   if j20=true then
    (app 8 s15 ([x18])).bind fun x22=>
    some x22
   else
   some s15) fun j23=>
  some (Ex.go (j23,(ca .i64 (s16+1))))
 else
 some (Ex.brk s15)
def Yg(t0:List GFact) (t1:Int):Option (List Int):=
 (ia (Ye t0 t1) (([]:List GDateRange),0)).bind fun y=>match y with
 |.inr _=>none
 |.inl b13=>
 (bf b13).bind fun x14=>
 (ia (Ze x14) (([]:List Int),0)).bind fun y=>match y with
 |.inr _=>none
 |.inl b26=>
 some b26
def Ob(t0:Int):Option Bool:=
 jaa (α:=Bool) (
  if¬t0<1 then
   some (decide (109572<t0))
  else
  some true) fun j2=>
 some j2
def Je(x4:GTable):((List GDateRange)×Int)→Option (Ex ((List GDateRange)×Int) (List GDateRange) Unit):=fun(s5,s6)=>
 if s6<(x4.Rows.length:Int)then
  (idx x4.Rows s6).bind fun x8=>
  (app 16 s5 ([x8.Valid])).bind fun x9=>
  some (Ex.go (x9,(ca .i64 (s6+1))))
 else
 some (Ex.brk s5)
def Ab(t0:GLaw):((List GDateRange)×Int)→Option (Ex ((List GDateRange)×Int) (List GDateRange) Unit):=fun(s1,s2)=>
 if s2<(t0.Tables.length:Int)then
  (idx t0.Tables s2).bind fun x4=>
  (ia (Je x4) (s1,0)).bind fun y=>match y with
  |.inr _=>none
  |.inl b12=>
  some (Ex.go (b12,(ca .i64 (s2+1))))
 else
 some (Ex.brk s1)
def ie(x19:GScope):((List GDateRange)×Int)→Option (Ex ((List GDateRange)×Int) (List GDateRange) Unit):=fun(s20,s21)=>
 if s21<(x19.Rules.length:Int)then
  (idx x19.Rules s21).bind fun x23=>
  (app 16 s20 ([x23.Valid])).bind fun x24=>
  some (Ex.go (x24,(ca .i64 (s21+1))))
 else
 some (Ex.brk s20)
def Bb(t0:GLaw):((List GDateRange)×Int)→Option (Ex ((List GDateRange)×Int) (List GDateRange) Unit):=fun(s16,s17)=>
 if s17<(t0.Scopes.length:Int)then
  (idx t0.Scopes s17).bind fun x19=>
  (ia (ie x19) (s16,0)).bind fun y=>match y with
  |.inr _=>none
  |.inl b27=>
  some (Ex.go (b27,(ca .i64 (s17+1))))
 else
 some (Ex.brk s16)
def Fc(b30:List GDateRange):((List Int)×Int)→Option (Ex ((List Int)×Int) (List Int) Unit):=fun(s31,s32)=>
 if s32<(b30.length:Int)then
  jaa (α:=(List Int)) (
   (idx b30 s32).bind fun x34=>
   (Xb x34).bind fun x35=>
   if x35=true then
    (app 8 s31 ([x34.From,x34.To])).bind fun x37=>
    some x37
   else
   some s31) fun j38=>
  some (Ex.go (j38,(ca .i64 (s32+1))))
 else
 some (Ex.brk s31)
def Ge(b30:List GDateRange):Option (List Int):=
 (ia (Fc b30) (([]:List Int),0)).bind fun y=>match y with
 |.inr _=>none
 |.inl b41=>
 (Ka b41).bind fun x42=>
 (Aa x42).bind fun x43=>
 some x43
def Jc(i44:List Int):Int→Option (Ex Int Unit Int):=fun s45=>
 if s45<(i44.length:Int)then
  (idx i44 s45).bind fun x47=>
  (Ob x47).bind fun x48=>
  if x48=true then
   some (Ex.ret s45)
  else
  some (Ex.go (ca .i64 (s45+1)))
 else
 some (Ex.brk ())
def xh(i44:List Int):Option Int:=
 (ia (Jc i44) 0).bind fun y=>match y with
 |.inr v=>some v
 |.inl _=>
 some (-1)
def Gc  : ((List Int)×Int×Int)→Option (Ex ((List Int)×Int×Int) ((List Int)×Int) Unit):=fun(s53,s54,s55)=>
 if s55<(s53.length:Int)then
  jaa (α:=((List Int)×Int)) (
   (idx s53 s55).bind fun x57=>
   (Ob x57).bind fun x58=>
   if x58=false then
    (idx s53 s54).bind fun x60=>
    (put s53 s54 x57).bind fun x61=>
    some (x61,(ca .i64 (s54+1)))
   else
   some (s53,s54)) fun(j62,j63)=>
  some (Ex.go (j62,j63,(ca .i64 (s55+1))))
 else
 some (Ex.brk (s53,s54))
def Fe(i44:List Int):Option ((List Int)×(List Int)):=
 (xh i44).bind fun i51=>
 if i51=(-1)then
  some (i44,i44)
 else
 (ia Gc (i44,i51,(ca .i64 (i51+1)))).bind fun y=>match y with
 |.inr _=>none
 |.inl (b67,b68)=>
 (Zx b67 b68).bind fun x69=>
 (VN b67 b68 x69 0).bind fun x70=>
 (uo x70 b68).bind fun x71=>
 some (x70,x71)
def re(t0:GLaw):Option (List Int):=
 (ia (Ab t0) (([]:List GDateRange),0)).bind fun y=>match y with
 |.inr _=>none
 |.inl b15=>
 (ia (Bb t0) (b15,0)).bind fun y=>match y with
 |.inr _=>none
 |.inl b30=>
 (Ge b30).bind fun i44=>
 (Fe i44).bind fun(i72,i73)=>
 some i73
def qd(x3:(List (List Int))):(Int×Int)→Option (Ex (Int×Int) Int Unit):=fun(s4,s5)=>
 if s5<(x3.length:Int)then
  (idx x3 s5).bind fun x7=>
  if(ca .i64 (s4+(x7.length:Int)))<0 then
   none
  else
  some (Ex.go ((ca .i64 (s4+(x7.length:Int))),(ca .i64 (s5+1))))
 else
 some (Ex.brk s4)
def Xg(b11:Int):Option (List Int):=
 if b11<0 then
  none
 else
 jaa (α:=(List Int)) (
  if 0<(ca .i64 (b11-(ca .i64 (0-0))))then
   (S4 8 0 (ca .i64 (b11-(ca .i64 (0-0))))).bind fun x14=>
   (uo x14 0).bind fun x15=>
   some x15
  else
  some ([]:List Int)) fun j16=>
 some j16
def Bd(x3:(List (List Int))):((List Int)×Int)→Option (Ex ((List Int)×Int) (List Int) Unit):=fun(s18,s19)=>
 if s19<(x3.length:Int)then
  (idx x3 s19).bind fun x21=>
  (app 8 s18 x21).bind fun x22=>
  some (Ex.go (x22,(ca .i64 (s19+1))))
 else
 some (Ex.brk s18)
def Vg(x3:(List (List Int))):Option (List Int):=
 (ia (qd x3) (0,0)).bind fun y=>match y with
 |.inr _=>none
 |.inl b11=>
 (Xg b11).bind fun i17=>
 (ia (Bd x3) (i17,0)).bind fun y=>match y with
 |.inr _=>none
 |.inl b25=>
 some b25
def Sc(t0:GLaw) (t1:GHousehold) (t2:Int):Option (List Int):=
 (Yg t1.Facts t2).bind fun x1=>
 (re t0).bind fun x2=>
 (u9 [x1,x2]).bind fun x3=>
 (Vg x3).bind fun i26=>
 (Ka i26).bind fun x27=>
 (Aa x27).bind fun x28=>
 some x28
def qg(t0:GLaw) (t1:GHousehold) (t2:GPayConfig) (t3:Int) (t4:Int):Option GAward:=
 (Pl t3).bind fun x1=>
 if¬x1.2=0 then
  some (GAward.mk t3 0 3)
 else
 (Od t0 t1 t2).bind fun x3=>
 if x3=false then
  some (GAward.mk t3 0 1)
 else
 (Sc t0 t1 t4).bind fun x5=>
 (Qi x1.1 x5).bind fun x6=>
 (Si t0 t1 t2 x6 t4).bind fun x7=>
 some (GAward.mk t3 x7.1 x7.2)
def vo(t0:List GNode):Option GLaw:=
 some (GLaw.mk ([]) ([]) ([(GScope.mk (vaa #[104,111,117,115,101]) (-1) ([(GField.mk (vaa #[97]) (GType.mk 3 0))]) ([(GField.mk (vaa #[100]) (GType.mk 3 0))]) ([(GRule.mk (vaa #[98,97,115,101]) 0 (-1) 0 (GDateRange.mk 0 109573) ([]) t0 (vaa #[]))]))]))
def zm  : Option GDateRange:=
 some (GDateRange.mk 0 109573)
def xi  : Option Bool:=
 (vo ([(GNode.mk 7 0)])).bind fun x1=>
 (zm).bind fun x2=>
 (qg x1 (GHousehold.mk 0 0 0 ([(GFact.mk 0 (-1) 0 (GValue.mk 3 0 500) x2 0)])) (GPayConfig.mk 0 0 1 0 0 0 0 (GCalendar.mk 0 ([]))) 3 10).bind fun x3=>
 (qg x1 (GHousehold.mk 0 0 0 ([])) (GPayConfig.mk 0 0 1 0 0 0 0 (GCalendar.mk 0 ([]))) 3 10).bind fun x4=>
 jaa (α:=Bool) (
  if x3.Month=3∧x3.Cents=500∧x3.Code=0 then
   some ((x4.Month==3)&&((x4.Cents==0)&&(x4.Code==6)))
  else
  some false) fun j6=>
 some j6
def bb(t1:GHousehold):((List GFact)×Int)→Option (Ex ((List GFact)×Int) (List GFact) Unit):=fun(s4,s5)=>
 if 0≤s5 then
  (idx t1.Facts s5).bind fun x7=>
  (app 72 s4 ([x7])).bind fun x8=>
  some (Ex.go (x8,(ca .i64 (s5-1))))
 else
 some (Ex.brk s4)
def Laa(t0:GLaw) (t1:GHousehold) (t2:GPayConfig) (t3:GGuerdonlaw36_Query):Option Bool:=
 (Kp t0 t1 t2).bind fun x1=>
 if x1=false then
  (xi).bind fun x3=>
  some x3
 else
 (ia (bb t1) (([]:List GFact),(ca .i64 ((t1.Facts.length:Int)-1)))).bind fun y=>match y with
 |.inr _=>none
 |.inl b11=>
 jaa (α:=Bool) (
  (qg t0 t1 t2 t3.Month t3.Recorded).bind fun x12=>
  (qg t0 (GHousehold.mk t1.Id t1.Scope t1.Members b11) t2 t3.Month t3.Recorded).bind fun x13=>
  if x12.Month=x13.Month∧x12.Cents=x13.Cents∧x12.Code=x13.Code then
   (xi).bind fun x15=>
   some x15
  else
  some false) fun j16=>
 some j16
def Daf(t0:GLaw) (t1:GHousehold) (t2:Int) (t3:Int):Option (List GDateRange):=
 (Pl t2).bind fun x1=>
 if¬x1.2=0 then
  some ([])
 else
 (Sc t0 t1 t3).bind fun x3=>
 (Qi x1.1 x3).bind fun x4=>
 some x4
def Aaf(t0:List GNode):Int→Option (Ex Int Unit Bool):=fun s1=>
 if s1<(t0.length:Int)then
  (idx t0 s1).bind fun x3=>
  if x3.Op=9 then
   some (Ex.ret true)
  else
  some (Ex.go (ca .i64 (s1+1)))
 else
 some (Ex.brk ())
def Baf(t0:List GNode):Option Bool:=
 (ia (Aaf t0) 0).bind fun y=>match y with
 |.inr v=>some v
 |.inl _=>
 some false
def Oaa(t0:GLaw) (s1:Int):Int→Option (Ex Int Unit (Ex Int Unit Bool)):=fun s3=>
 (idx t0.Scopes s1).bind fun x4=>
 if s3<(x4.Rules.length:Int)then
  (idx x4.Rules s3).bind fun x6=>
  jaa (α:=Bool) (
   (Baf x6.Guard).bind fun x7=>
   if x7=false then
    (Baf x6.Value).bind fun x9=>
    some x9
   else
   some true) fun j10=>
  if j10=true then
   some (Ex.ret (Ex.ret true))
  else
  some (Ex.go (ca .i64 (s3+1)))
 else
 some (Ex.brk ())
def Lac(t0:GLaw):Int→Option (Ex Int Unit Bool):=fun s1=>
 if s1<(t0.Scopes.length:Int)then
  (ia (Oaa t0 s1) 0).bind fun y=>match y with
  |.inr v=>some v
  |.inl _=>
  some (Ex.go (ca .i64 (s1+1)))
 else
 some (Ex.brk ())
def Caf(t0:GLaw):Option Bool:=
 (ia (Lac t0) 0).bind fun y=>match y with
 |.inr v=>some v
 |.inl _=>
 some false
def zaf(t0:GLaw) (t1:GHousehold) (t2:GPayConfig) (t3:Int) (t4:Int):Option (Int×Bool):=
 (Yf t0 t1 t3 t4).bind fun x1=>
 if¬x1.2=0 then
  some (0,false)
 else
 (Uc t0 t1.Scope x1.1 t2.Def).bind fun x3=>
 some ((max x3.1.N 0),(x3.2.2.Code==0))
def k8(t0:GLaw) (t1:GHousehold) (t2:GPayConfig) (t3:GGuerdonlaw36_Query):Option Bool:=
 (Kp t0 t1 t2).bind fun x1=>
 if x1=false then
  (xi).bind fun x3=>
  some x3
 else
 (qg t0 t1 t2 t3.Month t3.Recorded).bind fun x4=>
 jaa (α:=Bool) (
  if x4.Code=0 then
   (Caf t0).bind fun x6=>
   if x6=false then
    (Daf t0 t1 t3.Month t3.Recorded).bind fun x8=>
    some ((x8.length:Int) !=1)
   else
   some true
  else
  some true) fun j9=>
 if j9=true then
  (xi).bind fun x11=>
  some x11
 else
 (Pl t3.Month).bind fun x12=>
 jaa (α:=Bool) (
  if x12.2=0 then
   if¬x12.1.To≤x12.1.From then
    some (decide (31<(ca .i64 (x12.1.To-x12.1.From))))
   else
   some true
  else
  some true) fun j15=>
 if j15=true then
  some false
 else
 if x12.1.To≤(ca .i64 (x12.1.From+(Lab (ca .i64 ((Lab t3.Day 31)+31)) 31)))then
  (xi).bind fun x18=>
  some x18
 else
 (zaf t0 t1 t2 (ca .i64 (x12.1.From+(Lab (ca .i64 ((Lab t3.Day 31)+31)) 31))) t3.Recorded).bind fun x19=>
 jaa (α:=Bool) (
  if x19.2=true then
   if x19.1=x4.Cents then
    (xi).bind fun x22=>
    some x22
   else
   some false
  else
  some false) fun j23=>
 some j23
def taa(t0:GLaw) (t1:GHousehold) (t2:GPayConfig) (t3:GGuerdonlaw36_Query) (x9:List GDateRange):(Int×Int×Int)→Option (Ex (Int×Int×Int) (Int×Int) Bool):=fun(s10,s11,s12)=>
 if s12<(x9.length:Int)then
  (idx x9 s12).bind fun x14=>
  (zaf t0 t1 t2 x14.From t3.Recorded).bind fun x15=>
  if x15.2=false then
   some (Ex.ret false)
  else
  some (Ex.go ((min s10 x15.1),(max s11 x15.1),(ca .i64 (s12+1))))
 else
 some (Ex.brk (s10,s11))
def Kaa(t0:GLaw) (t1:GHousehold) (t2:GPayConfig) (t3:GGuerdonlaw36_Query):Option Bool:=
 (Kp t0 t1 t2).bind fun x1=>
 if x1=false then
  (xi).bind fun x3=>
  some x3
 else
 (qg t0 t1 t2 t3.Month t3.Recorded).bind fun x4=>
 if¬x4.Code=0 then
  jaa (α:=Bool) (
   if x4.Cents=0 then
    (xi).bind fun x7=>
    some x7
   else
   some false) fun j8=>
  some j8
 else
 (Daf t0 t1 t3.Month t3.Recorded).bind fun x9=>
 (ia (taa t0 t1 t2 t3 x9) (1000000000000000,0,0)).bind fun y=>match y with
 |.inr v=>some v
 |.inl (b20,b21)=>
 jaa (α:=Bool) (
  if 0<(x9.length:Int)then
   if 0≤x4.Cents then
    if x4.Cents≤b21 then
     if b20≤x4.Cents then
      (xi).bind fun x26=>
      some x26
     else
     some false
    else
    some false
   else
   some false
  else
  some false) fun j27=>
 some j27
end
end Go.Proofs.Dev
