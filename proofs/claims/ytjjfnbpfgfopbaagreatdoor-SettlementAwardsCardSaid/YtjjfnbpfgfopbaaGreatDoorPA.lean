/-
  The functions as plain partial functions, and plain lemmas about them: no condition.
-/
import Derived.Test.YtjjfnbpfgfopbaaGreatDoorEC
import Derived.Test.YtjjfnbpfgfopbaaGreatDoorED
import Derived.Lib.SlicesCompact
open ByteArray renaming mk->yaa
open Eq renaming trans->maa
open Int renaming fdiv->Nae,tdiv->Zaa,tmod->Dab
open List renaming range->xaa
open Option renaming bind->laa
set_option linter.all false
namespace Go.Tm
def Iw:List Int->Int->List Int |[],n=>[n] |x::l,n=>if n<=x then(if n<x then n::x::l else x::l)else x::Iw l n
def wg(l:List Int):List Int:=l.foldl Iw []
inductive ReachL (g:List (List Int)):Int->Int->Prop
 |one {a b:Int} {l:List Int} (h:g[a.toNat]?=some l) (hb:b∈l):ReachL g a b
 |step {a b c:Int} {l:List Int} (h:ReachL g a b) (hl:g[b.toNat]?=some l) (hc:c∈l):ReachL g a c
open Classical in
noncomputable def PG(g:List (List Int)) (a:Int):List Int:=((xaa g.length).map λ(k:Nat)=>(k:Int)).filter λb=>decide (ReachL g a b)
@[irreducible] def Wu:Nat:=1000000
def BN(g:List (List Int)) (out:List Int) (d:Nat):Bool:=!out.contains (d:Int)&&(g.getD d []).all λe=>out.contains e
def Uu(g:List (List Int)):Nat->List Int->List Int×Int |0,out=>(out,0) |n+1,out=>match (xaa g.length).find? (BN g out)with |some d=>Uu g n (out++[(d:Int)]) |none=>([],9)
def wv(g:List (List Int)):List Int×Int:=Uu g g.length []
end Go.Tm
set_option maxHeartbeats 1000000
set_option maxRecDepth 100000
namespace Go.Proofs.Dev
open Go Go.Tm
def Tw(x:ByteArray):D:=.v (.string x)
instance:Enc ByteArray Tw:=⟨Sv Tw.eq_1⟩
theorem R8:type_of% @Tw.eq_1:=λ_=>maa rfl rfl
def KR(x:List ByteArray):D:=.sl 1 (x.map Tw)
instance:Enc (List ByteArray) KR:=⟨Fr.s _⟩
theorem VU:type_of% @KR.eq_1:=λ_=>maa rfl rfl
structure GEnum where
 Name:ByteArray
 Members:(List ByteArray)
def Rn(x:GEnum):D:=.agg [.v (.string x.Name),.sl 1 (x.Members.map Tw)]
instance:Enc GEnum Rn:=⟨Sv Rn.eq_1⟩
theorem NU:type_of% @Rn.eq_1:=λ_=>maa rfl rfl
def Pt(x:List GEnum):D:=.sl 2 (x.map Rn)
instance:Enc (List GEnum) Pt:=⟨Fr.s _⟩
theorem mM:type_of% @Pt.eq_1:=λ_=>maa rfl rfl
def ca(x:Int):D:=.v (.int .i64 x)
instance:Enc Int ca:=⟨Sv ca.eq_1⟩
theorem Q8:type_of% @ca.eq_1:=λ_=>maa rfl rfl
structure GType where
 Kind:Int
 Enum:Int
def Xp(x:GType):D:=.agg [.v (.int .i64 x.Kind),.v (.int .i64 x.Enum)]
instance:Enc GType Xp:=⟨Sv Xp.eq_1⟩
theorem RU:type_of% @Xp.eq_1:=λ_=>maa rfl rfl
structure GDateRange where
 From:Int
 To:Int
def Ui(x:GDateRange):D:=.agg [.v (.int .i64 x.From),.v (.int .i64 x.To)]
instance:Enc GDateRange Ui:=⟨Sv Ui.eq_1⟩
theorem IF:type_of% @Ui.eq_1:=λ_=>maa rfl rfl
structure GRow where
 Valid:GDateRange
 Lo:Int
 Hi:Int
 N:Int
def Wp(x:GRow):D:=.agg [.v (.int .i64 x.Valid.From),.v (.int .i64 x.Valid.To),.v (.int .i64 x.Lo),.v (.int .i64 x.Hi),.v (.int .i64 x.N)]
instance:Enc GRow Wp:=⟨Sv Wp.eq_1⟩
theorem cZ:type_of% @Wp.eq_1:=λ_=>maa rfl rfl
def Vx(x:List GRow):D:=.sl 5 (x.map Wp)
instance:Enc (List GRow) Vx:=⟨Fr.s _⟩
theorem GP:type_of% @Vx.eq_1:=λ_=>maa rfl rfl
structure GTable where
 Name:ByteArray
 Key:GType
 Value:GType
 Rows:(List GRow)
def Zg(x:GTable):D:=.agg [.v (.string x.Name),.v (.int .i64 x.Key.Kind),.v (.int .i64 x.Key.Enum),.v (.int .i64 x.Value.Kind),.v (.int .i64 x.Value.Enum),.sl 5 (x.Rows.map Wp)]
instance:Enc GTable Zg:=⟨Sv Zg.eq_1⟩
theorem BP:type_of% @Zg.eq_1:=λ_=>maa rfl rfl
def Yq(x:List GTable):D:=.sl 6 (x.map Zg)
instance:Enc (List GTable) Yq:=⟨Fr.s _⟩
theorem qK:type_of% @Yq.eq_1:=λ_=>maa rfl rfl
structure GField where
 Name:ByteArray
 Type_:GType
def Zd(x:GField):D:=.agg [.v (.string x.Name),.v (.int .i64 x.Type_.Kind),.v (.int .i64 x.Type_.Enum)]
instance:Enc GField Zd:=⟨Sv Zd.eq_1⟩
theorem zP:type_of% @Zd.eq_1:=λ_=>maa rfl rfl
def Wq(x:List GField):D:=.sl 3 (x.map Zd)
instance:Enc (List GField) Wq:=⟨Fr.s _⟩
theorem oK:type_of% @Wq.eq_1:=λ_=>maa rfl rfl
structure GNode where
 Op:Int
 N:Int
def Wi(x:GNode):D:=.agg [.v (.int .i64 x.Op),.v (.int .i64 x.N)]
instance:Enc GNode Wi:=⟨Sv Wi.eq_1⟩
theorem PU:type_of% @Wi.eq_1:=λ_=>maa rfl rfl
def xC(x:List GNode):D:=.sl 2 (x.map Wi)
instance:Enc (List GNode) xC:=⟨Fr.s _⟩
theorem oM:type_of% @xC.eq_1:=λ_=>maa rfl rfl
structure GRule where
 Name:ByteArray
 Def:Int
 Parent:Int
 Priority:Int
 Valid:GDateRange
 Guard:(List GNode)
 Value:(List GNode)
 Source:ByteArray
def Jf(x:GRule):D:=.agg [.v (.string x.Name),.v (.int .i64 x.Def),.v (.int .i64 x.Parent),.v (.int .i64 x.Priority),.v (.int .i64 x.Valid.From),.v (.int .i64 x.Valid.To),.sl 2 (x.Guard.map Wi),.sl 2 (x.Value.map Wi),.v (.string x.Source)]
instance:Enc GRule Jf:=⟨Sv Jf.eq_1⟩
theorem QU:type_of% @Jf.eq_1:=λ_=>maa rfl rfl
def Wj(x:List GRule):D:=.sl 9 (x.map Jf)
instance:Enc (List GRule) Wj:=⟨Fr.s _⟩
theorem pM:type_of% @Wj.eq_1:=λ_=>maa rfl rfl
structure GScope where
 Name:ByteArray
 MemberScope:Int
 Inputs:(List GField)
 Defs:(List GField)
 Rules:(List GRule)
def ee(x:GScope):D:=.agg [.v (.string x.Name),.v (.int .i64 x.MemberScope),.sl 3 (x.Inputs.map Zd),.sl 3 (x.Defs.map Zd),.sl 9 (x.Rules.map Jf)]
instance:Enc GScope ee:=⟨Sv ee.eq_1⟩
theorem AP:type_of% @ee.eq_1:=λ_=>maa rfl rfl
def Xq(x:List GScope):D:=.sl 5 (x.map ee)
instance:Enc (List GScope) Xq:=⟨Fr.s _⟩
theorem pK:type_of% @Xq.eq_1:=λ_=>maa rfl rfl
structure GLaw where
 Enums:(List GEnum)
 Tables:(List GTable)
 Scopes:(List GScope)
def Tk(x:GLaw):D:=.agg [.sl 2 (x.Enums.map Rn),.sl 6 (x.Tables.map Zg),.sl 5 (x.Scopes.map ee)]
instance:Enc GLaw Tk:=⟨Sv Tk.eq_1⟩
theorem aZ:type_of% @Tk.eq_1:=λ_=>maa rfl rfl
def sa(x:Bool):D:=.v (.bool x)
instance:Enc Bool sa:=⟨Sv sa.eq_1⟩
theorem dZ:type_of% @sa.eq_1:=λ_=>maa rfl rfl
def Xa(x:List Int):D:=.sl 1 (x.map ca)
instance:Enc (List Int) Xa:=⟨Fr.s _⟩
theorem UU:type_of% @Xa.eq_1:=λ_=>maa rfl rfl
def Oc(x:List (List Int)):D:=.sl 1 (x.map Xa)
instance:Enc (List (List Int)) Oc:=⟨Fr.s _⟩
theorem rM:type_of% @Oc.eq_1:=λ_=>maa rfl rfl
structure GLawError where
 Code:Int
 Section:Int
 Item:Int
 Element:Int
def Tx(x:GLawError):D:=.agg [.v (.int .i64 x.Code),.v (.int .i64 x.Section),.v (.int .i64 x.Item),.v (.int .i64 x.Element)]
instance:Enc GLawError Tx:=⟨Sv Tx.eq_1⟩
theorem TH:type_of% @Tx.eq_1:=λ_=>maa rfl rfl
def MI(x:List GType):D:=.sl 2 (x.map Xp)
instance:Enc (List GType) MI:=⟨Fr.s _⟩
theorem qM:type_of% @MI.eq_1:=λ_=>maa rfl rfl
structure GSignature where
 Enums:(List GEnum)
 Tables:(List GTable)
 Inputs:(List GType)
 Defs:(List GType)
 MemberDefs:(List GType)
 HasMembers:Bool
def yw(x:GSignature):D:=.agg [.sl 2 (x.Enums.map Rn),.sl 6 (x.Tables.map Zg),.sl 2 (x.Inputs.map Xp),.sl 2 (x.Defs.map Xp),.sl 2 (x.MemberDefs.map Xp),.v (.bool x.HasMembers)]
instance:Enc GSignature yw:=⟨Sv yw.eq_1⟩
theorem NF:type_of% @yw.eq_1:=λ_=>maa rfl rfl
def uD(x:List (List GNode)):D:=.sl 1 (x.map xC)
instance:Enc (List (List GNode)) uD:=⟨Fr.s _⟩
theorem VH:type_of% @uD.eq_1:=λ_=>maa rfl rfl
def fZ(x:Int):D:=.v (.int .u8 x)
instance:Fr fZ:=⟨Sv fZ.eq_1⟩
theorem e_u8_q:type_of% @fZ.eq_1:=λ_=>maa rfl rfl
def ti(x:Int):D:=.pt (ca x)
instance:Fr ti:=⟨λx=>Fr.h (e:=ca) x⟩
theorem SU:type_of% @ti.eq_1:=λ_=>maa rfl rfl
def Vq(x:GScope):D:=.pt (ee x)
instance:Fr Vq:=⟨λx=>Fr.h (e:=ee) x⟩
theorem lK:type_of% @Vq.eq_1:=λ_=>maa rfl rfl
def Ot(x:GRule):D:=.pt (Jf x)
instance:Fr Ot:=⟨λx=>Fr.h (e:=Jf) x⟩
theorem lM:type_of% @Ot.eq_1:=λ_=>maa rfl rfl
def Uq(x:GField):D:=.pt (Zd x)
instance:Fr Uq:=⟨λx=>Fr.h (e:=Zd) x⟩
theorem kK:type_of% @Uq.eq_1:=λ_=>maa rfl rfl
def Br(x:ByteArray):D:=.pt (Tw x)
instance:Fr Br:=⟨λx=>Fr.h (e:=Tw) x⟩
theorem TU:type_of% @Br.eq_1:=λ_=>maa rfl rfl
def Pv(x:GRow):D:=.pt (Wp x)
instance:Fr Pv:=⟨λx=>Fr.h (e:=Wp) x⟩
theorem FP:type_of% @Pv.eq_1:=λ_=>maa rfl rfl
structure GValue where
 Kind:Int
 Enum:Int
 N:Int
def Qa(x:GValue):D:=.agg [.v (.int .i64 x.Kind),.v (.int .i64 x.Enum),.v (.int .i64 x.N)]
instance:Enc GValue Qa:=⟨Sv Qa.eq_1⟩
theorem CP:type_of% @Qa.eq_1:=λ_=>maa rfl rfl
def cp(x:List GValue):D:=.sl 3 (x.map Qa)
instance:Enc (List GValue) cp:=⟨Fr.s _⟩
theorem rK:type_of% @cp.eq_1:=λ_=>maa rfl rfl
structure GCoverageHole where
 Outcome:Int
 RuleA:Int
 RuleB:Int
 Inputs:(List GValue)
def Di(x:GCoverageHole):D:=.agg [.v (.int .i64 x.Outcome),.v (.int .i64 x.RuleA),.v (.int .i64 x.RuleB),.sl 3 (x.Inputs.map Qa)]
instance:Enc GCoverageHole Di:=⟨Sv Di.eq_1⟩
theorem LA:type_of% @Di.eq_1:=λ_=>maa rfl rfl
def Pu(x:List GCoverageHole):D:=.sl 4 (x.map Di)
instance:Enc (List GCoverageHole) Pu:=⟨Fr.s _⟩
theorem mz:type_of% @Pu.eq_1:=λ_=>maa rfl rfl
def Ou(x:GCoverageHole):D:=.pt (Di x)
instance:Fr Ou:=⟨λx=>Fr.h (e:=Di) x⟩
theorem kz:type_of% @Ou.eq_1:=λ_=>maa rfl rfl
structure GRuletree_tree where
 parent:(List Int)
 priority:(List Int)
 outcome:(List Int)
def Rq(x:GRuletree_tree):D:=.agg [.sl 1 (x.parent.map ca),.sl 1 (x.priority.map ca),.sl 1 (x.outcome.map ca)]
instance:Enc GRuletree_tree Rq:=⟨Sv Rq.eq_1⟩
theorem Vz:type_of% @Rq.eq_1:=λ_=>maa rfl rfl
def PF(x:List Bool):D:=.sl 1 (x.map sa)
instance:Enc (List Bool) PF:=⟨Fr.s _⟩
theorem HP:type_of% @PF.eq_1:=λ_=>maa rfl rfl
def PA(x:List (List GValue)):D:=.sl 1 (x.map cp)
instance:Enc (List (List GValue)) PA:=⟨Fr.s _⟩
theorem QF:type_of% @PA.eq_1:=λ_=>maa rfl rfl
structure GEnv where
 Date:Int
 Inputs:(List GValue)
 Defs:(List GValue)
 Members:(List (List GValue))
 MemberTypes:(List GType)
 Tables:(List GTable)
def Sx(x:GEnv):D:=.agg [.v (.int .i64 x.Date),.sl 3 (x.Inputs.map Qa),.sl 3 (x.Defs.map Qa),.sl 1 (x.Members.map cp),.sl 2 (x.MemberTypes.map Xp),.sl 6 (x.Tables.map Zg)]
instance:Enc GEnv Sx:=⟨Sv Sx.eq_1⟩
theorem ZY:type_of% @Sx.eq_1:=λ_=>maa rfl rfl
structure GEval_evaluator where
 nodes:(List GNode)
 starts:(List Int)
 env:GEnv
def qa(x:GEval_evaluator):D:=.agg [.sl 2 (x.nodes.map Wi),.sl 1 (x.starts.map ca),.v (.int .i64 x.env.Date),.sl 3 (x.env.Inputs.map Qa),.sl 3 (x.env.Defs.map Qa),.sl 1 (x.env.Members.map cp),.sl 2 (x.env.MemberTypes.map Xp),.sl 6 (x.env.Tables.map Zg)]
instance:Enc GEval_evaluator qa:=⟨Sv qa.eq_1⟩
theorem jz:type_of% @qa.eq_1:=λ_=>maa rfl rfl
def vi(x:Int):D:=.v (.int .u64 x)
instance:Fr vi:=⟨Sv vi.eq_1⟩
theorem S8:type_of% @vi.eq_1:=λ_=>maa rfl rfl
structure GA3 where
 I0:Int
 I1:Int
 I2:Int
def YY(x:GA3):D:=.agg [.v (.int .i64 x.I0),.v (.int .i64 x.I1),.v (.int .i64 x.I2)]
instance:Enc GA3 YY:=⟨Sv YY.eq_1⟩
theorem P8:type_of% @YY.eq_1:=λ_=>maa rfl rfl
structure GDeadrules_tree where
 scope:GScope
 tables:(List GTable)
 date:Int
 rules:(List Int)
 parents:(List Int)
 priorities:(List Int)
def Vi(x:GDeadrules_tree):D:=.agg [.v (.string x.scope.Name),.v (.int .i64 x.scope.MemberScope),.sl 3 (x.scope.Inputs.map Zd),.sl 3 (x.scope.Defs.map Zd),.sl 9 (x.scope.Rules.map Jf),.sl 6 (x.tables.map Zg),.v (.int .i64 x.date),.sl 1 (x.rules.map ca),.sl 1 (x.parents.map ca),.sl 1 (x.priorities.map ca)]
instance:Enc GDeadrules_tree Vi:=⟨Sv Vi.eq_1⟩
theorem iz:type_of% @Vi.eq_1:=λ_=>maa rfl rfl
def Ct(x:GDeadrules_tree):D:=.pt (Vi x)
instance:Fr Ct:=⟨λx=>Fr.h (e:=Vi) x⟩
theorem kx:type_of% @Ct.eq_1:=λ_=>maa rfl rfl
structure GCase where
 Date:Int
 Inputs:(List GValue)
 Members:(List (List GValue))
def wE(x:GCase):D:=.agg [.v (.int .i64 x.Date),.sl 3 (x.Inputs.map Qa),.sl 1 (x.Members.map cp)]
instance:Enc GCase wE:=⟨Sv wE.eq_1⟩
theorem MU:type_of% @wE.eq_1:=λ_=>maa rfl rfl
structure GEvalError where
 Code:Int
 Member:Int
 Def:Int
 Rule:Int
def Vp(x:GEvalError):D:=.agg [.v (.int .i64 x.Code),.v (.int .i64 x.Member),.v (.int .i64 x.Def),.v (.int .i64 x.Rule)]
instance:Enc GEvalError Vp:=⟨Sv Vp.eq_1⟩
theorem JF:type_of% @Vp.eq_1:=λ_=>maa rfl rfl
structure GInterp_needs where
 scope:GScope
 memberScope:GScope
 defs:(List Bool)
 memberDefs:(List Bool)
def El(x:GInterp_needs):D:=.agg [.v (.string x.scope.Name),.v (.int .i64 x.scope.MemberScope),.sl 3 (x.scope.Inputs.map Zd),.sl 3 (x.scope.Defs.map Zd),.sl 9 (x.scope.Rules.map Jf),.v (.string x.memberScope.Name),.v (.int .i64 x.memberScope.MemberScope),.sl 3 (x.memberScope.Inputs.map Zd),.sl 3 (x.memberScope.Defs.map Zd),.sl 9 (x.memberScope.Rules.map Jf),.sl 1 (x.defs.map sa),.sl 1 (x.memberDefs.map sa)]
instance:Enc GInterp_needs El:=⟨Sv El.eq_1⟩
theorem MA:type_of% @El.eq_1:=λ_=>maa rfl rfl
structure GMemberResult where
 Values:(List GValue)
 Rules:(List Int)
def Fl(x:GMemberResult):D:=.agg [.sl 3 (x.Values.map Qa),.sl 1 (x.Rules.map ca)]
instance:Enc GMemberResult Fl:=⟨Sv Fl.eq_1⟩
theorem NA:type_of% @Fl.eq_1:=λ_=>maa rfl rfl
def Qu(x:List GMemberResult):D:=.sl 2 (x.map Fl)
instance:Enc (List GMemberResult) Qu:=⟨Fr.s _⟩
theorem nz:type_of% @Qu.eq_1:=λ_=>maa rfl rfl
structure GResult where
 Values:(List GValue)
 Rules:(List Int)
 Members:(List GMemberResult)
def Ny(x:GResult):D:=.agg [.sl 3 (x.Values.map Qa),.sl 1 (x.Rules.map ca),.sl 2 (x.Members.map Fl)]
instance:Enc GResult Ny:=⟨Sv Ny.eq_1⟩
theorem jM:type_of% @Ny.eq_1:=λ_=>maa rfl rfl
def Yp(x:GInterp_needs):D:=.pt (El x)
instance:Fr Yp:=⟨λx=>Fr.h (e:=El) x⟩
theorem lz:type_of% @Yp.eq_1:=λ_=>maa rfl rfl
def kM(x:GEnv):D:=.pt (Sx x)
instance:Fr kM:=⟨λx=>Fr.h (e:=Sx) x⟩
theorem EP:type_of% @kM.eq_1:=λ_=>maa rfl rfl
structure GA2 where
 I0:Int
 I1:Int
def XY(x:GA2):D:=.agg [.v (.int .i64 x.I0),.v (.int .i64 x.I1)]
instance:Enc GA2 XY:=⟨Sv XY.eq_1⟩
theorem O8:type_of% @XY.eq_1:=λ_=>maa rfl rfl
structure GCalendar where
 Weekend:Int
 Holidays:(List Int)
def Rx(x:GCalendar):D:=.agg [.v (.int .i64 x.Weekend),.sl 1 (x.Holidays.map ca)]
instance:Enc GCalendar Rx:=⟨Sv Rx.eq_1⟩
theorem SH:type_of% @Rx.eq_1:=λ_=>maa rfl rfl
structure GPayConfig where
 Def:Int
 Rounding:Int
 PayDay:Int
 RecoveryCap:Int
 RecoveryFloor:Int
 FirstMonth:Int
 AppealDays:Int
 Calendar:GCalendar
def jc(x:GPayConfig):D:=.agg [.v (.int .i64 x.Def),.v (.int .i64 x.Rounding),.v (.int .i64 x.PayDay),.v (.int .i64 x.RecoveryCap),.v (.int .i64 x.RecoveryFloor),.v (.int .i64 x.FirstMonth),.v (.int .i64 x.AppealDays),.v (.int .i64 x.Calendar.Weekend),.sl 1 (x.Calendar.Holidays.map ca)]
instance:Enc GPayConfig jc:=⟨Sv jc.eq_1⟩
theorem MF:type_of% @jc.eq_1:=λ_=>maa rfl rfl
structure GFact where
 Id:Int
 Member:Int
 Input:Int
 Value:GValue
 Valid:GDateRange
 Recorded:Int
def Hc(x:GFact):D:=.agg [.v (.int .i64 x.Id),.v (.int .i64 x.Member),.v (.int .i64 x.Input),.v (.int .i64 x.Value.Kind),.v (.int .i64 x.Value.Enum),.v (.int .i64 x.Value.N),.v (.int .i64 x.Valid.From),.v (.int .i64 x.Valid.To),.v (.int .i64 x.Recorded)]
instance:Enc GFact Hc:=⟨Sv Hc.eq_1⟩
theorem OU:type_of% @Hc.eq_1:=λ_=>maa rfl rfl
def Dh(x:List GFact):D:=.sl 9 (x.map Hc)
instance:Enc (List GFact) Dh:=⟨Fr.s _⟩
theorem nM:type_of% @Dh.eq_1:=λ_=>maa rfl rfl
structure GHousehold where
 Id:Int
 Scope:Int
 Members:Int
 Facts:(List GFact)
def Tn(x:GHousehold):D:=.agg [.v (.int .i64 x.Id),.v (.int .i64 x.Scope),.v (.int .i64 x.Members),.sl 9 (x.Facts.map Hc)]
instance:Enc GHousehold Tn:=⟨Sv Tn.eq_1⟩
theorem LF:type_of% @Tn.eq_1:=λ_=>maa rfl rfl
structure GAward where
 Month:Int
 Cents:Int
 Code:Int
def KA(x:GAward):D:=.agg [.v (.int .i64 x.Month),.v (.int .i64 x.Cents),.v (.int .i64 x.Code)]
instance:Enc GAward KA:=⟨Sv KA.eq_1⟩
theorem xP:type_of% @KA.eq_1:=λ_=>maa rfl rfl
def Ux(x:List GDateRange):D:=.sl 2 (x.map Ui)
instance:Enc (List GDateRange) Ux:=⟨Fr.s _⟩
theorem wC:type_of% @Ux.eq_1:=λ_=>maa rfl rfl
structure GGuerdonlaw36_Query where
 Month:Int
 Recorded:Int
 Day:Int
def Ul(x:GGuerdonlaw36_Query):D:=.agg [.v (.int .i64 x.Month),.v (.int .i64 x.Recorded),.v (.int .i64 x.Day)]
instance:Enc GGuerdonlaw36_Query Ul:=⟨Sv Ul.eq_1⟩
theorem Ov:type_of% @Ul.eq_1:=λ_=>maa rfl rfl
def Cc(x:List GAward):D:=.sl 3 (x.map KA)
instance:Enc (List GAward) Cc:=⟨Fr.s _⟩
theorem mK:type_of% @Cc.eq_1:=λ_=>maa rfl rfl
structure GPosting where
 Date:Int
 Month:Int
 Kind:Int
 Cents:Int
def Ha(x:GPosting):D:=.agg [.v (.int .i64 x.Date),.v (.int .i64 x.Month),.v (.int .i64 x.Kind),.v (.int .i64 x.Cents)]
instance:Enc GPosting Ha:=⟨Sv Ha.eq_1⟩
theorem iK:type_of% @Ha.eq_1:=λ_=>maa rfl rfl
def Aa(x:List GPosting):D:=.sl 4 (x.map Ha)
instance:Enc (List GPosting) Aa:=⟨Fr.s _⟩
theorem OF:type_of% @Aa.eq_1:=λ_=>maa rfl rfl
structure GAppeal where
 Id:Int
 From:Int
 To:Int
 Filed:Int
 Deadline:Int
 State:Int
 Cents:Int
def Wd(x:GAppeal):D:=.agg [.v (.int .i64 x.Id),.v (.int .i64 x.From),.v (.int .i64 x.To),.v (.int .i64 x.Filed),.v (.int .i64 x.Deadline),.v (.int .i64 x.State),.v (.int .i64 x.Cents)]
instance:Enc GAppeal Wd:=⟨Sv Wd.eq_1⟩
theorem iM:type_of% @Wd.eq_1:=λ_=>maa rfl rfl
def Fk(x:List GAppeal):D:=.sl 7 (x.map Wd)
instance:Enc (List GAppeal) Fk:=⟨Fr.s _⟩
theorem UH:type_of% @Fk.eq_1:=λ_=>maa rfl rfl
structure GAccount where
 Household:GHousehold
 Postings:(List GPosting)
 Appeals:(List GAppeal)
 Date:Int
 LastMonth:Int
def we(x:GAccount):D:=.agg [.v (.int .i64 x.Household.Id),.v (.int .i64 x.Household.Scope),.v (.int .i64 x.Household.Members),.sl 9 (x.Household.Facts.map Hc),.sl 4 (x.Postings.map Ha),.sl 7 (x.Appeals.map Wd),.v (.int .i64 x.Date),.v (.int .i64 x.LastMonth)]
instance:Enc GAccount we:=⟨Sv we.eq_1⟩
theorem gK:type_of% @we.eq_1:=λ_=>maa rfl rfl
structure GMonthBalance where
 Month:Int
 Due:Int
 Received:Int
 Waived:Int
def eb(x:GMonthBalance):D:=.agg [.v (.int .i64 x.Month),.v (.int .i64 x.Due),.v (.int .i64 x.Received),.v (.int .i64 x.Waived)]
instance:Enc GMonthBalance eb:=⟨Sv eb.eq_1⟩
theorem OA:type_of% @eb.eq_1:=λ_=>maa rfl rfl
def Ya(x:List GMonthBalance):D:=.sl 4 (x.map eb)
instance:Enc (List GMonthBalance) Ya:=⟨Fr.s _⟩
theorem oz:type_of% @Ya.eq_1:=λ_=>maa rfl rfl
structure GEvent where
 Kind:Int
 Date:Int
 Month:Int
 ToMonth:Int
 Notice:Int
 Appeal:Int
 State:Int
 Cents:Int
 Fact:GFact
def Vm(x:GEvent):D:=.agg [.v (.int .i64 x.Kind),.v (.int .i64 x.Date),.v (.int .i64 x.Month),.v (.int .i64 x.ToMonth),.v (.int .i64 x.Notice),.v (.int .i64 x.Appeal),.v (.int .i64 x.State),.v (.int .i64 x.Cents),.v (.int .i64 x.Fact.Id),.v (.int .i64 x.Fact.Member),.v (.int .i64 x.Fact.Input),.v (.int .i64 x.Fact.Value.Kind),.v (.int .i64 x.Fact.Value.Enum),.v (.int .i64 x.Fact.Value.N),.v (.int .i64 x.Fact.Valid.From),.v (.int .i64 x.Fact.Valid.To),.v (.int .i64 x.Fact.Recorded)]
instance:Enc GEvent Vm:=⟨Sv Vm.eq_1⟩
theorem yP:type_of% @Vm.eq_1:=λ_=>maa rfl rfl
def Tq(x:GEvent):D:=.pt (Vm x)
instance:Fr Tq:=⟨λx=>Fr.h (e:=Vm) x⟩
theorem jK:type_of% @Tq.eq_1:=λ_=>maa rfl rfl
def Yt(x:List GEvent):D:=.sl 17 (x.map Vm)
instance:Enc (List GEvent) Yt:=⟨Fr.s _⟩
theorem nK:type_of% @Yt.eq_1:=λ_=>maa rfl rfl
def ze:=(And.intro (And.intro (And.intro (And.intro (And.intro (And.intro (And.intro @R8 @VU) (And.intro @NU @mM)) (And.intro (And.intro @Q8 @RU) (And.intro @IF @cZ))) (And.intro (And.intro (And.intro @GP @BP) (And.intro @qK @zP)) (And.intro (And.intro @oK @PU) (And.intro @oM @QU)))) (And.intro (And.intro (And.intro (And.intro @pM @AP) (And.intro @pK @aZ)) (And.intro (And.intro @dZ @UU) (And.intro @rM @TH))) (And.intro (And.intro (And.intro @qM @NF) (And.intro @VH @e_u8_q)) (And.intro (And.intro @SU @lK) (And.intro @lM @kK))))) (And.intro (And.intro (And.intro (And.intro (And.intro @TU @FP) (And.intro @CP @rK)) (And.intro (And.intro @LA @mz) (And.intro @kz @Vz))) (And.intro (And.intro (And.intro @HP @QF) (And.intro @ZY @jz)) (And.intro (And.intro @S8 @P8) (And.intro @iz @kx)))) (And.intro (And.intro (And.intro (And.intro @MU @JF) (And.intro @MA @NA)) (And.intro (And.intro @nz @jM) (And.intro @lz @EP))) (And.intro (And.intro (And.intro @O8 @SH) (And.intro @MF @OU)) (And.intro (And.intro @nM @LF) (And.intro @xP @wC)))))) (And.intro (And.intro (And.intro (And.intro @Ov @mK) (And.intro @iK @OF)) (And.intro (And.intro @iM @UH) (And.intro @gK @OA))) (And.intro (And.intro @oz @yP) (And.intro @jK @nK))))
theorem zz:type_of% (And.intro @zx @ze):=And.intro @zx @ze
theorem zg:type_of% (And.intro @zq @ze):=And.intro @zq @ze
theorem tz{N:Nat}{s S:St}(ρ:Mp) (h:Nz (Sq ρ s.m 9) s.t S.t/\cC ρ s.m ρ S.m:=by first|(simp only[zg];done)|(simp only[zg, *];done)) (hk:Ww ρ N=true:=by rfl) (a:(ρ.filterMap (·.1)).Nodup:=by decide):Tells N s S:=Tells.q ρ hk a h
theorem ez{rs:List RV}{o:D}{s:St}(h:wM (yb s rs) s.m o:=by simp only[zz,zr];exact fq (by first|(simp only[zg];done)|(simp only[zg, *];done)|(simp only[zg, *,List.drop_zero,Nat.zero_add,List.length_map];done))):Bv rs o .ret s:=er h
noncomputable section
def oi(t0:GScope):Int->Option (Ex Int Unit Bool):=λa=>if a<(t0.Inputs.length:Int)then (idx t0.Inputs a).bind λb=>if 80<(b.Name.size:Int)then some (Ex.ret false)else some (Ex.go (aa .i64 (a+1)))else some (Ex.brk ())
def ki(t0:GScope):Int->Option (Ex Int Unit Bool):=λa=>if a<(t0.Defs.length:Int)then (idx t0.Defs a).bind λb=>if 80<(b.Name.size:Int)then some (Ex.ret false)else some (Ex.go (aa .i64 (a+1)))else some (Ex.brk ())
def ji(t0:GScope):Int->Option (Ex Int Unit Bool):=λb=>if b<(t0.Rules.length:Int)then (idx t0.Rules b).bind λa=>laa (α:=Bool) (if¬80<(a.Name.size:Int)then if¬80<(a.Source.size:Int)then if¬50<(a.Guard.length:Int)then some (decide (50<(a.Value.length:Int)))else some true else some true else some true) λc=>if c=true then some (Ex.ret false)else some (Ex.go (aa .i64 (b+1)))else some (Ex.brk ())
def Wg(t0:GScope):Option Bool:=laa (α:=Bool) (if¬80<(t0.Name.size:Int)then if¬14<(t0.Inputs.length:Int)then if¬14<(t0.Defs.length:Int)then some (decide (60<(t0.Rules.length:Int)))else some true else some true else some true) λa=>if a=true then some false else(ea (oi t0) 0).bind λy=>match y with |.inr v=>some v |.inl _=>(ea (ki t0) 0).bind λy=>match y with |.inr v=>some v |.inl _=>(ea (ji t0) 0).bind λy=>match y with |.inr v=>some v |.inl _=>some true
def Ih(t0:GLaw) (d:Int):Int->Option (Ex Int Unit (Ex Int Unit Bool)):=λa=>(idx t0.Enums d).bind λb=>if a<(b.Members.length:Int)then (idx b.Members a).bind λc=>if 80<(c.size:Int)then some (Ex.ret (Ex.ret false))else some (Ex.go (aa .i64 (a+1)))else some (Ex.brk ())
def sj(t0:GLaw):Int->Option (Ex Int Unit Bool):=λa=>if a<(t0.Enums.length:Int)then laa (α:=Bool) ((idx t0.Enums a).bind λb=>if¬80<(b.Name.size:Int)then some (decide (20<(b.Members.length:Int)))else some true) λc=>if c=true then some (Ex.ret false)else(ea (Ih t0 a) 0).bind λy=>match y with |.inr v=>some v |.inl _=>some (Ex.go (aa .i64 (a+1)))else some (Ex.brk ())
def rj(t0:GLaw):(Int×Int)->Option (Ex (Int×Int) Unit Bool):=λ(c,a)=>if a<(t0.Tables.length:Int)then (idx t0.Tables a).bind λb=>laa (α:=Bool) (if¬80<(b.Name.size:Int)then some (decide (150<(aa .i64 (c+(b.Rows.length:Int)))))else some true) λd=>if d=true then some (Ex.ret false)else some (Ex.go ((aa .i64 (c+(b.Rows.length:Int))),(aa .i64 (a+1))))else some (Ex.brk ())
def qj(t0:GLaw):(Int×Int)->Option (Ex (Int×Int) Unit Bool):=λ(c,a)=>if a<(t0.Scopes.length:Int)then (idx t0.Scopes a).bind λb=>laa (α:=Bool) (if¬60<(aa .i64 (c+(b.Rules.length:Int)))then (Wg b).bind λe=>some (!e)else some true) λd=>if d=true then some (Ex.ret false)else some (Ex.go ((aa .i64 (c+(b.Rules.length:Int))),(aa .i64 (a+1))))else some (Ex.brk ())
def Dj(t0:GLaw):Option Bool:=laa (α:=Bool) (if¬9<(t0.Enums.length:Int)then if¬9<(t0.Tables.length:Int)then some (decide (5<(t0.Scopes.length:Int)))else some true else some true) λa=>if a=true then some false else(ea (sj t0) 0).bind λy=>match y with |.inr v=>some v |.inl _=>(ea (rj t0) (0,0)).bind λy=>match y with |.inr v=>some v |.inl _=>(ea (qj t0) (0,0)).bind λy=>match y with |.inr v=>some v |.inl _=>some true
def Jo(t0:Int):Option Bool:=laa (α:=Bool) (if 97<=t0 then some (decide (t0<=122))else some false) λa=>some a
def Er(t0:Int):Option Bool:=laa (α:=Bool) (if 48<=t0 then some (decide (t0<=57))else some false) λa=>some a
def Ld(t0:ByteArray):Int->Option (Ex Int Int Unit):=λs1=>laa (α:=Bool) (if s1<(t0.size:Int)then (Nw t0 s1).bind λa=>(Jo a).bind λc=>if c=false then(Er a).bind λd=>if d=false then some (a==95)else some true else some true else some false) λb=>if b=true then some (Ex.go (aa .i64 (s1+1)))else some (Ex.brk s1)
def qk(t0:ByteArray):Option Int:=(ea (Ld t0) 0).bind λy=>match y with |.inr _=>none |.inl a=>some a
def di(t0:ByteArray):Option Bool:=laa (α:=Bool) (if t0=(yaa #[105,102])then some true else if t0=(yaa #[116,104,101,110])then some true else if t0=(yaa #[101,108,115,101])then some true else if t0=(yaa #[111,114])then some true else if t0=(yaa #[97,110,100])then some true else if t0=(yaa #[110,111,116])then some true else if t0=(yaa #[116,114,117,101])then some true else if t0=(yaa #[102,97,108,115,101])then some true else if t0=(yaa #[116,111,100,97,121])then some true else if t0=(yaa #[115,104,97,114,101])then some true else if t0=(yaa #[100,105,118])then some true else if t0=(yaa #[114,111,117,110,100])then some true else if t0=(yaa #[109,105,110])then some true else if t0=(yaa #[109,97,120])then some true else if t0=(yaa #[112,108,117,115])then some true else if t0=(yaa #[109,111,110,116,104,115])then some true else if t0=(yaa #[100,97,121,115])then some true else if t0=(yaa #[121,101,97,114,115])then some true else if t0=(yaa #[121,101,97,114])then some true else if t0=(yaa #[109,111,110,116,104])then some true else if t0=(yaa #[116,97,98])then some true else if t0=(yaa #[98,97,110,100])then some true else if t0=(yaa #[99,111,117,110,116])then some true else if t0=(yaa #[115,117,109])then some true else if t0=(yaa #[97,108,108])then some true else if t0=(yaa #[97,110,121])then some true else if t0=(yaa #[109,111,115,116])then some true else if t0=(yaa #[101,110,117,109])then some true else if t0=(yaa #[116,97,98,108,101])then some true else if t0=(yaa #[114,111,119])then some true else if t0=(yaa #[115,99,111,112,101])then some true else if t0=(yaa #[109,101,109,98,101,114,115])then some true else if t0=(yaa #[105,110,112,117,116])then some true else if t0=(yaa #[100,101,102])then some true else if t0=(yaa #[114,117,108,101])then some true else if t0=(yaa #[111,102])then some true else if t0=(yaa #[111,118,101,114])then some true else if t0=(yaa #[112,114,105,111])then some true else if t0=(yaa #[102,114,111,109])then some true else if t0=(yaa #[116,111])then some true else if t0=(yaa #[101,110,100])then some true else if t0=(yaa #[119,104,101,110])then some true else if t0=(yaa #[105,115])then some true else if t0=(yaa #[115,114,99])then some true else if t0=(yaa #[98,111,111,108])then some true else if t0=(yaa #[105,110,116])then some true else if t0=(yaa #[109,111,110,101,121])then some true else if t0=(yaa #[114,97,116,101])then some true else if t0=(yaa #[100,97,116,101])then some true else if t0=(yaa #[100,111,119,110])then some true else if t0=(yaa #[117,112])then some true else if t0=(yaa #[122,101,114,111])then some true else if t0=(yaa #[97,119,97,121])then some true else if t0=(yaa #[104,97,108,102])then some true else some (decide (t0=(yaa #[101,118,101,110])))) λa=>if a=true then some true else some false
def Gb(t0:ByteArray):Option Bool:=laa (α:=Bool) (if¬t0=(yaa #[])then (Nw t0 0).bind λb=>(Jo b).bind λc=>if c=true then(qk t0).bind λd=>if d=(t0.size:Int)then if(t0.size:Int)<=16 then(di t0).bind λe=>some (!e)else some false else some false else some false else some false) λa=>some a
def ld(t0:List GEnum) (t1:(GEnum->Option Bool)):Int->Option (Ex Int Unit Int):=λs1=>if s1<(t0.length:Int)then (idx t0 s1).bind λa=>(t1 a).bind λb=>if b=true then some (Ex.ret s1)else some (Ex.go (aa .i64 (s1+1)))else some (Ex.brk ())
def mc(t0:List GEnum) (t1:(GEnum->Option Bool)):Option Int:=(ea (ld t0 t1) 0).bind λy=>match y with |.inr v=>some v |.inl _=>some (-1)
def bb(t0:List GEnum) (t1:(GEnum->Option Bool)):Option Bool:=(mc t0 t1).bind λa=>some (decide (0<=a))
def Bg(t0:GEnum) (t1:ByteArray):Option Bool:=some (decide (t0.Name=t1))
def ln(t0:List GEnum) (t1:ByteArray):Option Bool:=(bb t0 (λa=>Bg a t1)).bind λb=>some b
def Sd(t0:List ByteArray) (t1:ByteArray):Int->Option (Ex Int Unit Int):=λs1=>if s1<(t0.length:Int)then (idx t0 s1).bind λa=>if t1=a then some (Ex.ret s1)else some (Ex.go (aa .i64 (s1+1)))else some (Ex.brk ())
def qi(t0:List ByteArray) (t1:ByteArray):Option Int:=(ea (Sd t0 t1) 0).bind λy=>match y with |.inr v=>some v |.inl _=>some (-1)
def Qd(t0:List ByteArray) (t1:ByteArray):Option Bool:=(qi t0 t1).bind λa=>some (decide (0<=a))
def lk(t2:GEnum):Int->Option (Ex Int Unit (Int×Int)):=λa=>if a<(t2.Members.length:Int)then (idx t2.Members a).bind λb=>(Gb b).bind λc=>if c=false then some (Ex.ret (2,(aa .i64 (100+a))))else(Fq t2.Members a).bind λd=>(Qd d b).bind λe=>if e=true then some (Ex.ret (7,(aa .i64 (100+a))))else some (Ex.go (aa .i64 (a+1)))else some (Ex.brk ())
def Fo(t0:GLaw) (t1:Int) (t2:GEnum):Option (Int×Int):=(Gb t2.Name).bind λa=>if a=false then some (2,0)else(Fq t0.Enums t1).bind λb=>(ln b t2.Name).bind λc=>if c=true then some (7,0)else if(t2.Members.length:Int)=0 then some (5,0)else if 16<(t2.Members.length:Int)then some (4,116)else(ea (lk t2) 0).bind λy=>match y with |.inr v=>some v |.inl _=>some (0,0)
def bj(t0:GLaw):Int->Option (Ex Int Unit GLawError):=λs2=>if s2<(t0.Enums.length:Int)then (idx t0.Enums s2).bind λb=>(Fo t0 s2 b).bind λa=>if¬a.1=0 then some (Ex.ret (GLawError.mk a.1 1 s2 a.2))else some (Ex.go (aa .i64 (s2+1)))else some (Ex.brk ())
def iq(t0:GLaw):Option GLawError:=if 8<(t0.Enums.length:Int)then some (GLawError.mk 4 1 8 0)else(ea (bj t0) 0).bind λy=>match y with |.inr v=>some v |.inl _=>some (GLawError.mk 0 0 0 0)
def vc(t0:GType) (t1:List GEnum):Option Bool:=laa (α:=Bool) (if t0.Kind=1 then some true else if t0.Kind=2 then some true else if t0.Kind=3 then some true else if t0.Kind=4 then some true else some (t0.Kind==5)) λa=>if a=true then some (t0.Enum==0)else if t0.Kind=6 then laa (α:=Bool) (if 0<=t0.Enum then some (decide (t0.Enum<(t1.length:Int)))else some false) λb=>some b else some false
def pd(t0:GType) (t1:List GEnum):Option (Int×Int):=(vc t0 t1).bind λa=>if a=false then some (0,(-1))else if t0.Kind=1 then some (0,1)else if t0.Kind=2 then some ((-1000000000000),1000000000000)else if t0.Kind=3 then some ((-1000000000000000),1000000000000000)else if t0.Kind=4 then some ((-1000000000),1000000000)else if t0.Kind=5 then some (0,109572)else(idx t1 t0.Enum).bind λb=>some (0,(aa .i64 ((b.Members.length:Int)-1)))
def Wc(t0:GDateRange):Option Bool:=laa (α:=Bool) (if 0<=t0.From then if t0.From<=t0.To then some (decide (t0.To<=109573))else some false else some false) λa=>some a
def Eb(t0:List GRow) (t1:(GRow->Option Bool)):Int->Option (Ex Int Unit (Int×Bool)):=λs1=>if s1<(t0.length:Int)then (idx t0 s1).bind λa=>(t1 a).bind λb=>if b=true then some (Ex.ret (s1,true))else some (Ex.go (aa .i64 (s1+1)))else some (Ex.brk ())
def Nb(t0:List GRow) (t1:(GRow->Option Bool)):Option (Int×Bool):=(ea (Eb t0 t1) 0).bind λy=>match y with |.inr v=>some v |.inl _=>some (0,false)
def Gc(t0:GDateRange):Option Bool:=laa (α:=Bool) ((Wc t0).bind λb=>if b=true then some (decide (t0.From<t0.To))else some false) λa=>some a
def Hj(t0:GDateRange) (t1:GDateRange):Option (GDateRange×Bool):=laa (α:=Bool) ((Gc t0).bind λb=>if b=true then(Gc t1).bind λc=>some (!c)else some true) λa=>if a=true then some ((GDateRange.mk 0 0),false)else if(min t0.To t1.To)<=(max t0.From t1.From)then some ((GDateRange.mk 0 0),false)else some ((GDateRange.mk (max t0.From t1.From) (min t0.To t1.To)),true)
def An(t0:GRow) (t1:GRow):Option Bool:=(Hj t0.Valid t1.Valid).bind λb=>laa (α:=Bool) (if b.2=true then some (decide ((max t0.Lo t1.Lo)<(min t0.Hi t1.Hi)))else some false) λa=>some a
def Td(t0:GRow) (t1:GRow):Option Bool:=(An t0 t1).bind λa=>some a
def vj(t0:GTable) (d:(Int×Int)) (k:(Int×Int)):Int->Option (Ex Int Unit (Int×Int)):=λb=>if b<(t0.Rows.length:Int)then (idx t0.Rows b).bind λa=>laa (α:=Bool) ((Wc a.Valid).bind λh=>if h=true then if¬a.Valid.From=a.Valid.To then some (decide (a.Hi<=a.Lo))else some true else some true) λe=>if e=true then some (Ex.ret (b,3))else laa (α:=Bool) (if¬a.Lo<d.1 then if¬d.2<a.Lo then if¬(aa .i64 (a.Hi-1))<d.1 then some (decide (d.2<(aa .i64 (a.Hi-1))))else some true else some true else some true) λf=>if f=true then some (Ex.ret (b,3))else laa (α:=Bool) (if¬a.N<k.1 then some (decide (k.2<a.N))else some true) λg=>if g=true then some (Ex.ret (b,3))else(Fq t0.Rows b).bind λi=>(Nb i (λc=>Td c a)).bind λj=>if j.2=true then some (Ex.ret (b,11))else some (Ex.go (aa .i64 (b+1)))else some (Ex.brk ())
def yn(t0:GTable) (t1:List GEnum):Option (Int×Int):=if 64<(t0.Rows.length:Int)then some (64,4)else laa (α:=Bool) ((vc t0.Key t1).bind λb=>if b=true then(vc t0.Value t1).bind λc=>some (!c)else some true) λa=>if a=true then some ((-1),8)else(pd t0.Key t1).bind λd=>(pd t0.Value t1).bind λe=>(ea (vj t0 d e) 0).bind λy=>match y with |.inr v=>some v |.inl _=>some (0,0)
def Mc(t0:List GTable) (t1:(GTable->Option Bool)):Int->Option (Ex Int Unit Int):=λs1=>if s1<(t0.length:Int)then (idx t0 s1).bind λa=>(t1 a).bind λb=>if b=true then some (Ex.ret s1)else some (Ex.go (aa .i64 (s1+1)))else some (Ex.brk ())
def Mb(t0:List GTable) (t1:(GTable->Option Bool)):Option Int:=(ea (Mc t0 t1) 0).bind λy=>match y with |.inr v=>some v |.inl _=>some (-1)
def Ua(t0:List GTable) (t1:(GTable->Option Bool)):Option Bool:=(Mb t0 t1).bind λa=>some (decide (0<=a))
def Ff(t0:GTable) (t1:ByteArray):Option Bool:=some (decide (t0.Name=t1))
def bo(t0:List GTable) (t1:ByteArray):Option Bool:=(Ua t0 (λa=>Ff a t1)).bind λb=>some b
def Xh(t0:GLaw):Int->Option (Ex Int Unit GLawError):=λs2=>if s2<(t0.Tables.length:Int)then (idx t0.Tables s2).bind λc=>(yn c t0.Enums).bind λb=>laa (α:=(Int×Int)) ((Gb c.Name).bind λh=>if h=false then some (2,0)else laa (α:=Bool) ((ln t0.Enums c.Name).bind λi=>if i=false then(Fq t0.Tables s2).bind λf=>(bo f c.Name).bind λg=>some g else some true) λd=>if d=true then some (7,0)else if¬b.2=0 then if¬b.1=(-1)then some (b.2,(aa .i64 (100+b.1)))else some (b.2,0)else some (0,0)) λ(a,e)=>if¬a=0 then some (Ex.ret (GLawError.mk a 2 s2 e))else some (Ex.go (aa .i64 (s2+1)))else some (Ex.brk ())
def Wo(t0:GLaw):Option GLawError:=if 8<(t0.Tables.length:Int)then some (GLawError.mk 4 2 8 0)else(ea (Xh t0) 0).bind λy=>match y with |.inr v=>some v |.inl _=>some (GLawError.mk 0 0 0 0)
def kj(t0:List GField):((List GType)×Int)->Option (Ex ((List GType)×Int) (List GType) Unit):=λ(s1,s2)=>if s2<(t0.length:Int)then (idx t0 s2).bind λa=>(app 16 s1 ([a.Type_])).bind λb=>some (Ex.go (b,(aa .i64 (s2+1))))else some (Ex.brk s1)
def Yh(t0:List GField):Option (List GType):=(ea (kj t0) (([]:List GType),0)).bind λy=>match y with |.inr _=>none |.inl a=>some a
def gh(t0:GLaw) (t1:Int):Option GSignature:=(idx t0.Scopes t1).bind λa=>(Yh a.Inputs).bind λe=>(Yh a.Defs).bind λf=>laa (α:=((List GType)×Bool)) (laa (α:=Bool) (if 0<=a.MemberScope then some (decide (a.MemberScope<(t0.Scopes.length:Int)))else some false) λc=>if c=true then(idx t0.Scopes a.MemberScope).bind λg=>(Yh g.Defs).bind λh=>some (h,true)else some (([]:List GType),false)) λ(d,b)=>some (GSignature.mk t0.Enums t0.Tables e f d b)
def Ti(t0:List (List Int)) (t1:Int):Option (List Int):=if t0.length<=1048576/\(∀l∈t0,l.length<=1048576/\∀e∈l,0<=e/\e<t0.length)/\0<=t1/\t1<t0.length then some (PG t0 t1)else none
def Ja(t0:List Int):Option (List Int):=if t0.length<=8796093022208 then some (t0.mergeSort λx y=>decide (x<=y))else none
def Ca(t0:List Int):Option (List Int):=if t0.length<=8796093022208 then some (Go.Lib.compact t0)else none
def Bj(t0:List Int):Option (List Int):=(Ja t0).bind λa=>(Ca a).bind λb=>some b
def Th(t0:List GNode):((List Int)×(List Int)×(List Int)×Int)->Option (Ex ((List Int)×(List Int)×(List Int)×Int) ((List Int)×(List Int)×(List Int)) Unit):=λ(s1,s2,b,g)=>if g<(t0.length:Int)then laa (α:=((List Int)×(List Int)×(List Int))) ((idx t0 g).bind λa=>if a.Op=7 then(app 8 s1 ([a.N])).bind λj=>some (j,s2,b)else if a.Op=8 then(app 8 s2 ([a.N])).bind λh=>some (s1,h,b)else laa (α:=Bool) (if a.Op=36 then some true else if a.Op=37 then some true else if a.Op=38 then some true else some (a.Op==39)) λc=>if c=true then(app 8 b ([a.N])).bind λi=>some (s1,s2,i)else some (s1,s2,b)) λ(d,e,f)=>some (Ex.go (d,e,f,(aa .i64 (g+1))))else some (Ex.brk (s1,s2,b))
def Ef(t0:List GNode):Option ((List Int)×(List Int)×(List Int)):=(ea (Th t0) (([]:List Int),([]:List Int),([]:List Int),0)).bind λy=>match y with |.inr _=>none |.inl (a,b,c)=>(Bj a).bind λd=>(Bj b).bind λe=>(Bj c).bind λf=>some (d,e,f)
def Of(t1:Int) (f:((List Int)×(List Int)×(List Int))):((List Int)×Int)->Option (Ex ((List Int)×Int) (List Int) Unit):=λ(b,c)=>if c<(f.2.1.length:Int)then laa (α:=(List Int)) ((idx f.2.1 c).bind λe=>laa (α:=Bool) (if 0<=e then some (decide (e<t1))else some false) λg=>if g=true then(app 8 b ([e])).bind λd=>some d else some b) λa=>some (Ex.go (a,(aa .i64 (c+1))))else some (Ex.brk b)
def Nf(t1:Int) (g:((List Int)×(List Int)×(List Int))):((List Int)×Int)->Option (Ex ((List Int)×Int) (List Int) Unit):=λ(a,b)=>if b<(g.2.1.length:Int)then laa (α:=(List Int)) ((idx g.2.1 b).bind λc=>laa (α:=Bool) (if 0<=c then some (decide (c<t1))else some false) λd=>if d=true then(app 8 a ([c])).bind λf=>some f else some a) λe=>some (Ex.go (e,(aa .i64 (b+1))))else some (Ex.brk a)
def ue(t0:GRule) (t1:Int):Option (List Int):=(Ef t0.Guard).bind λc=>(Ef t0.Value).bind λd=>(ea (Of t1 c) (([]:List Int),0)).bind λy=>match y with |.inr _=>none |.inl a=>(ea (Nf t1 d) (a,0)).bind λy=>match y with |.inr _=>none |.inl b=>some b
def Qh(t0:List Int):Option (List Int):=(Ja t0).bind λa=>(Ca a).bind λb=>some b
def tc(t0:GScope):Option (List (List Int)):=if t0.Defs.length<=1048576/\t0.Rules.length<=1048576/\(∀r∈t0.Rules,r.Guard.length<=1048576/\r.Value.length<=1048576)then ((xaa t0.Defs.length).mapM λ(d:Nat)=>((t0.Rules.filter λ(r:GRule)=>r.Def==(d:Int)).mapM λr=>ue r t0.Defs.length).bind λls=>some (wg ls.flatten))else none
def Xc(t0:GScope) (t1:Int):Option (List Int):=laa (α:=Bool) (if¬t1<0 then some (decide ((t0.Defs.length:Int)<=t1))else some true) λa=>if a=true then some ([])else(tc t0).bind λb=>(Ti b t1).bind λc=>some c
def Lc(t0:List GScope) (t1:(GScope->Option Bool)):Int->Option (Ex Int Unit Int):=λs1=>if s1<(t0.length:Int)then (idx t0 s1).bind λa=>(t1 a).bind λb=>if b=true then some (Ex.ret s1)else some (Ex.go (aa .i64 (s1+1)))else some (Ex.brk ())
def Lb(t0:List GScope) (t1:(GScope->Option Bool)):Option Int:=(ea (Lc t0 t1) 0).bind λy=>match y with |.inr v=>some v |.inl _=>some (-1)
def Ta(t0:List GScope) (t1:(GScope->Option Bool)):Option Bool:=(Lb t0 t1).bind λa=>some (decide (0<=a))
def Nd(t0:GScope) (t1:GScope):Option Bool:=some (decide (t0.Name=t1.Name))
def Ic(t0:GField) (t1:GField):Option Bool:=some (decide (t0.Name=t1.Name))
def Kc(t0:List GField) (t1:(GField->Option Bool)):Int->Option (Ex Int Unit Int):=λs1=>if s1<(t0.length:Int)then (idx t0 s1).bind λa=>(t1 a).bind λb=>if b=true then some (Ex.ret s1)else some (Ex.go (aa .i64 (s1+1)))else some (Ex.brk ())
def Kb(t0:List GField) (t1:(GField->Option Bool)):Option Int:=(ea (Kc t0 t1) 0).bind λy=>match y with |.inr v=>some v |.inl _=>some (-1)
def Ga(t0:List GField) (t1:(GField->Option Bool)):Option Bool:=(Kb t0 t1).bind λa=>some (decide (0<=a))
def nk(t0:GLaw) (t1:GField) (t2:List GField) (c:List GField):Option Int:=(Gb t1.Name).bind λd=>if d=false then some 2 else laa (α:=Bool) ((Ga t2 (λa=>Ic a t1)).bind λe=>if e=false then(Ga c (λa=>Ic a t1)).bind λf=>some f else some true) λb=>if b=true then some 7 else(vc t1.Type_ t0.Enums).bind λg=>if g=false then some 8 else some 0
def od(t0:List GRule) (t1:(GRule->Option Bool)):Int->Option (Ex Int Unit Int):=λs1=>if s1<(t0.length:Int)then (idx t0 s1).bind λa=>(t1 a).bind λb=>if b=true then some (Ex.ret s1)else some (Ex.go (aa .i64 (s1+1)))else some (Ex.brk ())
def nc(t0:List GRule) (t1:(GRule->Option Bool)):Option Int:=(ea (od t0 t1) 0).bind λy=>match y with |.inr v=>some v |.inl _=>some (-1)
def db(t0:List GRule) (t1:(GRule->Option Bool)):Option Bool:=(nc t0 t1).bind λa=>some (decide (0<=a))
def Pe(t0:GRule) (t1:GRule):Option Bool:=some (decide (t0.Name=t1.Name))
def strings_Contains(t0:ByteArray) (t1:ByteArray):Option Bool:=if t1.size=1 then some (t0.data.toList.contains (t1.data.toList.headD 0))else none
def Zh(t0:ByteArray):Int->Option (Ex Int Unit Bool):=λa=>if a<(t0.size:Int)then laa (α:=Bool) ((Nw t0 a).bind λb=>if¬b<32 then some (decide (126<b))else some true) λc=>if c=true then some (Ex.ret false)else some (Ex.go (aa .i64 (a+1)))else some (Ex.brk ())
def Jl(t0:ByteArray):Option Bool:=laa (α:=Bool) (if¬64<(t0.size:Int)then (strings_Contains t0 (yaa #[34])).bind λb=>some b else some true) λa=>if a=true then some false else(ea (Zh t0) 0).bind λy=>match y with |.inr v=>some v |.inl _=>some true
def Aj(t0:Int):Option Int:=laa (α:=Bool) (if t0=1 then some true else if t0=2 then some true else if t0=3 then some true else if t0=4 then some true else if t0=5 then some true else if t0=6 then some true else if t0=7 then some true else if t0=8 then some true else if t0=9 then some true else if t0=35 then some true else if t0=36 then some true else if t0=37 then some true else if t0=38 then some true else some (t0==39)) λa=>if a=true then some 0 else laa (α:=Bool) (if t0=10 then some true else if t0=25 then some true else if t0=31 then some true else if t0=32 then some true else if t0=33 then some true else some (t0==34)) λb=>if b=true then some 1 else laa (α:=Bool) (if t0=11 then some true else if t0=12 then some true else if t0=13 then some true else if t0=14 then some true else if t0=15 then some true else if t0=16 then some true else if t0=17 then some true else if t0=18 then some true else if t0=19 then some true else if t0=20 then some true else if t0=21 then some true else if t0=22 then some true else if t0=23 then some true else if t0=24 then some true else if t0=27 then some true else if t0=28 then some true else if t0=29 then some true else some (t0==30)) λc=>if c=true then some 2 else if t0=26 then some 3 else some (-1)
def Zi(t0:List GNode):((List Int)×(List Int)×Int)->Option (Ex ((List Int)×(List Int)×Int) ((List Int)×(List Int)) ((List Int)×Int×Int)):=λ(g,c,a)=>if a<(t0.length:Int)then (idx t0 a).bind λl=>(Aj l.Op).bind λf=>if f<0 then some (Ex.ret ([],a,2))else if(c.length:Int)<f then some (Ex.ret ([],a,5))else(idx g a).bind λx12=>(put g a a).bind λb=>laa (α:=(List Int)) (if 0<f then(idx c (aa .i64 ((c.length:Int)-f))).bind λh=>(idx b a).bind λx16=>(put b a h).bind λi=>some i else some b) λd=>(Fq c (aa .i64 ((c.length:Int)-f))).bind λj=>(idx d a).bind λk=>(app 8 j ([k])).bind λe=>if 12<(e.length:Int)then some (Ex.ret ([],a,16))else some (Ex.go (d,e,(aa .i64 (a+1))))else some (Ex.brk (g,c))
def Zj(t0:List GNode):Option ((List Int)×Int×Int):=if 48<(t0.length:Int)then some ([],0,4)else if(t0.length:Int)=0 then some ([],0,5)else(py 8 0 (t0.length:Int) (t0.length:Int)).bind λc=>(ea (Zi t0) (c,([]:List Int),0)).bind λy=>match y with |.inr v=>some v |.inl (a,b)=>if 1<(b.length:Int)then some ([],(t0.length:Int),4)else some (a,0,0)
def Xm(t0:Int):Option Bool:=laa (α:=Bool) (if t0=1 then some true else if t0=2 then some true else if t0=3 then some true else if t0=4 then some true else if t0=5 then some true else if t0=6 then some true else if t0=7 then some true else if t0=8 then some true else if t0=14 then some true else if t0=15 then some true else if t0=16 then some true else if t0=33 then some true else if t0=34 then some true else if t0=36 then some true else if t0=37 then some true else if t0=38 then some true else some (t0==39)) λa=>if a=true then some true else some false
def Ge(t0:Int) (t1:Int) (t2:GSignature):Option (GType×Int):=(pd (GType.mk t1 0) t2.Enums).bind λa=>laa (α:=Bool) (if¬t0<a.1 then some (decide (a.2<t0))else some true) λb=>if b=true then some ((GType.mk 0 0),3)else some ((GType.mk t1 0),0)
def Cr(t0:Int) (t1:GSignature):Option (GType×Int):=if t0<0 then some ((GType.mk 0 0),3)else laa (α:=Bool) (if¬(t1.Enums.length:Int)<=(aa .i64 (Zaa t0 16))then (idx t1.Enums (aa .i64 (Zaa t0 16))).bind λb=>some (decide ((b.Members.length:Int)<=(Dab t0 16)))else some true) λa=>if a=true then some ((GType.mk 0 0),6)else some ((GType.mk 6 (aa .i64 (Zaa t0 16))),0)
def me(t0:Int) (t1:List GType) (t2:GSignature):Option (GType×Int):=laa (α:=Bool) (if¬t0<0 then some (decide ((t1.length:Int)<=t0))else some true) λb=>if b=true then some ((GType.mk 0 0),6)else(idx t1 t0).bind λa=>(vc a t2.Enums).bind λc=>if c=false then some ((GType.mk 0 0),8)else some (a,0)
def ck(t0:Int):Option Bool:=laa (α:=Bool) (if 0<=t0 then some (decide (t0<=5))else some false) λa=>some a
def Ym(t0:GNode) (t1:GType) (t2:GSignature):Option (GType×Int):=laa (α:=(Int⊕(GType×Int))) (if t0.Op=34 then laa (α:=Bool) (if¬t0.N<0 then(ck (Dab t0.N 8)).bind λi=>some (!i)else some true) λg=>if g=true then some (Sum.inr ((GType.mk 0 0),3))else some (Sum.inl (aa .i64 (Zaa t0.N 8)))else some (Sum.inl t0.N)) λz=>match z with |.inr v=>some v |.inl d=>laa (α:=Bool) (if¬d<0 then some (decide ((t2.Tables.length:Int)<=d))else some true) λh=>if h=true then some ((GType.mk 0 0),6)else(idx t2.Tables d).bind λa=>laa (α:=Bool) ((vc a.Key t2.Enums).bind λe=>if e=true then(vc a.Value t2.Enums).bind λf=>if f=true then some (!((t1.Kind==a.Key.Kind)&&(t1.Enum==a.Key.Enum)))else some true else some true) λb=>if b=true then some ((GType.mk 0 0),8)else if t0.Op=34 then laa (α:=Bool) (if a.Key.Kind=3 then some (a.Value.Kind !=4)else some true) λc=>if c=true then some ((GType.mk 0 0),8)else some (a.Key,0)else some (a.Value,0)
def ig(t0:Int):Option Bool:=laa (α:=Bool) (if¬t0=2 then if¬t0=3 then some (t0==4)else some true else some true) λa=>some a
def Fi(t0:GNode) (t1:GSignature):Option (GType×Int):=if t1.HasMembers=false then some ((GType.mk 0 0),6)else if t0.Op=35 then some ((GType.mk 2 0),0)else(me t0.N t1.MemberDefs t1).bind λa=>if¬a.2=0 then some ((GType.mk 0 0),a.2)else laa (α:=Bool) (if t0.Op=36 then if¬a.1.Kind=2 then some (a.1.Kind==3)else some true else laa (α:=Bool) (if t0.Op=37 then some true else some (t0.Op==38)) λd=>if d=true then some (a.1.Kind==1)else if t0.Op=39 then(ig a.1.Kind).bind λc=>if c=false then some (a.1.Kind==5)else some true else some false) λb=>if b=false then some ((GType.mk 0 0),8)else some (a.1,0)
def Yn(t0:Int) (t1:Int) (t2:Int):Option (GType×Bool):=if t0=14 then laa (α:=Bool) (if t2=4 then if¬t1=3 then some (t1==4)else some true else some false) λb=>some ((GType.mk t1 0),b)else if t2=2 then laa (α:=Bool) (if¬t1=2 then some (t1==3)else some true) λc=>some ((GType.mk t1 0),c)else laa (α:=Bool) (if t0=15 then if t1=3 then some (t2==3)else some false else some false) λa=>if a=true then some ((GType.mk 4 0),true)else some ((GType.mk 0 0),false)
def Ab(t0:Int) (t1:List GType):Option (GType×Bool):=if t0=10 then(idx t1 0).bind λx2=>(ig x2.Kind).bind λx3=>some (x2,x3)else if t0=25 then(idx t1 0).bind λx5=>some ((GType.mk 1 0),(x5.Kind==1))else laa (α:=Bool) (if t0=11 then some true else some (t0==12)) λj7=>if j7=true then laa (α:=(Int×Int×Bool)) ((idx t1 0).bind λf=>(idx t1 1).bind λg=>if f.Kind=g.Kind/\f.Enum=g.Enum then(ig f.Kind).bind λN=>some (f.Kind,f.Enum,N)else some (f.Kind,f.Enum,false)) λ(n,o,p)=>some ((GType.mk n o),p)else laa (α:=Bool) (if t0=13 then some true else if t0=14 then some true else some (t0==15)) λq=>if q=true then(idx t1 0).bind λO=>(idx t1 1).bind λP=>(Yn t0 O.Kind P.Kind).bind λh=>some (h.1,h.2)else if t0=16 then laa (α:=(Int×Int×Bool)) ((idx t1 0).bind λc=>if c.Kind=3 then(idx t1 1).bind λQ=>some (c.Kind,c.Enum,(Q.Kind==3))else some (c.Kind,c.Enum,false)) λ(r,s,t)=>some ((GType.mk r s),t)else laa (α:=Bool) (if t0=17 then some true else some (t0==18)) λu=>if u=true then laa (α:=(Int×Int×Bool)) ((idx t1 0).bind λa=>(idx t1 1).bind λi=>if a.Kind=i.Kind/\a.Enum=i.Enum then(ig a.Kind).bind λR=>if R=false then some (a.Kind,a.Enum,(a.Kind==5))else some (a.Kind,a.Enum,true)else some (a.Kind,a.Enum,false)) λ(v,w,x)=>some ((GType.mk v w),x)else laa (α:=Bool) (if t0=19 then some true else some (t0==20)) λy=>if y=true then(idx t1 0).bind λj=>(idx t1 1).bind λk=>some ((GType.mk 1 0),((j.Kind==k.Kind)&&(j.Enum==k.Enum)))else laa (α:=Bool) (if t0=21 then some true else some (t0==22)) λz=>if z=true then laa (α:=Bool) ((idx t1 0).bind λe=>(idx t1 1).bind λl=>if e.Kind=l.Kind/\e.Enum=l.Enum then(ig e.Kind).bind λS=>if S=false then some (e.Kind==5)else some true else some false) λA=>some ((GType.mk 1 0),A)else laa (α:=Bool) (if t0=23 then some true else some (t0==24)) λB=>if B=true then laa (α:=Bool) ((idx t1 0).bind λT=>if T.Kind=1 then(idx t1 1).bind λU=>some (U.Kind==1)else some false) λC=>some ((GType.mk 1 0),C)else if t0=26 then laa (α:=(Int×Int×Bool)) ((idx t1 1).bind λb=>(idx t1 0).bind λV=>if V.Kind=1 then(idx t1 2).bind λm=>some (b.Kind,b.Enum,((b.Kind==m.Kind)&&(b.Enum==m.Enum)))else some (b.Kind,b.Enum,false)) λ(D,E,F)=>some ((GType.mk D E),F)else laa (α:=Bool) (if t0=27 then some true else some (t0==28)) λG=>if G=true then laa (α:=(Int×Int×Bool)) ((idx t1 0).bind λd=>if d.Kind=5 then(idx t1 1).bind λW=>some (d.Kind,d.Enum,(W.Kind==2))else some (d.Kind,d.Enum,false)) λ(H,I,J)=>some ((GType.mk H I),J)else laa (α:=Bool) (if t0=29 then some true else some (t0==30)) λK=>if K=true then laa (α:=Bool) ((idx t1 0).bind λX=>if X.Kind=5 then(idx t1 1).bind λY=>some (Y.Kind==5)else some false) λL=>some ((GType.mk 2 0),L)else laa (α:=Bool) (if t0=31 then some true else some (t0==32)) λM=>if M=true then(idx t1 0).bind λZ=>some ((GType.mk 2 0),(Z.Kind==5))else some ((GType.mk 0 0),false)
def Ka(t0:GNode) (t1:List GType) (t2:GSignature):Option (GType×Int):=laa (α:=(Unit⊕(GType×Int))) (if t0.Op=1 then(Ge t0.N 1 t2).bind λm=>some (Sum.inr (m.1,m.2))else if t0.Op=2 then(Ge t0.N 2 t2).bind λn=>some (Sum.inr (n.1,n.2))else if t0.Op=3 then(Ge t0.N 3 t2).bind λo=>some (Sum.inr (o.1,o.2))else if t0.Op=4 then(Ge t0.N 4 t2).bind λp=>some (Sum.inr (p.1,p.2))else if t0.Op=5 then(Ge t0.N 5 t2).bind λa=>some (Sum.inr (a.1,a.2))else if t0.Op=6 then(Cr t0.N t2).bind λb=>some (Sum.inr (b.1,b.2))else if t0.Op=7 then(me t0.N t2.Inputs t2).bind λc=>some (Sum.inr (c.1,c.2))else if t0.Op=8 then(me t0.N t2.Defs t2).bind λd=>some (Sum.inr (d.1,d.2))else if t0.Op=9 then some (Sum.inr ((GType.mk 5 0),0))else laa (α:=Bool) (if t0.Op=33 then some true else some (t0.Op==34)) λh=>if h=true then(idx t1 0).bind λk=>(Ym t0 k t2).bind λe=>some (Sum.inr (e.1,e.2))else laa (α:=Bool) (if t0.Op=35 then some true else if t0.Op=36 then some true else if t0.Op=37 then some true else if t0.Op=38 then some true else some (t0.Op==39)) λi=>if i=true then(Fi t0 t2).bind λf=>some (Sum.inr (f.1,f.2))else laa (α:=Bool) (if t0.Op=14 then some true else if t0.Op=15 then some true else some (t0.Op==16)) λj=>if j=true then(ck t0.N).bind λl=>if l=false then some (Sum.inr ((GType.mk 0 0),3))else some (Sum.inl ())else some (Sum.inl ())) λz=>match z with |.inr v=>some v |.inl _=>(Ab t0.Op t1).bind λg=>if g.2=false then some ((GType.mk 0 0),8)else some (g.1,0)
def Wm(t0:List GNode) (t1:GSignature):((List GType)×Int)->Option (Ex ((List GType)×Int) (List GType) (GType×Int×Int)):=λ(b,c)=>if c<(t0.length:Int)then (idx t0 c).bind λe=>laa (α:=Bool) (if¬e.N=0 then(Xm e.Op).bind λj=>some (!j)else some false) λi=>if i=true then some (Ex.ret ((GType.mk 0 0),c,2))else(Aj e.Op).bind λd=>(oA b (aa .i64 ((b.length:Int)-d))).bind λf=>(Ka e f t1).bind λa=>if¬a.2=0 then some (Ex.ret ((GType.mk 0 0),c,a.2))else(Fq b (aa .i64 ((b.length:Int)-d))).bind λg=>(app 16 g ([a.1])).bind λh=>some (Ex.go (h,(aa .i64 (c+1))))else some (Ex.brk b)
def Yr(t0:List GNode) (t1:GSignature):Option (GType×Int×Int):=(Zj t0).bind λb=>if¬b.2.2=0 then some ((GType.mk 0 0),b.2.1,b.2.2)else(ea (Wm t0 t1) (([]:List GType),0)).bind λy=>match y with |.inr v=>some v |.inl a=>(idx a 0).bind λc=>some (c,0,0)
def Rl(t0:List GNode) (t1:GSignature) (t2:GType):Option Int:=(Yr t0 t1).bind λa=>if¬a.2.2=0 then some a.2.2 else if¬(a.1.Kind=t2.Kind/\a.1.Enum=t2.Enum)then some 8 else some 0
def pk(e:GRule) (c:List GRule):(Int×Int)->Option (Ex (Int×Int) Int Unit):=λ(a,b)=>if b<(c.length:Int)then laa (α:=Int) ((idx c b).bind λf=>if f.Def=e.Def then some (aa .i64 (a+1))else some a) λd=>some (Ex.go (d,(aa .i64 (b+1))))else some (Ex.brk a)
def Ho(t0:GScope) (t1:Int) (t2:GSignature):Option Int:=(idx t0.Rules t1).bind λa=>(Fq t0.Rules t1).bind λp=>(ea (pk a p) (0,0)).bind λy=>match y with |.inr _=>none |.inl d=>(Gb a.Name).bind λi=>if i=false then some 2 else(Fq t0.Rules t1).bind λj=>(db j (λc=>Pe c a)).bind λk=>if k=true then some 7 else laa (α:=Bool) (if¬a.Def<0 then some (decide ((t0.Defs.length:Int)<=a.Def))else some true) λe=>if e=true then some 6 else laa (α:=Bool) (if¬a.Parent=(-1)then if¬a.Parent<0 then if¬t1<=a.Parent then(idx t0.Rules a.Parent).bind λl=>some (l.Def !=a.Def)else some true else some true else some false) λf=>if f=true then some 9 else laa (α:=Bool) (if¬a.Priority<0 then some (decide (9<a.Priority))else some true) λg=>if g=true then some 3 else laa (α:=Bool) (if¬a.Valid.From<0 then if¬a.Valid.To<=a.Valid.From then some (decide (109573<a.Valid.To))else some true else some true) λh=>if h=true then some 3 else if 8<=d then some 4 else(Jl a.Source).bind λm=>if m=false then some 2 else laa (α:=(Unit⊕Int)) (if 0<(a.Guard.length:Int)then (Rl a.Guard t2 (GType.mk 1 0)).bind λb=>if¬b=0 then some (Sum.inr b)else some (Sum.inl ())else some (Sum.inl ())) λz=>match z with |.inr v=>some v |.inl _=>(idx t0.Defs a.Def).bind λn=>(Rl a.Value t2 n.Type_).bind λo=>some o
def Ng(t0:List Int) (t1:Int):Int->Option (Ex Int Unit Int):=λs1=>if s1<(t0.length:Int)then (idx t0 s1).bind λa=>if t1=a then some (Ex.ret s1)else some (Ex.go (aa .i64 (s1+1)))else some (Ex.brk ())
def sn(t0:List Int) (t1:Int):Option Int:=(ea (Ng t0 t1) 0).bind λy=>match y with |.inr v=>some v |.inl _=>some (-1)
def Te(t0:List Int) (t1:Int):Option Bool:=(sn t0 t1).bind λa=>some (decide (0<=a))
def ij(t0:GLaw) (c:GScope):Int->Option (Ex Int Unit (Int×Int)):=λa=>if a<(c.Inputs.length:Int)then (idx c.Inputs a).bind λd=>(Fq c.Inputs a).bind λe=>(nk t0 d e ([])).bind λb=>if¬b=0 then some (Ex.ret (b,(aa .i64 (100+a))))else some (Ex.go (aa .i64 (a+1)))else some (Ex.brk ())
def fj(t0:GLaw) (c:GScope):Int->Option (Ex Int Unit (Int×Int)):=λa=>if a<(c.Defs.length:Int)then (idx c.Defs a).bind λd=>(Fq c.Defs a).bind λe=>(nk t0 d c.Inputs e).bind λb=>if¬b=0 then some (Ex.ret (b,(aa .i64 (200+a))))else some (Ex.go (aa .i64 (a+1)))else some (Ex.brk ())
def dj(d:GScope) (c:GSignature):Int->Option (Ex Int Unit (Int×Int)):=λa=>if a<(d.Rules.length:Int)then (Ho d a c).bind λb=>if¬b=0 then some (Ex.ret (b,(aa .i64 (300+a))))else some (Ex.go (aa .i64 (a+1)))else some (Ex.brk ())
def cj(d:GScope):Int->Option (Ex Int Unit (Int×Int)):=λa=>if a<(d.Defs.length:Int)then (Xc d a).bind λb=>(Te b a).bind λc=>if c=true then some (Ex.ret (9,(aa .i64 (200+a))))else some (Ex.go (aa .i64 (a+1)))else some (Ex.brk ())
def kn(t0:GLaw) (t1:Int):Option (Int×Int):=(idx t0.Scopes t1).bind λa=>(Fq t0.Scopes t1).bind λf=>laa (α:=Bool) ((ln t0.Enums a.Name).bind λh=>if h=false then(bo t0.Tables a.Name).bind λi=>if i=false then(Ta f (λb=>Nd b a)).bind λj=>some j else some true else some true) λg=>(Gb a.Name).bind λk=>if k=false then some (2,0)else if g=true then some (7,0)else laa (α:=Bool) (if¬a.MemberScope=(-1)then if¬a.MemberScope<0 then if¬t1<=a.MemberScope then(idx f a.MemberScope).bind λd=>some (d.MemberScope !=(-1))else some true else some true else some false) λc=>if c=true then some (6,0)else if 12<(a.Inputs.length:Int)then some (4,112)else if 12<(a.Defs.length:Int)then some (4,212)else(ea (ij t0 a) 0).bind λy=>match y with |.inr v=>some v |.inl _=>(ea (fj t0 a) 0).bind λy=>match y with |.inr v=>some v |.inl _=>(gh t0 t1).bind λe=>(ea (dj a e) 0).bind λy=>match y with |.inr v=>some v |.inl _=>(ea (cj a) 0).bind λy=>match y with |.inr v=>some v |.inl _=>some (0,0)
def Vh(t0:GLaw):Int->Option (Ex Int Unit GLawError):=λs2=>if s2<(t0.Scopes.length:Int)then (kn t0 s2).bind λa=>if¬a.1=0 then some (Ex.ret (GLawError.mk a.1 3 s2 a.2))else some (Ex.go (aa .i64 (s2+1)))else some (Ex.brk ())
def Vo(t0:GLaw):Option GLawError:=if 4<(t0.Scopes.length:Int)then some (GLawError.mk 4 3 4 0)else(ea (Vh t0) 0).bind λy=>match y with |.inr v=>some v |.inl _=>some (GLawError.mk 0 0 0 0)
def ql(t0:GLaw):Option GLawError:=(iq t0).bind λa=>if¬a.Code=0 then some a else(Wo t0).bind λb=>if¬b.Code=0 then some b else(Vo t0).bind λc=>some c
def Ze(t0:List GRule) (t1:(GRule->Option Bool)):((List Int)×(List Int)×(List Int)×Int)->Option (Ex ((List Int)×(List Int)×(List Int)×Int) ((List Int)×(List Int)) Unit):=λ(s2,h,i,a)=>if a<(t0.length:Int)then laa (α:=((List Int)×(List Int)×(List Int))) ((idx t0 a).bind λd=>laa (α:=Int) (laa (α:=Bool) (if 0<=d.Parent then some (decide (d.Parent<a))else some false) λo=>if o=true then(idx i d.Parent).bind λj=>some j else some (-1)) λc=>(idx i a).bind λx13=>(put i a c).bind λb=>(t1 d).bind λk=>if k=true then(idx b a).bind λx17=>(put b a (s2.length:Int)).bind λl=>(app 8 s2 ([a])).bind λm=>(app 8 h ([c])).bind λn=>some (m,n,l)else some (s2,h,b)) λ(e,f,g)=>some (Ex.go (e,f,g,(aa .i64 (a+1))))else some (Ex.brk (s2,h))
def xf(t0:List GRule) (t1:(GRule->Option Bool)):Option ((List Int)×(List Int)):=(py 8 0 (t0.length:Int) (t0.length:Int)).bind λc=>(ea (Ze t0 t1) (([]:List Int),([]:List Int),c,0)).bind λy=>match y with |.inr _=>none |.inl (a,b)=>some (a,b)
def fc(t0:GDateRange) (t1:Int):Option Bool:=laa (α:=Bool) ((Wc t0).bind λb=>if b=true then if t0.From<=t1 then some (decide (t1<t0.To))else some false else some false) λa=>some a
def Xr(t0:List GNode):Option ((List Int)×Int):=(Zj t0).bind λa=>some (a.1,a.2.2)
def vf(t0:GRule) (t1:Int) (t2:Int):Option Bool:=laa (α:=Bool) (if t0.Def=t1 then(fc t0.Valid t2).bind λb=>some b else some false) λa=>some a
def ah(t0:GScope) (b:((List Int)×(List Int))):((List Int)×Int)->Option (Ex ((List Int)×Int) (List Int) Unit):=λ(s2,a)=>if a<(b.1.length:Int)then (idx b.1 a).bind λc=>(idx t0.Rules c).bind λd=>(app 8 s2 ([d.Priority])).bind λe=>some (Ex.go (e,(aa .i64 (a+1))))else some (Ex.brk s2)
def Xj(t0:GScope) (t1:Int) (t2:Int):Option ((List Int)×(List Int)×(List Int)):=(xf t0.Rules (λa=>vf a t1 t2)).bind λc=>(ea (ah t0 c) (([]:List Int),0)).bind λy=>match y with |.inr _=>none |.inl b=>some (c.1,c.2,b)
def Rh(t0:GEval_evaluator):((List Int)×Int×Int)->Option (Ex ((List Int)×Int×Int) (List Int) Unit):=λ(b,d,a)=>if 0<=a then(idx b a).bind λx8=>(put b a d).bind λe=>(idx t0.starts d).bind λc=>some (Ex.go (e,(aa .i64 (c-1)),(aa .i64 (a-1))))else some (Ex.brk b)
def Fe(t0:GEval_evaluator) (t1:Int):Option (List Int):=(idx t0.nodes t1).bind λd=>(Aj d.Op).bind λb=>(py 8 0 b b).bind λc=>(ea (Rh t0) (c,(aa .i64 (t1-1)),(aa .i64 ((c.length:Int)-1)))).bind λy=>match y with |.inr _=>none |.inl a=>some a
def Hl(t0:GNode):Option Bool:=laa (α:=Bool) ((Aj t0.Op).bind λe=>if¬e<0 then if¬t0.N=0 then(Xm t0.Op).bind λf=>some (!f)else some false else some true) λc=>if c=true then some false else laa (α:=Bool) (if t0.Op=14 then some true else if t0.Op=15 then some true else some (t0.Op==16)) λd=>if d=true then laa (α:=Bool) (if 0<=t0.N then some (decide (t0.N<=5))else some false) λa=>some a else if t0.Op=34 then laa (α:=Bool) (if 0<=t0.N then some (decide ((Dab t0.N 8)<=5))else some false) λb=>some b else if t0.Op=6 then some (decide (0<=t0.N))else some true
def Wr(t0:GNode) (t1:GEnv):Option Bool:=if t0.Op=7 then laa (α:=Bool) (if 0<=t0.N then some (decide (t0.N<(t1.Inputs.length:Int)))else some false) λd=>some d else if t0.Op=8 then laa (α:=Bool) (if 0<=t0.N then if t0.N<(t1.Defs.length:Int)then (idx t1.Defs t0.N).bind λf=>some (f.Kind !=0)else some false else some false) λe=>some e else if t0.Op=33 then laa (α:=Bool) (if 0<=t0.N then some (decide (t0.N<(t1.Tables.length:Int)))else some false) λa=>some a else if t0.Op=34 then some (decide ((aa .i64 (Zaa t0.N 8))<(t1.Tables.length:Int)))else laa (α:=Bool) (if t0.Op=36 then some true else if t0.Op=37 then some true else if t0.Op=38 then some true else some (t0.Op==39)) λb=>if b=true then laa (α:=Bool) (if 0<=t0.N then some (decide (t0.N<(t1.MemberTypes.length:Int)))else some false) λc=>some c else some true
def Ob(t0:GValue):Option Bool:=laa (α:=Bool) (if¬t0.Kind=6 then some (t0.Enum !=0)else some false) λe=>if e=true then some false else if t0.Kind=1 then laa (α:=Bool) (if¬t0.N=0 then some (t0.N==1)else some true) λf=>some f else if t0.Kind=2 then laa (α:=Bool) (if(-1000000000000)<=t0.N then some (decide (t0.N<=1000000000000))else some false) λg=>some g else if t0.Kind=3 then laa (α:=Bool) (if(-1000000000000000)<=t0.N then some (decide (t0.N<=1000000000000000))else some false) λa=>some a else if t0.Kind=4 then laa (α:=Bool) (if(-1000000000)<=t0.N then some (decide (t0.N<=1000000000))else some false) λb=>some b else if t0.Kind=5 then laa (α:=Bool) (if 0<=t0.N then some (decide (t0.N<=109572))else some false) λc=>some c else if t0.Kind=6 then laa (α:=Bool) (if 0<=t0.Enum then if t0.Enum<8 then if 0<=t0.N then some (decide (t0.N<16))else some false else some false else some false) λd=>some d else some false
def xg(t0:List GValue):Int->Option (Ex Int Unit Bool):=λs1=>if s1<(t0.length:Int)then (idx t0 s1).bind λa=>(Ob a).bind λb=>if b=false then some (Ex.ret false)else some (Ex.go (aa .i64 (s1+1)))else some (Ex.brk ())
def Xi(t0:List GValue):Option Bool:=(ea (xg t0) 0).bind λy=>match y with |.inr v=>some v |.inl _=>some true
def Vn(t0:GValue) (t1:GType):Option Bool:=laa (α:=Bool) ((Ob t0).bind λb=>if b=true then if t0.Kind=t1.Kind then some (t0.Enum==t1.Enum)else some false else some false) λa=>some a
def vh(t0:Int):Option Bool:=laa (α:=Bool) (if¬t0=2 then if¬t0=3 then some (t0==4)else some true else some true) λa=>some a
def Yf(t0:Int) (t1:GType):Option Bool:=if¬t1.Enum=0 then some false else if t0=36 then laa (α:=Bool) (if¬t1.Kind=2 then some (t1.Kind==3)else some true) λa=>some a else if t0=39 then laa (α:=Bool) ((vh t1.Kind).bind λc=>if c=false then some (t1.Kind==5)else some true) λb=>some b else some (t1.Kind==1)
def Sb(t0:Int) (t1:Int):Option Bool:=if t0=10 then(vh t1).bind λa=>some a else if t0=25 then some (t1==1)else some (t1==5)
def Ve(t0:GValue) (t1:GValue):Option Bool:=laa (α:=Bool) (if t0.Kind=t1.Kind then some (t0.Enum==t1.Enum)else some false) λa=>some a
def Oa(t0:Int) (t1:GValue) (t2:GValue):Option Bool:=laa (α:=Bool) (if t0=11 then some true else some (t0==12)) λq=>if q=true then laa (α:=Bool) ((Ve t1 t2).bind λs=>if s=true then(vh t1.Kind).bind λt=>some t else some false) λr=>some r else if t0=13 then laa (α:=Bool) (if t2.Kind=2 then if¬t1.Kind=2 then some (t1.Kind==3)else some true else some false) λa=>some a else if t0=14 then laa (α:=Bool) (if t2.Kind=4 then if¬t1.Kind=3 then some (t1.Kind==4)else some true else some false) λb=>some b else if t0=15 then if t2.Kind=2 then laa (α:=Bool) (if¬t1.Kind=2 then some (t1.Kind==3)else some true) λc=>some c else laa (α:=Bool) (if t1.Kind=3 then some (t2.Kind==3)else some false) λd=>some d else if t0=16 then laa (α:=Bool) (if t1.Kind=3 then some (t2.Kind==3)else some false) λe=>some e else laa (α:=Bool) (if t0=17 then some true else if t0=18 then some true else if t0=21 then some true else some (t0==22)) λf=>if f=true then laa (α:=Bool) ((Ve t1 t2).bind λn=>if n=true then(vh t1.Kind).bind λo=>if o=false then some (t1.Kind==5)else some true else some false) λg=>some g else laa (α:=Bool) (if t0=19 then some true else some (t0==20)) λh=>if h=true then(Ve t1 t2).bind λp=>some p else laa (α:=Bool) (if t0=23 then some true else some (t0==24)) λi=>if i=true then laa (α:=Bool) (if t1.Kind=1 then some (t2.Kind==1)else some false) λj=>some j else laa (α:=Bool) (if t0=27 then some true else some (t0==28)) λk=>if k=true then laa (α:=Bool) (if t1.Kind=5 then some (t2.Kind==2)else some false) λl=>some l else laa (α:=Bool) (if t1.Kind=5 then some (t2.Kind==5)else some false) λm=>some m
def oa(t0:GNode) (t1:List GValue) (t2:GEnv):Option Bool:=if t0.Op=7 then(idx t2.Inputs t0.N).bind λt=>(Ob t).bind λu=>some u else if t0.Op=8 then(idx t2.Defs t0.N).bind λv=>(Ob v).bind λw=>some w else if t0.Op=33 then(idx t2.Tables t0.N).bind λs=>laa (α:=Bool) ((idx t1 0).bind λx=>(Vn x s.Key).bind λf=>if f=true then if 1<=s.Value.Kind then some (decide (s.Value.Kind<=6))else some false else some false) λb=>some b else if t0.Op=34 then(idx t2.Tables (aa .i64 (Zaa t0.N 8))).bind λa=>laa (α:=Bool) ((idx t1 0).bind λg=>if g.Kind=3 then if a.Key.Kind=3/\a.Key.Enum=0 then some ((a.Value.Kind==4)&&(a.Value.Enum==0))else some false else some false) λc=>some c else laa (α:=Bool) (if t0.Op=36 then some true else if t0.Op=37 then some true else if t0.Op=38 then some true else some (t0.Op==39)) λd=>if d=true then(idx t2.MemberTypes t0.N).bind λh=>(Yf t0.Op h).bind λi=>some i else if(t1.length:Int)=1 then(idx t1 0).bind λj=>(Sb t0.Op j.Kind).bind λk=>some k else if(t1.length:Int)=2 then(idx t1 0).bind λl=>(idx t1 1).bind λm=>(Oa t0.Op l m).bind λn=>some n else if(t1.length:Int)=3 then laa (α:=Bool) ((idx t1 0).bind λo=>if o.Kind=1 then(idx t1 1).bind λp=>(idx t1 2).bind λq=>(Ve p q).bind λr=>some r else some false) λe=>some e else some true
def Lj(t0:GNode) (t1:GEnv) (o:GType):(Int×Int×Int×Int)->Option (Ex (Int×Int×Int×Int) (Int×Int×Int) (GValue×Int)):=λ(d,e,c,b)=>if b<(t1.Members.length:Int)then laa (α:=((Int×Int×Int)⊕(Ex (Int×Int×Int×Int) (Int×Int×Int) (GValue×Int)))) ((idx t1.Members b).bind λf=>laa (α:=Bool) (if¬(f.length:Int)<=t0.N then(idx f t0.N).bind λl=>some (l.Kind==0)else some true) λg=>if g=true then some (Sum.inr (Ex.ret ((GValue.mk 0 0 0),6)))else(idx f t0.N).bind λa=>(Vn a o).bind λm=>if m=false then some (Sum.inr (Ex.ret ((GValue.mk 0 0 0),8)))else if t0.Op=36 then(Ob (GValue.mk d e (aa .i64 (c+a.N)))).bind λn=>if n=false then some (Sum.inr (Ex.ret ((GValue.mk 0 0 0),3)))else some (Sum.inl (d,e,(aa .i64 (c+a.N))))else if t0.Op=37 then some (Sum.inl (d,e,(min c a.N)))else if t0.Op=38 then some (Sum.inl (d,e,(max c a.N)))else if t0.Op=39 then laa (α:=Bool) (if¬b=0 then some (decide (c<a.N))else some true) λh=>if h=true then some (Sum.inl (a.Kind,a.Enum,a.N))else some (Sum.inl (d,e,c))else some (Sum.inl (d,e,c))) λz=>match z with |.inr v=>some v |.inl (i,j,k)=>some (Ex.go (i,j,k,(aa .i64 (b+1))))else some (Ex.brk (d,e,c))
def Eh(t0:GNode) (t1:GEnv):Option (GValue×Int):=(idx t1.MemberTypes t0.N).bind λd=>laa (α:=Int) (if t0.Op=37 then some 1 else some 0) λe=>laa (α:=Bool) (if t0.Op=39 then some ((t1.Members.length:Int)==0)else some false) λf=>if f=true then some ((GValue.mk 0 0 0),6)else(ea (Lj t0 t1 d) (d.Kind,d.Enum,e,0)).bind λy=>match y with |.inr v=>some v |.inl (a,b,c)=>some ((GValue.mk a b c),0)
def Hf(t0:GRow) (t1:Int) (t2:Int):Option Bool:=laa (α:=Bool) ((fc t0.Valid t1).bind λb=>if b=true then if t0.Lo<=t2 then some (decide (t2<t0.Hi))else some false else some false) λa=>some a
def yq(t0:GTable) (t1:Int) (t2:Int):Option (Int×Bool):=(Nb t0.Rows (λa=>Hf a t1 t2)).bind λb=>some (b.1,b.2)
def pe(t0 t1:Int):Option (Int×Int):=if 0<=t0/\t0<18446744073709551616/\0<=t1/\t1<18446744073709551616 then some (t0*t1 / 18446744073709551616,t0*t1 % 18446744073709551616)else none
def Gf(t0 t1 t2:Int):Option (Int×Int):=if 0<=t0/\t0<t2/\0<=t1/\t1<18446744073709551616/\t2<18446744073709551616 then some ((t0*18446744073709551616+t1) / t2,(t0*18446744073709551616+t1) % t2)else none
def si(t0:Int) (t1:Int):Option (Int×Int×Bool):=laa (α:=Int) (if t1<0 then some (aa .u64 (-(aa .u64 t1)))else some (aa .u64 t1)) λc=>(pe (aa .u64 t0) c).bind λb=>if 1000000<=b.1 then some (0,0,false)else(Gf b.1 b.2 1000000).bind λa=>if 1000000000000000<a.1 then some (0,0,false)else if t1<0 then some ((aa .i64 (-(aa .i64 a.1))),(aa .i64 (-(aa .i64 a.2))),true)else some ((aa .i64 a.1),(aa .i64 a.2),true)
def Vg(t0:Int):Option Bool:=laa (α:=Bool) (if 0<=t0 then some (decide (t0<=5))else some false) λa=>some a
def lf(t0:Int) (t1:Int):Option Bool:=laa (α:=Bool) (if¬t1<t0 then some (decide (t0<(aa .i64 (-t1))))else some true) λa=>some a
def qe(t0:Int):Option Int:=if t0<0 then some (aa .u64 (-(aa .u64 t0)))else some (aa .u64 t0)
def Re(t0:Int) (t1:Int) (t2:Int) (c:Bool) (a:Int):Option Int:=if t1=0 then some t0 else laa (α:=Bool) (if a=0 then some c else if a=1 then some (!c)else if a=3 then some true else if a=4 then some (decide ((aa .u64 (t2-t1))<=t1))else if a=5 then if¬(aa .u64 (t2-t1))<t1 then if t1=(aa .u64 (t2-t1))then some ((Dab t0 2)==1)else some false else some true else some false) λd=>laa (α:=Int) (if d=true then some (aa .u64 (t0+1))else some t0) λb=>some b
def eo(t0:Int) (t1:Bool):Option Int:=if t1=true then some (aa .i64 (-(aa .i64 t0)))else some (aa .i64 t0)
def kf(t0:Int) (t1:Int) (t2:Int):Option (Int×Int):=(Vg t2).bind λh=>if h=false then some (0,1)else if t1=0 then some (0,12)else laa (α:=Bool) ((lf t0 4611686018427387904).bind λi=>if i=false then(lf t1 4611686018427387904).bind λj=>some j else some true) λg=>if g=true then some (0,3)else(qe t0).bind λf=>(qe t1).bind λa=>(quo .u64 f a).bind λb=>(rem .u64 f a).bind λc=>(Re b c a (!((decide (t0<0))==(decide (t1<0)))) t2).bind λd=>(eo d (!((decide (t0<0))==(decide (t1<0))))).bind λe=>some (e,0)
def Bn(t0:Int) (t1:Int) (t2:Int):Option (Int×Int):=laa (α:=Bool) (if¬(aa .i64 (t0+(aa .i64 (Zaa t1 1000000))))<(-2000000000000000)then some (decide (2000000000000000<(aa .i64 (t0+(aa .i64 (Zaa t1 1000000))))))else some true) λd=>if d=true then some (0,3)else laa (α:=Int) (if 1<(aa .i64 (t0+(aa .i64 (Zaa t1 1000000))))then some (aa .i64 ((Dab (aa .i64 (t0+(aa .i64 (Zaa t1 1000000)))) 2)+2))else if(aa .i64 (t0+(aa .i64 (Zaa t1 1000000))))<(-1)then some (aa .i64 ((Dab (aa .i64 (t0+(aa .i64 (Zaa t1 1000000)))) 2)-2))else some (Dab (aa .i64 (t0+(aa .i64 (Zaa t1 1000000)))) 2)) λb=>(kf (aa .i64 ((aa .i64 (b*1000000))+(Dab t1 1000000))) 1000000 t2).bind λa=>if¬a.2=0 then some (0,a.2)else laa (α:=Bool) (if¬(aa .i64 ((aa .i64 ((aa .i64 (t0+(aa .i64 (Zaa t1 1000000))))-b))+a.1))<(-1000000000000000)then some (decide (1000000000000000<(aa .i64 ((aa .i64 ((aa .i64 (t0+(aa .i64 (Zaa t1 1000000))))-b))+a.1))))else some true) λc=>if c=true then some (0,3)else some ((aa .i64 ((aa .i64 ((aa .i64 (t0+(aa .i64 (Zaa t1 1000000))))-b))+a.1)),0)
def uj(t0:GTable) (t1:Int) (t2:Int):(Int×Int×Int)->Option (Ex (Int×Int×Int) (Int×Int) (Int×Int)):=λ(b,c,d)=>if d<(t0.Rows.length:Int)then laa (α:=((Int×Int)⊕(Ex (Int×Int×Int) (Int×Int) (Int×Int)))) ((idx t0.Rows d).bind λa=>laa (α:=Bool) ((fc a.Valid t1).bind λi=>if i=true then some (decide ((min a.Hi t2)<=(max a.Lo 0)))else some true) λf=>if f=true then some (Sum.inl (b,c))else(si (aa .i64 ((min a.Hi t2)-(max a.Lo 0))) a.N).bind λe=>if e.2.2=false then some (Sum.inr (Ex.ret (0,3)))else some (Sum.inl ((aa .i64 (b+e.1)),(aa .i64 (c+e.2.1))))) λz=>match z with |.inr v=>some v |.inl (g,h)=>some (Ex.go (g,h,(aa .i64 (d+1))))else some (Ex.brk (b,c))
def xn(t0:GTable) (t1:Int) (t2:Int) (d:Int):Option (Int×Int):=laa (α:=Bool) (if¬d<0 then some (decide (5<d))else some true) λe=>if e=true then some (0,1)else laa (α:=Bool) (if t0.Key.Kind=3/\t0.Key.Enum=0 then some (!((t0.Value.Kind==4)&&(t0.Value.Enum==0)))else some true) λf=>if f=true then some (0,8)else laa (α:=Bool) (if¬t2<(-1000000000000000)then some (decide (1000000000000000<t2))else some true) λg=>if g=true then some (0,3)else(ea (uj t0 t1 t2) (0,0,0)).bind λy=>match y with |.inr v=>some v |.inl (b,c)=>(Bn b c d).bind λa=>some (a.1,a.2)
def Rg(t0:Bool):Option GValue:=if t0=true then some (GValue.mk 1 0 1)else some (GValue.mk 1 0 0)
def Sr(t0:Int):Option Bool:=laa (α:=Bool) (if(Dab t0 4)=0 then if(Dab t0 100)=0 then some ((Dab t0 400)==0)else some true else some false) λa=>some a
def Zc(t0:Int) (t1:Int):Option Int:=laa (α:=Bool) (if¬t1<1 then some (decide (12<t1))else some true) λa=>if a=true then some 0 else laa (α:=Bool) (if t1=2 then(Sr t0).bind λc=>some c else some false) λb=>if b=true then some 29 else(idx mL (aa .i64 (t1-1))).bind λd=>some d
def Rm(t0:Int):Option Int:=some (aa .i64 ((aa .i64 ((aa .i64 (Zaa t0 4))-(aa .i64 (Zaa t0 100))))+(aa .i64 (Zaa t0 400))))
def Oh(t0:Int):Option Int:=(Rm (aa .i64 (t0-1))).bind λa=>(Rm 1899).bind λb=>some (aa .i64 ((aa .i64 ((aa .i64 ((aa .i64 (t0-1900))*365))+a))-b))
def Rk(t0:Int):Option Bool:=laa (α:=Bool) (if 0<=t0 then some (decide (t0<=109572))else some false) λa=>some a
def Pl(t0:Int):Int->Option (Ex Int Int Unit):=λa=>(Oh (aa .i64 (a+1))).bind λb=>if b<=t0 then some (Ex.go (aa .i64 (a+1)))else some (Ex.brk a)
def Ol(d:Int):(Int×Int)->Option (Ex (Int×Int) Unit (Int×Int×Int)):=λ(c,a)=>if a<12 then(Zc d (aa .i64 (a+1))).bind λb=>if c<b then some (Ex.ret (d,(aa .i64 (a+1)),(aa .i64 (c+1))))else some (Ex.go ((aa .i64 (c-b)),(aa .i64 (a+1))))else some (Ex.brk ())
def Qk(t0:Int):Option (Int×Int×Int):=(Rk t0).bind λb=>if b=false then some (0,0,0)else(ea (Pl t0) (aa .i64 (1900+(aa .i64 (Zaa t0 366))))).bind λy=>match y with |.inr _=>none |.inl a=>(Oh a).bind λc=>(ea (Ol a) ((aa .i64 (t0-c)),0)).bind λy=>match y with |.inr v=>some v |.inl _=>some (0,0,0)
def ep(t0:Int) (t1:GValue):Option GValue:=if t0=10 then some (GValue.mk t1.Kind 0 (aa .i64 (-t1.N)))else if t0=25 then(Rg (t1.N==0)).bind λb=>some b else(Qk t1.N).bind λa=>if t0=31 then some (GValue.mk 2 0 a.1)else some (GValue.mk 2 0 a.2.1)
def kq(t0:Int) (t1:Int) (t2:Int) (h:Int):Option (Int×Int):=(Vg h).bind λj=>if j=false then some (0,1)else if t2=0 then some (0,12)else laa (α:=Bool) ((lf t0 1000000000000000).bind λk=>if k=false then(lf t1 1000000000).bind λl=>if l=false then(lf t2 1000000000).bind λm=>some m else some true else some true) λi=>if i=true then some (0,3)else(qe t0).bind λe=>(qe t1).bind λf=>(pe e f).bind λa=>(qe t2).bind λb=>if b<=a.1 then some (0,3)else(Gf a.1 a.2 b).bind λc=>if 1000000000000000<c.1 then some (0,3)else(Re c.1 c.2 b (!((!((decide (t0<0))==(decide (t1<0))))==(decide (t2<0)))) h).bind λd=>if 1000000000000000<d then some (0,3)else(eo d (!((!((decide (t0<0))==(decide (t1<0))))==(decide (t2<0))))).bind λg=>some (g,0)
def kp(t0:Int) (t1:Int) (t2:Int):Option (Int×Int):=(kq t0 t1 1000000 t2).bind λa=>some (a.1,a.2)
def bq(t0:Int) (t1:Int):Option (Int×Int):=(pe (aa .u64 (max t0 (aa .i64 (-t0)))) (aa .u64 (max t1 (aa .i64 (-t1))))).bind λa=>laa (α:=Bool) (if a.1=0 then some (decide (1000000000000000<a.2))else some true) λb=>if b=true then some (0,3)else if¬(decide (t0<0))=(decide (t1<0))then some ((aa .i64 (-(aa .i64 a.2))),0)else some ((aa .i64 a.2),0)
def wk(t0:Int):Option Bool:=laa (α:=Bool) (if 0<=t0 then some (decide (t0<=5))else some false) λa=>some a
def lj(t0:Int) (t1:Int):Option Bool:=laa (α:=Bool) (if¬t1<t0 then some (decide (t0<(aa .i64 (-t1))))else some true) λa=>some a
def xy(t0:Int) (t1:Int) (t2:Int):Option (Int×Int):=(wk t2).bind λd=>if d=false then some (0,1)else laa (α:=Bool) ((lj t0 1000000000).bind λe=>if e=false then(lj t1 1000000000).bind λf=>some f else some true) λc=>if c=true then some (0,3)else(kf (aa .i64 (t0*t1)) 1000000 t2).bind λa=>if¬a.2=0 then some (0,a.2)else(lj a.1 1000000000).bind λb=>if b=true then some (0,3)else some (a.1,0)
def Mo(t0:Int) (t1:Int) (t2:Int):Option (Int×Int):=(Vg t2).bind λd=>if d=false then some (0,1)else if t1<1 then some (0,12)else laa (α:=Bool) ((lf t0 1000000000000000).bind λe=>if e=false then some (decide (1000000000000000<t1))else some true) λc=>if c=true then some (0,3)else(kf t0 t1 t2).bind λa=>if¬a.2=0 then some (0,a.2)else(lf (aa .i64 (a.1*t1)) 1000000000000000).bind λb=>if b=true then some (0,3)else some ((aa .i64 (a.1*t1)),0)
def Oo(t0:Int) (t1:Int) (t2:Int) (b:Bool) (a:Int):Option Bool:=if t1=0 then some false else if a=0 then some b else if a=1 then some (!b)else if a=3 then some true else if a=4 then some (decide ((aa .u64 (t2-t1))<=t1))else if a=5 then laa (α:=Bool) (if¬(aa .u64 (t2-t1))<t1 then if t1=(aa .u64 (t2-t1))then some ((Dab t0 2)==1)else some false else some true) λc=>some c else some false
def nn(t0:Int) (t1:Int) (t2:Int):Option (Int×Int):=(wk t2).bind λg=>if g=false then some (0,1)else if t1=0 then some (0,12)else laa (α:=Bool) ((lj t0 1000000000000000).bind λh=>if h=false then(lj t1 1000000000000000).bind λi=>some i else some true) λf=>if f=true then some (0,3)else(pe (aa .u64 (max t0 (aa .i64 (-t0)))) 1000000).bind λe=>if(aa .u64 (max t1 (aa .i64 (-t1))))<=e.1 then some (0,3)else(Gf e.1 e.2 (aa .u64 (max t1 (aa .i64 (-t1))))).bind λa=>if 1000000000<a.1 then some (0,3)else laa (α:=Int) ((Oo a.1 a.2 (aa .u64 (max t1 (aa .i64 (-t1)))) (!((decide (t0<0))==(decide (t1<0)))) t2).bind λd=>if d=true then some (aa .i64 ((aa .i64 a.1)+1))else some (aa .i64 a.1)) λb=>if 1000000000<b then some (0,3)else laa (α:=Int) (if¬(decide (t0<0))=(decide (t1<0))then some (aa .i64 (-b))else some b) λc=>some (c,0)
def yg(t0:GNode) (t1:GValue) (t2:GValue):Option (GValue×Int):=laa (α:=(Int×Int×Int)) (if t0.Op=13 then(bq t1.N t2.N).bind λg=>some (t1.Kind,g.1,g.2)else laa (α:=Bool) (if t0.Op=14 then some (t1.Kind==3)else some false) λj=>if j=true then(kp t1.N t2.N t0.N).bind λh=>some (t1.Kind,h.1,h.2)else if t0.Op=14 then(xy t1.N t2.N t0.N).bind λi=>some (t1.Kind,i.1,i.2)else if t0.Op=16 then(Mo t1.N t2.N t0.N).bind λa=>some (t1.Kind,a.1,a.2)else if t2.Kind=2 then(kf t1.N t2.N t0.N).bind λb=>some (t1.Kind,b.1,b.2)else(nn t1.N t2.N t0.N).bind λc=>some (4,c.1,c.2)) λ(d,e,f)=>some ((GValue.mk d 0 e),f)
def Vc(t0:Int) (t1:Int):(Int×Int)->Option (Ex (Int×Int) Int Unit):=λ(b,a)=>if a<(aa .i64 (t1-1))then (Zc t0 (aa .i64 (a+1))).bind λc=>some (Ex.go ((aa .i64 (b+c)),(aa .i64 (a+1))))else some (Ex.brk b)
def Qi(t0:Int) (t1:Int) (t2:Int):Option (Int×Int):=laa (α:=Bool) (if¬t0<1900 then if¬2199<t0 then if¬t1<1 then if¬12<t1 then if¬t2<1 then(Zc t0 t1).bind λc=>some (decide (c<t2))else some true else some true else some true else some true else some true) λb=>if b=true then some (0,3)else(Oh t0).bind λd=>(ea (Vc t0 t1) (d,0)).bind λy=>match y with |.inr _=>none |.inl a=>some ((aa .i64 ((aa .i64 (a+t2))-1)),0)
def ug(t0:Int) (t1:Int):Option (Int×Int):=laa (α:=Bool) ((Rk t0).bind λf=>if f=true then if¬t1<(-3600)then some (decide (3600<t1))else some true else some true) λd=>if d=true then some (0,3)else(Qk t0).bind λa=>laa (α:=Bool) (if¬(aa .i64 ((aa .i64 ((aa .i64 ((aa .i64 ((aa .i64 (a.1-1900))*12))+a.2.1))-1))+t1))<0 then some (decide (3599<(aa .i64 ((aa .i64 ((aa .i64 ((aa .i64 ((aa .i64 (a.1-1900))*12))+a.2.1))-1))+t1))))else some true) λe=>if e=true then some (0,3)else(Zc (aa .i64 (1900+(aa .i64 (Zaa (aa .i64 ((aa .i64 ((aa .i64 ((aa .i64 ((aa .i64 (a.1-1900))*12))+a.2.1))-1))+t1)) 12)))) (aa .i64 ((Dab (aa .i64 ((aa .i64 ((aa .i64 ((aa .i64 ((aa .i64 (a.1-1900))*12))+a.2.1))-1))+t1)) 12)+1))).bind λc=>(Qi (aa .i64 (1900+(aa .i64 (Zaa (aa .i64 ((aa .i64 ((aa .i64 ((aa .i64 ((aa .i64 (a.1-1900))*12))+a.2.1))-1))+t1)) 12)))) (aa .i64 ((Dab (aa .i64 ((aa .i64 ((aa .i64 ((aa .i64 ((aa .i64 (a.1-1900))*12))+a.2.1))-1))+t1)) 12)+1)) (min a.2.2 c)).bind λb=>some (b.1,b.2)
def Ri(t0:Int) (t1:Int):Option Int:=laa (α:=Bool) ((Rk t0).bind λg=>if g=true then(Rk t1).bind λh=>if h=true then some (decide (t1<t0))else some true else some true) λf=>if f=true then some 0 else(Qk t0).bind λc=>(Qk t1).bind λd=>laa (α:=Int) ((ug t0 (aa .i64 (12*(aa .i64 (d.1-c.1))))).bind λe=>laa (α:=Bool) (if e.2=0 then some (decide (t1<e.1))else some true) λa=>if a=true then some (aa .i64 ((aa .i64 (d.1-c.1))-1))else some (aa .i64 (d.1-c.1))) λb=>some (max b 0)
def Vb(t0:GNode) (t1:GValue) (t2:GValue):Option (GValue×Int):=laa (α:=Bool) (if t0.Op=11 then some true else some (t0.Op==27)) λs=>if s=true then some ((GValue.mk t1.Kind 0 (aa .i64 (t1.N+t2.N))),0)else if t0.Op=12 then some ((GValue.mk t1.Kind 0 (aa .i64 (t1.N-t2.N))),0)else laa (α:=Bool) (if t0.Op=13 then some true else if t0.Op=14 then some true else if t0.Op=15 then some true else some (t0.Op==16)) λt=>if t=true then(yg t0 t1 t2).bind λe=>some (e.1,e.2)else laa (α:=Bool) (if t0.Op=17 then some true else some (t0.Op==18)) λg=>if g=true then if(t0.Op==17)=(decide (t2.N<t1.N))then some (t2,0)else some (t1,0)else if t0.Op=19 then(Rg (t1.N==t2.N)).bind λn=>some (n,0)else if t0.Op=20 then(Rg (t1.N !=t2.N)).bind λo=>some (o,0)else if t0.Op=21 then(Rg (decide (t1.N<t2.N))).bind λp=>some (p,0)else if t0.Op=22 then(Rg (decide (t1.N<=t2.N))).bind λq=>some (q,0)else if t0.Op=23 then laa (α:=(Int×Int×Int)) (if t1.N=1 then(Rg (t2.N==1)).bind λa=>some (a.Kind,a.Enum,a.N)else(Rg false).bind λb=>some (b.Kind,b.Enum,b.N)) λ(h,i,j)=>some ((GValue.mk h i j),0)else if t0.Op=24 then laa (α:=(Int×Int×Int)) (if¬t1.N=1 then(Rg (t2.N==1)).bind λc=>some (c.Kind,c.Enum,c.N)else(Rg true).bind λd=>some (d.Kind,d.Enum,d.N)) λ(k,l,m)=>some ((GValue.mk k l m),0)else if t0.Op=28 then(ug t1.N t2.N).bind λf=>some ((GValue.mk 5 0 f.1),f.2)else if t0.Op=29 then some ((GValue.mk 2 0 (aa .i64 (t2.N-t1.N))),0)else(Ri t1.N t2.N).bind λr=>some ((GValue.mk 2 0 r),0)
def Ba(t0:GNode) (t1:List GValue) (t2:GEnv):Option (GValue×Int):=laa (α:=Bool) (if t0.Op=1 then some true else if t0.Op=2 then some true else if t0.Op=3 then some true else if t0.Op=4 then some true else some (t0.Op==5)) λs=>if s=true then some ((GValue.mk t0.Op 0 t0.N),0)else if t0.Op=6 then some ((GValue.mk 6 (aa .i64 (Zaa t0.N 16)) (Dab t0.N 16)),0)else if t0.Op=7 then(idx t2.Inputs t0.N).bind λt=>some (t,0)else if t0.Op=8 then(idx t2.Defs t0.N).bind λg=>some (g,0)else if t0.Op=9 then some ((GValue.mk 5 0 t2.Date),0)else if t0.Op=35 then some ((GValue.mk 2 0 (t2.Members.length:Int)),0)else laa (α:=Bool) (if t0.Op=36 then some true else if t0.Op=37 then some true else if t0.Op=38 then some true else some (t0.Op==39)) λf=>if f=true then(Eh t0 t2).bind λb=>some (b.1,b.2)else if t0.Op=33 then(idx t2.Tables t0.N).bind λa=>(idx t1 0).bind λh=>(yq a t2.Date h.N).bind λc=>if c.2=false then some ((GValue.mk 0 0 0),6)else(idx a.Rows c.1).bind λi=>some ((GValue.mk a.Value.Kind a.Value.Enum i.N),0)else if t0.Op=34 then(idx t2.Tables (aa .i64 (Zaa t0.N 8))).bind λj=>(idx t1 0).bind λk=>(xn j t2.Date k.N (Dab t0.N 8)).bind λd=>some ((GValue.mk 3 0 d.1),d.2)else if(t1.length:Int)=1 then(idx t1 0).bind λl=>(ep t0.Op l).bind λm=>some (m,0)else if(t1.length:Int)=2 then(idx t1 0).bind λn=>(idx t1 1).bind λo=>(Vb t0 n o).bind λe=>some (e.1,e.2)else(idx t1 0).bind λp=>if p.N=1 then(idx t1 1).bind λq=>some (q,0)else(idx t1 2).bind λr=>some (r,0)
def zj(t0:GNode) (t1:List GValue) (t2:GEnv):Option (GValue×Int):=laa (α:=Bool) ((Hl t0).bind λf=>if f=true then(Aj t0.Op).bind λg=>some ((t1.length:Int) !=g)else some true) λe=>if e=true then some ((GValue.mk 0 0 0),2)else(Wr t0 t2).bind λh=>if h=false then some ((GValue.mk 0 0 0),6)else laa (α:=Bool) ((Xi t1).bind λi=>if i=true then(oa t0 t1 t2).bind λc=>some (!c)else some true) λb=>if b=true then some ((GValue.mk 0 0 0),8)else(Ba t0 t1 t2).bind λa=>if¬a.2=0 then some ((GValue.mk 0 0 0),a.2)else(Ob a.1).bind λd=>if d=false then some ((GValue.mk 0 0 0),3)else some (a.1,0)
def bd(t0:GEval_evaluator) (g:List Int) (c:(GEval_evaluator->Int->Option (GValue×Int))):((List GValue)×Int)->Option (Ex ((List GValue)×Int) (List GValue) (GValue×Int)):=λ(d,a)=>if a<(g.length:Int)then (idx g a).bind λe=>(c t0 e).bind λb=>if¬b.2=0 then some (Ex.ret ((GValue.mk 0 0 0),b.2))else(idx d a).bind λx15=>(put d a b.1).bind λf=>some (Ex.go (f,(aa .i64 (a+1))))else some (Ex.brk d)
def Dc(a:(GEval_evaluator->Int->Option (GValue×Int))) (b:(GEval_evaluator->GNode->(List Int)->Option (GValue×Int))) (R512:(GEval_evaluator->Int->Option (GValue×Int))) (t0:GEval_evaluator) (t1:Int):Option (GValue×Int):=(idx t0.nodes t1).bind λc=>(Fe t0 t1).bind λe=>laa (α:=Bool) (if c.Op=23 then some true else if c.Op=24 then some true else some (c.Op==26)) λh=>if h=true then(b t0 c e).bind λg=>some (g.1,g.2)else(py 24 (GValue.mk 0 0 0) (e.length:Int) (e.length:Int)).bind λi=>(ea (bd t0 e a) (i,0)).bind λy=>match y with |.inr v=>some v |.inl f=>(zj c f t0.env).bind λd=>some (d.1,d.2)
def Qf(a:(GEval_evaluator->Int->Option (GValue×Int))) (R455:(GEval_evaluator->GNode->(List Int)->Option (GValue×Int))) (b:(GEval_evaluator->Int->Option (GValue×Int))) (t0:GEval_evaluator) (t1:GNode) (t2:List Int):Option (GValue×Int):=if¬t1.N=0 then some ((GValue.mk 0 0 0),2)else(idx t2 0).bind λj=>(b t0 j).bind λe=>if¬e.2=0 then some ((GValue.mk 0 0 0),e.2)else laa (α:=Bool) (if t1.Op=26 then some (e.1.N==1)else some false) λi=>if i=true then(idx t2 1).bind λk=>(a t0 k).bind λh=>some (h.1,h.2)else if t1.Op=26 then(idx t2 2).bind λf=>(a t0 f).bind λc=>some (c.1,c.2)else if(t1.Op==23)=(e.1.N==0)then some (e.1,0)else(idx t2 1).bind λg=>(b t0 g).bind λd=>some (d.1,d.2)
def zc(a:(GEval_evaluator->Int->Option (GValue×Int))) (R455:(GEval_evaluator->GNode->(List Int)->Option (GValue×Int))) (R512:(GEval_evaluator->Int->Option (GValue×Int))) (t0:GEval_evaluator) (t1:Int):Option (GValue×Int):=(a t0 t1).bind λb=>if¬b.2=0 then some ((GValue.mk 0 0 0),b.2)else laa (α:=Bool) (if b.1.Kind=1 then(Ob b.1).bind λd=>some (!d)else some true) λc=>if c=true then some ((GValue.mk 0 0 0),8)else some (b.1,0)
def ba:Nat->(GEval_evaluator->Int->Option (GValue×Int))×(GEval_evaluator->GNode->(List Int)->Option (GValue×Int))×(GEval_evaluator->Int->Option (GValue×Int)) |0=>(λ_ _=>none,λ_ _ _=>none,λ_ _=>none) |n+1=>(Dc (ba n).1 (ba n).2.1 (ba n).2.2,Qf (ba n).1 (ba n).2.1 (ba n).2.2,zc (ba n).1 (ba n).2.1 (ba n).2.2)
def Kj(t0:GEval_evaluator) (t1:Int):Option (GValue×Int):=(ba Wu).1 t0 t1
def Dt(t0:GEval_evaluator) (t1:GNode) (t2:List Int):Option (GValue×Int):=(ba Wu).2.1 t0 t1 t2
def aq(t0:GEval_evaluator) (t1:Int):Option (GValue×Int):=(ba Wu).2.2 t0 t1
def Ql(t0:List GNode) (t1:GEnv):Option (GValue×Int):=(Xr t0).bind λa=>if¬a.2=0 then some ((GValue.mk 0 0 0),a.2)else(Kj (GEval_evaluator.mk t0 a.1 t1) (aa .i64 ((t0.length:Int)-1))).bind λb=>some (b.1,b.2)
def Eg(t0:List Int) (t1:List Int):Int->Option (Ex Int Unit Int):=λa=>if a<(t0.length:Int)then (idx t0 a).bind λc=>laa (α:=Bool) (if¬c<(-1)then some (decide (a<=c))else some true) λe=>if e=true then some (Ex.ret 9)else laa (α:=Bool) ((idx t1 a).bind λd=>if¬d<0 then some (decide (9<d))else some true) λb=>if b=true then some (Ex.ret 3)else some (Ex.go (aa .i64 (a+1)))else some (Ex.brk ())
def nj(t0:List Int) (t1:List Int):Option Int:=if¬(t0.length:Int)=(t1.length:Int)then some 2 else if 8<(t0.length:Int)then some 4 else(ea (Eg t0 t1) 0).bind λy=>match y with |.inr v=>some v |.inl _=>some 0
def Dg(t0:List Int) (t1:Int):((List Int)×Int)->Option (Ex ((List Int)×Int) (List Int) Unit):=λ(s1,s2)=>if s2<(t0.length:Int)then laa (α:=(List Int)) ((idx t0 s2).bind λb=>if b=t1 then(app 8 s1 ([s2])).bind λc=>some c else some s1) λa=>some (Ex.go (a,(aa .i64 (s2+1))))else some (Ex.brk s1)
def mj(t0:List Int) (t1:Int):Option (List Int):=(ea (Dg t0 t1) (([]:List Int),0)).bind λy=>match y with |.inr _=>none |.inl a=>some a
def ui(t0:GRuletree_tree) (n:List Int):((List Int)×Int)->Option (Ex ((List Int)×Int) (List Int) Unit):=λ(s2,f)=>if f<(n.length:Int)then laa (α:=(List Int)) ((idx n f).bind λb=>(idx t0.outcome b).bind λo=>if o=(-1)then some s2 else laa (α:=(List Int)) (laa (α:=Bool) (if 0<(s2.length:Int)then (idx t0.priority b).bind λp=>(idx s2 0).bind λg=>(idx t0.priority g).bind λh=>some (decide (h<p))else some false) λc=>if c=true then(Fq s2 0).bind λi=>some i else some s2) λa=>laa (α:=Bool) (if¬(a.length:Int)=0 then(idx t0.priority b).bind λj=>(idx a 0).bind λk=>(idx t0.priority k).bind λl=>some (j==l)else some true) λd=>if d=true then(app 8 a ([b])).bind λm=>some m else some a) λe=>some (Ex.go (e,(aa .i64 (f+1))))else some (Ex.brk s2)
def xl(t0:GRuletree_tree) (t1:Int):Option (List Int):=(mj t0.parent t1).bind λb=>(ea (ui t0 b) (([]:List Int),0)).bind λy=>match y with |.inr _=>none |.inl a=>some a
def Hb(t0:GRuletree_tree) (t1:Int):Option Int:=(xl t0 t1).bind λa=>if(a.length:Int)=0 then some (-1)else if(a.length:Int)=1 then(idx a 0).bind λb=>(idx t0.outcome b).bind λc=>some c else some (-2)
def Fg(t0:List Int) (t1:List Int) (t2:List Bool):((List Int)×Int)->Option (Ex ((List Int)×Int) (List Int) Unit):=λ(s2,a)=>if 0<=a then laa (α:=(List Int)) ((Hb (GRuletree_tree.mk t0 t1 s2) a).bind λg=>(idx s2 a).bind λx6=>(put s2 a g).bind λb=>laa (α:=Bool) ((idx b a).bind λh=>if h=(-1)then (idx t2 a).bind λe=>some e else some false) λc=>if c=true then(idx b a).bind λx13=>(put b a a).bind λf=>some f else some b) λd=>some (Ex.go (d,(aa .i64 (a-1))))else some (Ex.brk s2)
def oj(t0:List Int) (t1:List Int) (t2:List Bool):Option (List Int):=(py 8 0 (t0.length:Int) (t0.length:Int)).bind λb=>(ea (Fg t0 t1 t2) (b,(aa .i64 ((t0.length:Int)-1)))).bind λy=>match y with |.inr _=>none |.inl a=>some a
def Ll(t0:List Int) (t1:List Int) (t2:List Bool):Option Int:=laa (α:=Bool) ((nj t0 t1).bind λb=>if b=0 then some ((t2.length:Int) !=(t0.length:Int))else some true) λa=>if a=true then some (-1)else(oj t0 t1 t2).bind λc=>(Hb (GRuletree_tree.mk t0 t1 c) (-1)).bind λd=>some d
def Ce(t0:GLaw) (t1:List GValue) (t2:List GField):Int->Option (Ex Int Unit (Int×Int)):=λa=>if a<(t1.length:Int)then (idx t1 a).bind λc=>(idx t2 a).bind λe=>laa (α:=Bool) (if c.Kind=e.Type_.Kind then some (c.Enum !=e.Type_.Enum)else some true) λf=>if f=true then some (Ex.ret (a,8))else(pd e.Type_ t0.Enums).bind λb=>laa (α:=Bool) (if¬c.N<b.1 then some (decide (b.2<c.N))else some true) λd=>if d=true then some (Ex.ret (a,3))else some (Ex.go (aa .i64 (a+1)))else some (Ex.brk ())
def Be(t0:GLaw) (t1:List GValue) (t2:List GField):Option (Int×Int):=if(t1.length:Int)<(t2.length:Int)then some ((t1.length:Int),5)else if(t2.length:Int)<(t1.length:Int)then some ((t2.length:Int),4)else(ea (Ce t0 t1 t2) 0).bind λy=>match y with |.inr v=>some v |.inl _=>some (0,0)
def Mf(t0:GLaw) (t1:Int):Option ((List GField)×Int):=(idx t0.Scopes t1).bind λa=>laa (α:=Bool) (if¬a.MemberScope<0 then some (decide ((t0.Scopes.length:Int)<=a.MemberScope))else some true) λb=>if b=true then some ([],0)else(idx t0.Scopes a.MemberScope).bind λc=>some (c.Inputs,8)
def sg(t0:GLaw) (t2:GCase) (c:((List GField)×Int)):Int->Option (Ex Int Unit (Int×Int×Int)):=λa=>if a<(t2.Members.length:Int)then (idx t2.Members a).bind λd=>(Be t0 d c.1).bind λb=>if¬b.2=0 then some (Ex.ret (a,b.1,b.2))else some (Ex.go (aa .i64 (a+1)))else some (Ex.brk ())
def Oi(t0:GLaw) (t1:Int) (t2:GCase):Option (Int×Int×Int):=laa (α:=Bool) (if¬t1<0 then some (decide ((t0.Scopes.length:Int)<=t1))else some true) λc=>if c=true then some ((-1),(-1),6)else laa (α:=Bool) (if¬t2.Date<0 then some (decide (109572<t2.Date))else some true) λd=>if d=true then some ((-1),(-1),3)else(idx t0.Scopes t1).bind λe=>(Be t0 t2.Inputs e.Inputs).bind λb=>if¬b.2=0 then some ((-1),b.1,b.2)else(Mf t0 t1).bind λa=>if a.2<(t2.Members.length:Int)then some (a.2,(-1),4)else(ea (sg t0 t2 a) 0).bind λy=>match y with |.inr v=>some v |.inl _=>some (0,0,0)
def Ec(t0:GLaw) (t1:Int) (t2:GCase) (d:Bool) (b:Int):Option GEvalError:=(ql t0).bind λe=>if¬e.Code=0 then some (GEvalError.mk 1 (-1) (-1) (-1))else laa (α:=Bool) (if¬t1<0 then if¬(t0.Scopes.length:Int)<=t1 then if d=true then if¬b<0 then(idx t0.Scopes t1).bind λf=>some (decide ((f.Defs.length:Int)<=b))else some true else some false else some true else some true) λc=>if c=true then some (GEvalError.mk 6 (-1) (-1) (-1))else(Oi t0 t1 t2).bind λa=>if¬a.2.2=0 then some (GEvalError.mk a.2.2 a.1 (-1) (-1))else some (GEvalError.mk 0 0 0 0)
def il(t0:GScope) (t1:GEnv) (t2:Int) (j:Int) (g:((List Int)×(List Int)×(List Int))):((List Bool)×Int)->Option (Ex ((List Bool)×Int) (List Bool) (Int×GEvalError)):=λ(c,a)=>if a<(g.1.length:Int)then laa (α:=((List Bool)⊕(Ex ((List Bool)×Int) (List Bool) (Int×GEvalError)))) ((idx g.1 a).bind λh=>(idx t0.Rules h).bind λi=>if(i.Guard.length:Int)=0 then(idx c a).bind λx9=>(put c a true).bind λe=>some (Sum.inl e)else(Ql i.Guard t1).bind λb=>if¬b.2=0 then some (Sum.inr (Ex.ret (0,(GEvalError.mk b.2 t2 j h))))else(idx c a).bind λx13=>(put c a (b.1.N==1)).bind λf=>some (Sum.inl f)) λz=>match z with |.inr v=>some v |.inl d=>some (Ex.go (d,(aa .i64 (a+1))))else some (Ex.brk c)
def Ug(t0:GScope) (t1:GEnv) (t2:Int) (e:Int):Option (Int×GEvalError):=(Xj t0 e t1.Date).bind λb=>(py 1 false (b.1.length:Int) (b.1.length:Int)).bind λf=>(ea (il t0 t1 t2 e b) (f,0)).bind λy=>match y with |.inr v=>some v |.inl c=>(Ll b.2.1 b.2.2 c).bind λa=>if a<0 then some (a,(GEvalError.mk 0 0 0 0))else(idx b.1 a).bind λd=>some (d,(GEvalError.mk 0 0 0 0))
def Ee(t0:GScope):Option ((List Int)×Int):=(tc t0).bind λx=>some (wv x)
def Je(t0:GScope) (t1:GEnv) (t2:Int) (m:List Bool) (l:((List Int)×Int)):((List GValue)×(List Int)×Int)->Option (Ex ((List GValue)×(List Int)×Int) ((List GValue)×(List Int)) (((List Int)×GEvalError)×GEnv)):=λ(b,e,h)=>if h<(l.1.length:Int)then laa (α:=(((List GValue)×(List Int))⊕(Ex ((List GValue)×(List Int)×Int) ((List GValue)×(List Int)) (((List Int)×GEvalError)×GEnv)))) ((idx l.1 h).bind λc=>(idx m c).bind λn=>if n=false then some (Sum.inl (b,e))else(Ug t0 (GEnv.mk t1.Date t1.Inputs b t1.Members t1.MemberTypes t1.Tables) t2 c).bind λa=>if¬a.2.Code=0 then some (Sum.inr (Ex.ret (([],a.2),(GEnv.mk t1.Date t1.Inputs b t1.Members t1.MemberTypes t1.Tables))))else if a.1=(-1)then some (Sum.inr (Ex.ret (([],(GEvalError.mk 10 t2 c (-1))),(GEnv.mk t1.Date t1.Inputs b t1.Members t1.MemberTypes t1.Tables))))else if a.1=(-2)then some (Sum.inr (Ex.ret (([],(GEvalError.mk 11 t2 c (-1))),(GEnv.mk t1.Date t1.Inputs b t1.Members t1.MemberTypes t1.Tables))))else(idx t0.Rules a.1).bind λi=>(Ql i.Value (GEnv.mk t1.Date t1.Inputs b t1.Members t1.MemberTypes t1.Tables)).bind λd=>if¬d.2=0 then some (Sum.inr (Ex.ret (([],(GEvalError.mk d.2 t2 c a.1)),(GEnv.mk t1.Date t1.Inputs b t1.Members t1.MemberTypes t1.Tables))))else(idx b c).bind λx18=>(put b c d.1).bind λj=>(idx e c).bind λx20=>(put e c a.1).bind λk=>some (Sum.inl (j,k))) λz=>match z with |.inr v=>some v |.inl (f,g)=>some (Ex.go (f,g,(aa .i64 (h+1))))else some (Ex.brk (b,e))
def Ra(t0:GScope) (t1:GEnv) (t2:Int) (c:List Bool):Option (((List Int)×GEvalError)×GEnv):=(py 24 (GValue.mk 0 0 0) (t0.Defs.length:Int) (t0.Defs.length:Int)).bind λd=>(py 8 0 (t0.Defs.length:Int) (t0.Defs.length:Int)).bind λe=>(Ee t0).bind λf=>(ea (Je t0 t1 t2 c f) (d,e,0)).bind λy=>match y with |.inr v=>some v |.inl (a,b)=>some ((b,(GEvalError.mk 0 0 0 0)),(GEnv.mk t1.Date t1.Inputs a t1.Members t1.MemberTypes t1.Tables))
def Zk(a:GInterp_needs):((List GType)×Int)->Option (Ex ((List GType)×Int) (List GType) Unit):=λ(s1,s2)=>if s2<(a.memberScope.Defs.length:Int)then (idx a.memberScope.Defs s2).bind λb=>(app 16 s1 ([b.Type_])).bind λc=>some (Ex.go (c,(aa .i64 (s2+1))))else some (Ex.brk s1)
def Yk(t0:GLaw) (t2:GCase) (h:GInterp_needs):((List (List GValue))×(List GMemberResult)×Int)->Option (Ex ((List (List GValue))×(List GMemberResult)×Int) ((List (List GValue))×(List GMemberResult)) (GResult×GEnv×GEvalError)):=λ(g,c,b)=>if b<(t2.Members.length:Int)then (idx t2.Members b).bind λd=>(Ra h.memberScope (GEnv.mk t2.Date d ([]) ([]) ([]) t0.Tables) b h.memberDefs).bind λa=>if¬a.1.2.Code=0 then some (Ex.ret ((GResult.mk ([]) ([]) ([])),(GEnv.mk 0 ([]) ([]) ([]) ([]) ([])),a.1.2))else(app 24 g ([a.2.Defs])).bind λe=>(app 48 c ([(GMemberResult.mk a.2.Defs a.1.1)])).bind λf=>some (Ex.go (e,f,(aa .i64 (b+1))))else some (Ex.brk (g,c))
def Tg(t0:GLaw) (t1:Int) (t2:GCase) (b:GInterp_needs):Option (GResult×GEnv×GEvalError):=(ea (Zk b) (([]:List GType),0)).bind λy=>match y with |.inr _=>none |.inl e=>(ea (Yk t0 t2 b) (([]:List (List GValue)),([]:List GMemberResult),0)).bind λy=>match y with |.inr v=>some v |.inl (c,d)=>(Ra b.scope (GEnv.mk t2.Date t2.Inputs ([]) c e t0.Tables) (-1) b.defs).bind λa=>if¬a.1.2.Code=0 then some ((GResult.mk ([]) ([]) ([])),(GEnv.mk 0 ([]) ([]) ([]) ([]) ([])),a.1.2)else some ((GResult.mk a.2.Defs a.1.1 d),a.2,(GEvalError.mk 0 0 0 0))
def bp(e:List Int):((List Bool)×Int)->Option (Ex ((List Bool)×Int) (List Bool) Unit):=λ(c,a)=>if a<(e.length:Int)then (idx e a).bind λb=>(idx c b).bind λx13=>(put c b true).bind λd=>some (Ex.go (d,(aa .i64 (a+1))))else some (Ex.brk c)
def Ph(t0:GScope) (d:List Bool):((List Int)×Int)->Option (Ex ((List Int)×Int) (List Int) Unit):=λ(b,c)=>if c<(t0.Rules.length:Int)then laa (α:=(List Int)) ((idx t0.Rules c).bind λa=>laa (α:=Bool) (if¬a.Def<0 then if¬(t0.Defs.length:Int)<=a.Def then(idx d a.Def).bind λg=>some (!g)else some true else some true) λe=>if e=true then some b else(Ef a.Guard).bind λh=>(Ef a.Value).bind λi=>(app 8 b h.2.2).bind λj=>(app 8 j i.2.2).bind λk=>some k) λf=>some (Ex.go (f,(aa .i64 (c+1))))else some (Ex.brk b)
def Ai(t0:GScope) (t1:Int):Option (List Int):=laa (α:=Bool) (if¬t1<0 then some (decide ((t0.Defs.length:Int)<=t1))else some true) λe=>if e=true then some ([])else(py 1 false (t0.Defs.length:Int) (t0.Defs.length:Int)).bind λd=>(idx d t1).bind λx5=>(put d t1 true).bind λf=>(tc t0).bind λg=>(Ti g t1).bind λh=>(ea (bp h) (f,0)).bind λy=>match y with |.inr _=>none |.inl a=>(ea (Ph t0 a) (([]:List Int),0)).bind λy=>match y with |.inr _=>none |.inl b=>(Qh b).bind λc=>some c
def Hh(t0:GPayConfig):Option Bool:=some (decide ((t0.Calendar.Holidays.length:Int)<=70))
def Fp(t0:Int):Option Bool:=laa (α:=Bool) (if 0<=t0 then some (decide (t0<=3599))else some false) λa=>some a
def Lw(t0:Int):Option Int:=(Fp t0).bind λa=>if a=false then some 0 else(Zc (aa .i64 (1900+(aa .i64 (Zaa t0 12)))) (aa .i64 ((Dab t0 12)+1))).bind λb=>some b
def Ds(t0:Int):Option (GDateRange×Int):=(Fp t0).bind λb=>if b=false then some ((GDateRange.mk 0 0),3)else(Qi (aa .i64 (1900+(aa .i64 (Zaa t0 12)))) (aa .i64 ((Dab t0 12)+1)) 1).bind λa=>if¬a.2=0 then some ((GDateRange.mk 0 0),a.2)else(Lw t0).bind λc=>some ((GDateRange.mk a.1 (aa .i64 (a.1+c))),0)
def Vd(t0:Int):Option Bool:=laa (α:=Bool) (if 0<=t0 then some (decide (t0<=109572))else some false) λa=>some a
def qd(t0:GCalendar):Int->Option (Ex Int Unit Bool):=λa=>if a<(t0.Holidays.length:Int)then (idx t0.Holidays a).bind λd=>laa (α:=Bool) ((Vd d).bind λe=>if e=true then if 0<a then(idx t0.Holidays (aa .i64 (a-1))).bind λc=>some (decide (d<=c))else some false else some true) λb=>if b=true then some (Ex.ret false)else some (Ex.go (aa .i64 (a+1)))else some (Ex.brk ())
def je(t0:GCalendar):Option Bool:=laa (α:=Bool) (if¬t0.Weekend<0 then if¬126<t0.Weekend then some (decide (64<(t0.Holidays.length:Int)))else some true else some true) λa=>if a=true then some false else(ea (qd t0) 0).bind λy=>match y with |.inr v=>some v |.inl _=>some true
def Fa(t0:GLaw) (t1:Int) (t2:GPayConfig):Option Int:=(ql t0).bind λb=>if¬(b.Code=0/\b.Section=0/\b.Item=0/\b.Element=0)then some 1 else laa (α:=Bool) (if¬t1<0 then if¬(t0.Scopes.length:Int)<=t1 then if¬t2.Def<0 then(idx t0.Scopes t1).bind λk=>some (decide ((k.Defs.length:Int)<=t2.Def))else some true else some true else some true) λj=>if j=true then some 6 else(idx t0.Scopes t1).bind λl=>(idx l.Defs t2.Def).bind λa=>if¬(a.Type_.Kind=3/\a.Type_.Enum=0)then some 8 else laa (α:=Bool) (if¬t2.Rounding<0 then if¬5<t2.Rounding then(je t2.Calendar).bind λi=>some (!i)else some true else some true) λc=>if c=true then some 1 else laa (α:=Bool) (laa (α:=Bool) (if¬t2.PayDay<1 then some (decide (28<t2.PayDay))else some true) λd=>if d=true then some true else laa (α:=Bool) (if¬t2.RecoveryCap<0 then some (decide (1000000<t2.RecoveryCap))else some true) λe=>if e=true then some true else laa (α:=Bool) (if¬t2.RecoveryFloor<0 then some (decide (1000000000000000<t2.RecoveryFloor))else some true) λf=>if f=true then some true else laa (α:=Bool) (if¬t2.FirstMonth<0 then some (decide (3599<t2.FirstMonth))else some true) λg=>if g=true then some true else if¬t2.AppealDays<0 then some (decide (365<t2.AppealDays))else some true) λh=>if h=true then some 3 else some 0
def kd(t0:GLaw) (t1:Int):Option ((List GField)×Bool):=(idx t0.Scopes t1).bind λa=>laa (α:=Bool) (if¬a.MemberScope<0 then some (decide ((t0.Scopes.length:Int)<=a.MemberScope))else some true) λb=>if b=true then some ([],false)else(idx t0.Scopes a.MemberScope).bind λc=>some (c.Inputs,true)
def gk(t0:GDateRange):Option Bool:=laa (α:=Bool) ((Wc t0).bind λb=>if b=true then some (decide (t0.From<t0.To))else some false) λa=>some a
def Sg(t0:GFact):Option Int:=if t0.Id<0 then some 3 else laa (α:=Bool) (if¬t0.Member<(-1)then some (decide (8<=t0.Member))else some true) λe=>if e=true then some 3 else laa (α:=Bool) (if¬t0.Input<(-1)then some (decide (12<=t0.Input))else some true) λf=>if f=true then some 3 else laa (α:=Bool) (if t0.Member=(-1)then some (t0.Input==(-1))else some false) λg=>if g=true then some 3 else(gk t0.Valid).bind λd=>if d=false then some 3 else laa (α:=Bool) (if¬t0.Recorded<0 then some (decide (109572<t0.Recorded))else some true) λa=>if a=true then some 3 else laa (α:=Bool) (if¬t0.Value.Kind<1 then some (decide (6<t0.Value.Kind))else some true) λb=>if b=true then some 8 else laa (α:=Bool) (if t0.Input=(-1)then some (t0.Value.Kind !=1)else some false) λc=>if c=true then some 8 else some 0
def af:Int->List Int->List GFact->Option (Int×Int) |_,_,[]=>some (0,0) |i,seen,f::l=>(Sg f).bind λc=>if¬c=0 then some (i,c)else if seen.contains f.Id then some (i,7)else af (i+1) (f.Id::seen) l
def fk(t0:List GFact):Option (Int×Int):=if 128<(t0.length:Int)then some (0,4)else af 0 [] t0
def Rf(t0:GLaw) (t1:GHousehold) (l:((List GField)×Bool)):Int->Option (Ex Int Unit (Int×Int)):=λb=>if b<(t1.Facts.length:Int)then (idx t1.Facts b).bind λa=>if t1.Members<=a.Member then some (Ex.ret (b,6))else laa (α:=(List GField)) (if a.Member=(-1)then (idx t0.Scopes t1.Scope).bind λk=>some k.Inputs else some l.1) λc=>laa (α:=((Int×Int)⊕(Ex Int Unit (Int×Int)))) (if¬a.Input=(-1)then laa (α:=Bool) (if¬a.Input<0 then some (decide ((c.length:Int)<=a.Input))else some true) λh=>if h=true then some (Sum.inr (Ex.ret (b,6)))else(idx c a.Input).bind λf=>some (Sum.inl (f.Type_.Kind,f.Type_.Enum))else some (Sum.inl (1,0))) λz=>match z with |.inr v=>some v |.inl (d,e)=>laa (α:=Bool) (if a.Value.Kind=d then some (a.Value.Enum !=e)else some true) λi=>if i=true then some (Ex.ret (b,8))else(pd (GType.mk d e) t0.Enums).bind λg=>laa (α:=Bool) (if¬a.Value.N<g.1 then some (decide (g.2<a.Value.N))else some true) λj=>if j=true then some (Ex.ret (b,3))else some (Ex.go (aa .i64 (b+1)))else some (Ex.brk ())
def Rc(t0:GLaw) (t1:GHousehold):Option (Int×Int):=laa (α:=Bool) (if¬t1.Scope<0 then some (decide ((t0.Scopes.length:Int)<=t1.Scope))else some true) λc=>if c=true then some ((-1),6)else(kd t0 t1.Scope).bind λb=>laa (α:=Bool) (if¬t1.Id<0 then if¬t1.Members<0 then if¬8<t1.Members then if¬t1.Members=0 then some (!b.2)else some false else some true else some true else some true) λd=>if d=true then some ((-1),3)else(fk t1.Facts).bind λa=>if¬a.2=0 then some (a.1,a.2)else(ea (Rf t0 t1 b) 0).bind λy=>match y with |.inr v=>some v |.inl _=>some (0,0)
def qc(t0:GLaw) (t1:GHousehold) (t2:GPayConfig):Option Bool:=(Fa t0 t1.Scope t2).bind λa=>if¬a=0 then some false else(Rc t0 t1).bind λb=>some (b.2==0)
def au(t0:GFact) (t1:GFact):Option Bool:=if¬t0.Recorded=t1.Recorded then some (decide (t1.Recorded<t0.Recorded))else some (decide (t1.Id<t0.Id))
def Co(t0:List GFact) (t1:Int) (t2:Int) (g:Int) (h:Int):(Int×Int)->Option (Ex (Int×Int) Int Unit):=λ(s1,s2)=>if s2<(t0.length:Int)then laa (α:=Int) ((idx t0 s2).bind λa=>laa (α:=Bool) (if a.Member=t1 then if a.Input=t2 then if¬h<a.Recorded then(fc a.Valid g).bind λi=>some (!i)else some true else some true else some true) λf=>if f=true then some s1 else laa (α:=Bool) (if¬s1<0 then(idx t0 s1).bind λd=>(au a d).bind λe=>some e else some true) λb=>if b=true then some s2 else some s1) λc=>some (Ex.go (c,(aa .i64 (s2+1))))else some (Ex.brk s1)
def Zm(t0:List GFact) (t1:Int) (t2:Int) (c:Int) (d:Int):Option (GValue×Bool):=(ea (Co t0 t1 t2 c d) ((-1),0)).bind λy=>match y with |.inr _=>none |.inl a=>if a<0 then some ((GValue.mk 0 0 0),false)else(idx t0 a).bind λb=>some (b.Value,true)
def Xd(t0:List GFact) (t1:Int) (c:Int) (d:Int) (e:List GValue):((List GValue)×Int)->Option (Ex ((List GValue)×Int) (List GValue) ((List GValue)×Bool)):=λ(s2,a)=>if a<(e.length:Int)then (Zm t0 t1 a c d).bind λb=>if b.2=false then some (Ex.ret ([],false))else(idx s2 a).bind λx7=>(put s2 a b.1).bind λf=>some (Ex.go (f,(aa .i64 (a+1))))else some (Ex.brk s2)
def xe(t0:List GFact) (t1:Int) (t2:Int) (c:Int) (d:Int):Option ((List GValue)×Bool):=(py 24 (GValue.mk 0 0 0) t2 t2).bind λb=>(ea (Xd t0 t1 c d b) (b,0)).bind λy=>match y with |.inr v=>some v |.inl a=>some (a,true)
def bf(t0:GHousehold) (t1:Int) (t2:Int):((List Int)×Int)->Option (Ex ((List Int)×Int) (List Int) Unit):=λ(s1,s2)=>if s2<(min (max t0.Members 0) 8)then laa (α:=(List Int)) ((Zm t0.Facts s2 (-1) t1 t2).bind λb=>laa (α:=Bool) (if b.2=true then if b.1.Kind=1 then some (b.1.N==1)else some false else some false) λc=>if c=true then(app 8 s1 ([s2])).bind λd=>some d else some s1) λa=>some (Ex.go (a,(aa .i64 (s2+1))))else some (Ex.brk s1)
def bh(t0:GHousehold) (t1:Int) (t2:Int):Option (List Int):=(ea (bf t0 t1 t2) (([]:List Int),0)).bind λy=>match y with |.inr _=>none |.inl a=>some a
def Nj(t1:GHousehold) (t2:Int) (h:Int) (e:((List GField)×Bool)) (c:List Int):((List (List GValue))×Int)->Option (Ex ((List (List GValue))×Int) (List (List GValue)) (GCase×Int)):=λ(b,a)=>if a<(c.length:Int)then (idx c a).bind λf=>(xe t1.Facts f (e.1.length:Int) t2 h).bind λd=>if d.2=false then some (Ex.ret ((GCase.mk 0 ([]) ([])),6))else(app 24 b ([d.1])).bind λg=>some (Ex.go (g,(aa .i64 (a+1))))else some (Ex.brk b)
def Fh(t0:GLaw) (t1:GHousehold) (t2:Int) (c:Int):Option (GCase×Int):=(ql t0).bind λa=>if¬(a.Code=0/\a.Section=0/\a.Item=0/\a.Element=0)then some ((GCase.mk 0 ([]) ([])),1)else(Rc t0 t1).bind λh=>if¬h.2=0 then some ((GCase.mk 0 ([]) ([])),1)else laa (α:=Bool) (if¬t2<0 then some (decide (109572<t2))else some true) λg=>if g=true then some ((GCase.mk 0 ([]) ([])),3)else(idx t0.Scopes t1.Scope).bind λi=>(xe t1.Facts (-1) (i.Inputs.length:Int) t2 c).bind λf=>if f.2=false then some ((GCase.mk 0 ([]) ([])),6)else(kd t0 t1.Scope).bind λd=>(bh t1 t2 c).bind λe=>(ea (Nj t1 t2 c d e) (([]:List (List GValue)),0)).bind λy=>match y with |.inr v=>some v |.inl b=>some ((GCase.mk t2 f.1 b),0)
def ym(t0:GLaw) (t1:Int):Option (ByteArray×Int×(List GField)×(List GField)×(List GRule)×ByteArray×Int×(List GField)×(List GField)×(List GRule)×(List Bool)×(List Bool)):=(idx t0.Scopes t1).bind λa=>(py 1 false (a.Defs.length:Int) (a.Defs.length:Int)).bind λi=>laa (α:=(ByteArray×Int×(List GField)×(List GField)×(List GRule)×(List Bool))) (if 0<=a.MemberScope then(idx t0.Scopes a.MemberScope).bind λb=>(py 1 false (b.Defs.length:Int) (b.Defs.length:Int)).bind λj=>some (b.Name,b.MemberScope,b.Inputs,b.Defs,b.Rules,j)else some ((yaa #[]),0,([]:List GField),([]:List GField),([]:List GRule),([]:List Bool))) λ(g,h,c,d,e,f)=>some (a.Name,a.MemberScope,a.Inputs,a.Defs,a.Rules,g,h,c,d,e,i,f)
def Xk(c:List Int):((List Bool)×Int)->Option (Ex ((List Bool)×Int) (List Bool) Unit):=λ(a,b)=>if b<(c.length:Int)then (idx c b).bind λd=>(idx a d).bind λx33=>(put a d true).bind λe=>some (Ex.go (e,(aa .i64 (b+1))))else some (Ex.brk a)
def Vk(c:List Int):((List Bool)×Int)->Option (Ex ((List Bool)×Int) (List Bool) Unit):=λ(a,b)=>if b<(c.length:Int)then (idx c b).bind λd=>(idx a d).bind λx50=>(put a d true).bind λe=>some (Ex.go (e,(aa .i64 (b+1))))else some (Ex.brk a)
def Uh(d:ByteArray) (e:Int) (f:List GField) (g:List GField) (h:List GRule) (b:List Bool) (a:Int):Option (List Bool):=(idx b a).bind λx43=>(put b a true).bind λi=>(Xc (GScope.mk d e f g h) a).bind λj=>(ea (Vk j) (i,0)).bind λy=>match y with |.inr _=>none |.inl c=>some c
def Wk(d:ByteArray) (e:Int) (f:List GField) (g:List GField) (h:List GRule) (c:List Int):((List Bool)×Int)->Option (Ex ((List Bool)×Int) (List Bool) Unit):=λ(b,a)=>if a<(c.length:Int)then (idx c a).bind λj=>(Uh d e f g h b j).bind λi=>some (Ex.go (i,(aa .i64 (a+1))))else some (Ex.brk b)
def Uk(g:Int) (a:ByteArray) (b:Int) (c:List GField) (d:List GField) (e:List GRule) (j:ByteArray) (k:Int) (l:List GField) (m:List GField) (n:List GRule) (f:List Bool) (o:List Bool):Option ((List Bool)×(List Bool)):=(idx f g).bind λx26=>(put f g true).bind λp=>(Xc (GScope.mk a b c d e) g).bind λq=>(ea (Xk q) (p,0)).bind λy=>match y with |.inr _=>none |.inl h=>(Ai (GScope.mk a b c d e) g).bind λr=>(ea (Wk j k l m n r) (o,0)).bind λy=>match y with |.inr _=>none |.inl i=>some (h,i)
def fe(t0:GLaw) (t1:Int) (t2:GCase) (l:Int):Option (GValue×Int×GEvalError):=(Ec t0 t1 t2 true l).bind λs=>if¬s.Code=0 then some ((GValue.mk 0 0 0),0,s)else(ym t0 t1).bind λ(b,c,d,e,f,g,h,i,j,k,m,n)=>(Uk l b c d e f g h i j k m n).bind λ(o,p)=>(Tg t0 t1 t2 (GInterp_needs.mk (GScope.mk b c d e f) (GScope.mk g h i j k) o p)).bind λa=>if¬a.2.2.Code=0 then some ((GValue.mk 0 0 0),0,a.2.2)else(idx a.1.Values l).bind λq=>(idx a.1.Rules l).bind λr=>some (q,r,(GEvalError.mk 0 0 0 0))
def zi(t0:GLaw) (t1:GHousehold) (t2:GPayConfig) (e:List GDateRange) (f:Int):(Int×Int×Int)->Option (Ex (Int×Int×Int) (Int×Int) (Int×Int)):=λ(s1,s2,b)=>if b<(e.length:Int)then (idx e b).bind λa=>(Fh t0 t1 a.From f).bind λc=>if¬c.2=0 then some (Ex.ret (0,c.2))else(fe t0 t1.Scope c.1 t2.Def).bind λd=>if¬d.2.2.Code=0 then some (Ex.ret (0,d.2.2.Code))else some (Ex.go ((aa .i64 (s1+(aa .i64 (d.1.N*(aa .i64 (a.To-a.From)))))),(aa .i64 (s2+(aa .i64 (a.To-a.From)))),(aa .i64 (b+1))))else some (Ex.brk (s1,s2))
def Nn(t0:GLaw) (t1:GHousehold) (t2:GPayConfig) (d:List GDateRange) (e:Int):Option (Int×Int):=(ea (zi t0 t1 t2 d e) (0,0,0)).bind λy=>match y with |.inr v=>some v |.inl (b,c)=>(kf b c t2.Rounding).bind λa=>if¬a.2=0 then some (0,a.2)else some ((max a.1 0),0)
def cmp_isNaN_int(t0:Int):Option Bool:=some false
def cmp_Less_int(t0:Int) (t1:Int):Option Bool:=laa (α:=Bool) ((cmp_isNaN_int t0).bind λb=>if b=true then(cmp_isNaN_int t1).bind λc=>if c=true then some (decide (t0<t1))else some true else some (decide (t0<t1))) λa=>some a
def Jh(t0:Int):Option Bool:=some false
def qb(t0:List Int) (t1:Int):(Int×Int)->Option (Ex (Int×Int) Int Unit):=λ(s1,s2)=>if s1<s2 then(idx t0 (aa .i64 (Nae (aa .u64 (aa .i64 (s1+s2))) 2))).bind λa=>(cmp_Less_int a t1).bind λb=>if b=true then some (Ex.go ((aa .i64 ((aa .i64 (Nae (aa .u64 (aa .i64 (s1+s2))) 2))+1)),s2))else some (Ex.go (s1,(aa .i64 (Nae (aa .u64 (aa .i64 (s1+s2))) 2))))else some (Ex.brk s1)
def Sa(t0:List Int) (t1:Int):Option (Int×Bool):=(ea (qb t0 t1) (0,(t0.length:Int))).bind λy=>match y with |.inr _=>none |.inl b=>laa (α:=Bool) (if b<(t0.length:Int)then (idx t0 b).bind λa=>if¬a=t1 then(Jh a).bind λd=>if d=true then(Jh t1).bind λe=>some e else some false else some true else some false) λc=>some (b,c)
def Qo(t0:GDateRange) (t1:List Int):(Int×(List GDateRange)×Int)->Option (Ex (Int×(List GDateRange)×Int) (Int×(List GDateRange)) Unit):=λ(s2,c,a)=>laa (α:=Bool) (if a<(t1.length:Int)then (idx t1 a).bind λf=>some (decide (f<t0.To))else some false) λe=>if e=true then(idx t1 a).bind λd=>(app 16 c ([(GDateRange.mk s2 d)])).bind λb=>some (Ex.go (d,b,(aa .i64 (a+1))))else some (Ex.brk (s2,c))
def On(t0:GDateRange) (t1:List Int):Option (List GDateRange):=(Sa t1 (aa .i64 (t0.From+1))).bind λd=>(ea (Qo t0 t1) (t0.From,([]:List GDateRange),d.1)).bind λy=>match y with |.inr _=>none |.inl (a,b)=>(app 16 b ([(GDateRange.mk a t0.To)])).bind λc=>some c
def De(t0:List GDateRange):((List Int)×Int)->Option (Ex ((List Int)×Int) (List Int) Unit):=λ(s1,s2)=>if s2<(t0.length:Int)then laa (α:=(List Int)) ((idx t0 s2).bind λa=>(Gc a).bind λc=>if c=true then(app 8 s1 ([a.From,a.To])).bind λd=>some d else some s1) λb=>some (Ex.go (b,(aa .i64 (s2+1))))else some (Ex.brk s1)
def vg(t0:List GDateRange):Option (List Int):=(ea (De t0) (([]:List Int),0)).bind λy=>match y with |.inr _=>none |.inl a=>(Ja a).bind λb=>(Ca b).bind λc=>some c
def Ie(t0:List GFact) (t1:Int):((List GDateRange)×Int)->Option (Ex ((List GDateRange)×Int) (List GDateRange) Unit):=λ(s1,s2)=>if s2<(t0.length:Int)then laa (α:=(List GDateRange)) ((idx t0 s2).bind λb=>laa (α:=Bool) (if b.Recorded<=t1 then(gk b.Valid).bind λd=>some d else some false) λc=>if c=true then(app 16 s1 ([b.Valid])).bind λe=>some e else some s1) λa=>some (Ex.go (a,(aa .i64 (s2+1))))else some (Ex.brk s1)
def He(d:List Int):((List Int)×Int)->Option (Ex ((List Int)×Int) (List Int) Unit):=λ(a,b)=>if b<(d.length:Int)then laa (α:=(List Int)) ((idx d b).bind λc=>laa (α:=Bool) (if 1<=c then some (decide (c<=109572))else some false) λe=>if e=true then(app 8 a ([c])).bind λg=>some g else some a) λf=>some (Ex.go (f,(aa .i64 (b+1))))else some (Ex.brk a)
def Md(t0:List GFact) (t1:Int):Option (List Int):=(ea (Ie t0 t1) (([]:List GDateRange),0)).bind λy=>match y with |.inr _=>none |.inl a=>(vg a).bind λc=>(ea (He c) (([]:List Int),0)).bind λy=>match y with |.inr _=>none |.inl b=>some b
def xc(t0:Int):Option Bool:=laa (α:=Bool) (if¬t0<1 then some (decide (109572<t0))else some true) λa=>some a
def fg(c:GTable):((List GDateRange)×Int)->Option (Ex ((List GDateRange)×Int) (List GDateRange) Unit):=λ(b,a)=>if a<(c.Rows.length:Int)then (idx c.Rows a).bind λd=>(app 16 b ([d.Valid])).bind λe=>some (Ex.go (e,(aa .i64 (a+1))))else some (Ex.brk b)
def bc(t0:GLaw):((List GDateRange)×Int)->Option (Ex ((List GDateRange)×Int) (List GDateRange) Unit):=λ(s1,s2)=>if s2<(t0.Tables.length:Int)then (idx t0.Tables s2).bind λb=>(ea (fg b) (s1,0)).bind λy=>match y with |.inr _=>none |.inl a=>some (Ex.go (a,(aa .i64 (s2+1))))else some (Ex.brk s1)
def Lf(c:GScope):((List GDateRange)×Int)->Option (Ex ((List GDateRange)×Int) (List GDateRange) Unit):=λ(b,a)=>if a<(c.Rules.length:Int)then (idx c.Rules a).bind λd=>(app 16 b ([d.Valid])).bind λe=>some (Ex.go (e,(aa .i64 (a+1))))else some (Ex.brk b)
def Zb(t0:GLaw):((List GDateRange)×Int)->Option (Ex ((List GDateRange)×Int) (List GDateRange) Unit):=λ(b,a)=>if a<(t0.Scopes.length:Int)then (idx t0.Scopes a).bind λd=>(ea (Lf d) (b,0)).bind λy=>match y with |.inr _=>none |.inl c=>some (Ex.go (c,(aa .i64 (a+1))))else some (Ex.brk b)
def td(d:List GDateRange):((List Int)×Int)->Option (Ex ((List Int)×Int) (List Int) Unit):=λ(a,b)=>if b<(d.length:Int)then laa (α:=(List Int)) ((idx d b).bind λc=>(Gc c).bind λf=>if f=true then(app 8 a ([c.From,c.To])).bind λg=>some g else some a) λe=>some (Ex.go (e,(aa .i64 (b+1))))else some (Ex.brk a)
def cg(a:List GDateRange):Option (List Int):=(ea (td a) (([]:List Int),0)).bind λy=>match y with |.inr _=>none |.inl b=>(Ja b).bind λc=>(Ca c).bind λd=>some d
def vd(b:List Int):Int->Option (Ex Int Unit Int):=λa=>if a<(b.length:Int)then (idx b a).bind λc=>(xc c).bind λd=>if d=true then some (Ex.ret a)else some (Ex.go (aa .i64 (a+1)))else some (Ex.brk ())
def xj(a:List Int):Option Int:=(ea (vd a) 0).bind λy=>match y with |.inr v=>some v |.inl _=>some (-1)
def xd  : ((List Int)×Int×Int)->Option (Ex ((List Int)×Int×Int) ((List Int)×Int) Unit):=λ(a,b,c)=>if c<(a.length:Int)then laa (α:=((List Int)×Int)) ((idx a c).bind λd=>(xc d).bind λg=>if g=false then(idx a b).bind λx60=>(put a b d).bind λh=>some (h,(aa .i64 (b+1)))else some (a,b)) λ(e,f)=>some (Ex.go (e,f,(aa .i64 (c+1))))else some (Ex.brk (a,b))
def eg(a:List Int):Option ((List Int)×(List Int)):=(xj a).bind λc=>if c=(-1)then some (a,a)else(ea xd (a,c,(aa .i64 (c+1)))).bind λy=>match y with |.inr _=>none |.inl (d,b)=>(oA d b).bind λf=>(E8 d b f 0).bind λe=>(Fq e b).bind λg=>some (e,g)
def Pf(t0:GLaw):Option (List Int):=(ea (bc t0) (([]:List GDateRange),0)).bind λy=>match y with |.inr _=>none |.inl a=>(ea (Zb t0) (a,0)).bind λy=>match y with |.inr _=>none |.inl b=>(cg b).bind λc=>(eg c).bind λ(i72,d)=>some d
def qg(c:(List (List Int))):(Int×Int)->Option (Ex (Int×Int) Int Unit):=λ(a,b)=>if b<(c.length:Int)then (idx c b).bind λd=>if(aa .i64 (a+(d.length:Int)))<0 then none else some (Ex.go ((aa .i64 (a+(d.length:Int))),(aa .i64 (b+1))))else some (Ex.brk a)
def lg(a:Int):Option (List Int):=if a<0 then none else laa (α:=(List Int)) (if 0<(aa .i64 (a-(aa .i64 (0-0))))then (mka 8 0 (aa .i64 (a-(aa .i64 (0-0))))).bind λc=>(Fq c 0).bind λd=>some d else some ([]:List Int)) λb=>some b
def og(e:(List (List Int))):((List Int)×Int)->Option (Ex ((List Int)×Int) (List Int) Unit):=λ(b,a)=>if a<(e.length:Int)then (idx e a).bind λc=>(app 8 b c).bind λd=>some (Ex.go (d,(aa .i64 (a+1))))else some (Ex.brk b)
def mg(d:(List (List Int))):Option (List Int):=(ea (qg d) (0,0)).bind λy=>match y with |.inr _=>none |.inl a=>(lg a).bind λc=>(ea (og d) (c,0)).bind λy=>match y with |.inr _=>none |.inl b=>some b
def Rb(t0:GLaw) (t1:GHousehold) (t2:Int):Option (List Int):=(Md t1.Facts t2).bind λd=>(Pf t0).bind λe=>(lst [d,e]).bind λf=>(mg f).bind λa=>(Ja a).bind λb=>(Ca b).bind λc=>some c
def jo(t0:List GNode):Option GLaw:=some (GLaw.mk ([]) ([]) ([(GScope.mk (yaa #[104,111,117,115,101]) (-1) ([(GField.mk (yaa #[97]) (GType.mk 3 0))]) ([(GField.mk (yaa #[100]) (GType.mk 3 0))]) ([(GRule.mk (yaa #[98,97,115,101]) 0 (-1) 0 (GDateRange.mk 0 109573) ([]) t0 (yaa #[]))]))]))
def wb(t0:GHousehold):Option Bool:=some (decide ((t0.Facts.length:Int)<=40))
def Wf(t0:GLaw) (t1:GHousehold) (t2:GPayConfig) (l:Int) (m:Int) (f:List Int):((List GAward)×Bool×Int)->Option (Ex ((List GAward)×Bool×Int) (List GAward) Unit):=λ(b,c,a)=>if a<l then laa (α:=(Bool×Int×Int)) ((Ds a).bind λd=>if¬d.2=0 then some (c,0,3)else if c=true then(On d.1 f).bind λj=>(Nn t0 t1 t2 j m).bind λe=>some (true,e.1,e.2)else some (false,0,1)) λ(g,h,i)=>(app 24 b ([(GAward.mk a h i)])).bind λk=>some (Ex.go (k,g,(aa .i64 (a+1))))else some (Ex.brk b)
def zb(t0:GLaw) (t1:GHousehold) (t2:GPayConfig) (a:Int) (b:Int) (f:Int):Option (List GAward):=laa (α:=Bool) (if¬a<0 then if¬b<a then if¬3600<b then some (decide (120<(aa .i64 (b-a))))else some true else some true else some true) λg=>if g=true then some ([])else(py 24 (GAward.mk 0 0 0) 0 (aa .i64 (b-a))).bind λx6=>(qc t0 t1 t2).bind λh=>laa (α:=(Bool×(List Int))) (if h=true then(Rb t0 t1 f).bind λi=>some (true,i)else some (false,([]:List Int))) λ(d,e)=>(ea (Wf t0 t1 t2 b f e) (([]:List GAward),d,a)).bind λy=>match y with |.inr _=>none |.inl c=>some c
def Mg(t0:GAccount):Option Bool:=laa (α:=Bool) ((wb t0.Household).bind λb=>if b=true then if(t0.Postings.length:Int)<=200 then some (decide ((t0.Appeals.length:Int)<=20))else some false else some false) λa=>some a
def Jk(t0:GPayConfig) (t1:Int):Option Bool:=laa (α:=Bool) (if 0<=t0.FirstMonth then if¬t1<t0.FirstMonth then some (decide ((aa .i64 (t1-t0.FirstMonth))<8))else some true else some false) λa=>some a
def Cp(t0:GLaw) (t1:GPayConfig) (t2:GAccount):Option Bool:=laa (α:=Bool) ((Dj t0).bind λb=>if b=true then(Hh t1).bind λc=>if c=true then(Mg t2).bind λd=>if d=true then(Jk t1 t2.LastMonth).bind λe=>some e else some false else some false else some false) λa=>some a
def Lx(p:GPosting):Int:=if p.Kind=1 then p.Cents else if p.Kind=2 then aa .i64 (-p.Cents)else if p.Kind=3 then aa .i64 (-p.Cents)else 0
def oE(m:Int) (l:List GPosting) (ks:List Int):Int:=ks.foldl (λs k=>(l.filter λp=>p.Kind==k).foldl (λs p=>if p.Month==m then aa .i64 (s+Lx p)else s) s) 0
def fb(t0:List GPosting) (t1:Int):Option Int:=if t0.length<=1099511627776 then some (oE t1 t0 [1,2,3])else none
def xh(t0:List GPosting) (t1:Int):Option Int:=if t0.length<=1099511627776 then some ((t0.filter λp=>p.Kind==4).foldl (λs p=>if p.Month==t1 then aa .i64 (s+p.Cents)else s) 0)else none
def ZQ(m:Int) (l:List GPosting):Int:=(l.filter λp=>p.Kind==4).foldl (λs p=>if p.Month==m then aa .i64 (s+p.Cents)else s) 0
def Pg(l:List GPosting) (w:GAward):GMonthBalance:=GMonthBalance.mk w.Month (if w.Code=0 then w.Cents else oE w.Month (l.filter λp=>p.Month==w.Month) [1,2,3]) (oE w.Month (l.filter λp=>p.Month==w.Month) [1,2,3]) (ZQ w.Month (l.filter λp=>p.Month==w.Month))
def Qm(t0:List GAward) (t1:List GPosting):Option (List GMonthBalance):=if t0.length<=1048576/\t1.length<=1048576/\(t0.map λw=>w.Month).Nodup then some (t0.map (Pg t1))else none
def Lg(t0:List GAppeal) (t1:Int):Int->Option (Ex Int Unit (Int×Bool)):=λs1=>if 0<=s1 then(idx t0 s1).bind λa=>laa (α:=Bool) (if a.State=3 then if a.From<=t1 then some (decide (t1<a.To))else some false else some false) λb=>if b=true then some (Ex.ret (a.Cents,true))else some (Ex.go (aa .i64 (s1-1)))else some (Ex.brk ())
def qn(t0:List GAppeal) (t1:Int):Option (Int×Bool):=(ea (Lg t0 t1) (aa .i64 ((t0.length:Int)-1))).bind λy=>match y with |.inr v=>some v |.inl _=>some (0,false)
def Gi(t0:List GAward) (t1:List GAppeal):((List GAward)×Int)->Option (Ex ((List GAward)×Int) (List GAward) Unit):=λ(s1,s2)=>if s2<(t0.length:Int)then (idx t0 s2).bind λa=>laa (α:=(Int×Int)) ((qn t1 a.Month).bind λb=>if b.2=true then some (b.1,0)else some (a.Cents,a.Code)) λ(c,d)=>(app 24 s1 ([(GAward.mk a.Month c d)])).bind λe=>some (Ex.go (e,(aa .i64 (s2+1))))else some (Ex.brk s1)
def pj(t0:List GAward) (t1:List GAppeal):Option (List GAward):=(ea (Gi t0 t1) (([]:List GAward),0)).bind λy=>match y with |.inr _=>none |.inl a=>some a
def ya(t0:GLaw) (t1:GPayConfig) (t2:GAccount) (a:Int) (d:Int):Option (List GMonthBalance):=laa (α:=Bool) (if¬a<t1.FirstMonth then some (decide (3599<a))else some true) λc=>if c=true then some ([])else(zb t0 t2.Household t1 t1.FirstMonth (aa .i64 (a+1)) d).bind λb=>if(b.length:Int)=0 then some ([])else(pj b t2.Appeals).bind λe=>(Qm e t2.Postings).bind λf=>some f
def Df(t0:GMonthBalance):Option Int:=some (max (aa .i64 (t0.Due-t0.Received)) 0)
def Jb(t0:GMonthBalance):Option Int:=some (max (aa .i64 ((aa .i64 (t0.Received-t0.Due))-t0.Waived)) 0)
def Mi(t0:List GMonthBalance):(Int×Int×Int)->Option (Ex (Int×Int×Int) (Int×Int) Unit):=λ(s1,s2,a)=>if a<(t0.length:Int)then (idx t0 a).bind λb=>(Df b).bind λc=>(Jb b).bind λd=>some (Ex.go ((aa .i64 (s1+c)),(aa .i64 (s2+d)),(aa .i64 (a+1))))else some (Ex.brk (s1,s2))
def Nh(t0:List GMonthBalance):Option (Int×Int):=(ea (Mi t0) (0,0,0)).bind λy=>match y with |.inr _=>none |.inl (a,b)=>some (a,b)
def Wa(t0:GLaw) (t1:GPayConfig) (t2:GAccount):Option Bool:=(ya t0 t1 t2 t2.LastMonth t2.Date).bind λc=>(Nh c).bind λa=>laa (α:=Bool) (if a.1=0 then some (a.2==0)else some false) λb=>some b
def WL(f t:Int) (l:List GPosting) (ks:List Int):Int:=ks.foldl (λs k=>(l.filter λp=>p.Kind==k).foldl (λs p=>if f<=p.Date/\p.Date<t then aa .i64 (s+Lx p)else s) s) 0
def Dp(t0:List GPosting) (t1:GDateRange):Option Int:=if t0.length<=1099511627776/\0<=t1.From/\t1.From<=t1.To/\t1.To<=109573 then some (WL t1.From t1.To t0 [1,2,3])else none
def Db(t0:GAccount):Option Int:=(Dp t0.Postings (GDateRange.mk 0 109573)).bind λa=>some a
def Qe(t0:List GPosting):((List Int)×Int)->Option (Ex ((List Int)×Int) (List Int) Unit):=λ(s1,s2)=>if s2<(t0.length:Int)then (idx t0 s2).bind λa=>(app 8 s1 ([a.Month])).bind λb=>some (Ex.go (b,(aa .i64 (s2+1))))else some (Ex.brk s1)
def wh(t0:List GPosting):Option (List Int):=(ea (Qe t0) (([]:List Int),0)).bind λy=>match y with |.inr _=>none |.inl b=>(Ja b).bind λc=>(Ca c).bind λa=>some a
def Rj(t0:Int):Option Bool:=laa (α:=Bool) (if 0<=t0 then some (decide (t0<=109572))else some false) λa=>some a
def xi(t0:GPayConfig) (t1:Int):Option Bool:=laa (α:=Bool) (if t0.FirstMonth<=t1 then some (decide (t1<=(min 3599 (aa .i64 ((aa .i64 (t0.FirstMonth+120))-1)))))else some false) λa=>some a
def Io(t0:GPosting):Option Int:=if t0.Kind=1 then some t0.Cents else laa (α:=Bool) (if t0.Kind=2 then some true else some (t0.Kind==3)) λa=>if a=true then some (aa .i64 (-t0.Cents))else some 0
def ai(t0:List GPosting):((List (Int×Int))×Int)->Option (Ex ((List (Int×Int))×Int) Unit (Int×Int)):=λ(s2,b)=>if b<(t0.length:Int)then (idx t0 b).bind λa=>laa (α:=Bool) (laa (α:=Bool) (if¬a.Date<0 then some (decide (109572<a.Date))else some true) λi=>if i=true then some true else laa (α:=Bool) (if¬a.Month<0 then some (decide (3599<a.Month))else some true) λd=>if d=true then some true else if¬a.Cents<1 then some (decide (1000000000000000<a.Cents))else some true) λe=>if e=true then some (Ex.ret (b,3))else laa (α:=Bool) (if¬a.Kind<1 then some (decide (4<a.Kind))else some true) λf=>if f=true then some (Ex.ret (b,1))else laa (α:=Bool) (if 0<b then(idx t0 (aa .i64 (b-1))).bind λh=>some (decide (a.Date<h.Date))else some false) λg=>if g=true then some (Ex.ret (b,9))else(Io a).bind λc=>if((Hz (jI a.Month (aa .i64 (((Hz s2 a.Month).getD 0)+c)) s2) a.Month).getD 0)<0 then some (Ex.ret (b,13))else some (Ex.go ((jI a.Month (aa .i64 (((Hz s2 a.Month).getD 0)+c)) s2),(aa .i64 (b+1))))else some (Ex.brk ())
def Kl(t0:List GPosting):Option (Int×Int):=if 4096<(t0.length:Int)then some (4096,4)else(ea (ai t0) (([]:List (Int×Int)),0)).bind λy=>match y with |.inr v=>some v |.inl _=>some (0,0)
def re(t0:Int) (t1:Int):Option Bool:=laa (α:=Bool) (if 0<=t0 then if t0<t1 then if t1<=3600 then some (decide ((aa .i64 (t1-t0))<=120))else some false else some false else some false) λa=>some a
def Rp(t0:GAppeal):Option Bool:=laa (α:=Bool) (if¬t0.Id<0 then(re t0.From t0.To).bind λe=>some (!e)else some true) λc=>if c=true then some false else laa (α:=Bool) (if¬t0.Filed<0 then if¬t0.Deadline<t0.Filed then some (decide (109572<t0.Deadline))else some true else some true) λd=>if d=true then some false else laa (α:=Bool) (if¬t0.State<1 then some (decide (6<t0.State))else some true) λa=>if a=true then some false else laa (α:=Bool) (if 0<=t0.Cents then if t0.Cents<=1000000000000000 then if¬t0.Cents=0 then some (t0.State==3)else some true else some false else some false) λb=>some b
def rm(t0:GAccount):Int->Option (Ex Int Unit Bool):=λs1=>if s1<(t0.Household.Facts.length:Int)then (idx t0.Household.Facts s1).bind λa=>if t0.Date<a.Recorded then some (Ex.ret false)else some (Ex.go (aa .i64 (s1+1)))else some (Ex.brk ())
def qm(t0:GAccount):Int->Option (Ex Int Unit Bool):=λa=>if a<(t0.Postings.length:Int)then (idx t0.Postings a).bind λb=>if t0.Date<b.Date then some (Ex.ret false)else some (Ex.go (aa .i64 (a+1)))else some (Ex.brk ())
def km(t0:GAccount):Int->Option (Ex Int Unit Bool):=λa=>if a<(t0.Appeals.length:Int)then (idx t0.Appeals a).bind λb=>if t0.Date<b.Filed then some (Ex.ret false)else some (Ex.go (aa .i64 (a+1)))else some (Ex.brk ())
def Pm(t0:GAccount):Option Bool:=(ea (rm t0) 0).bind λy=>match y with |.inr v=>some v |.inl _=>(ea (qm t0) 0).bind λy=>match y with |.inr v=>some v |.inl _=>(ea (km t0) 0).bind λy=>match y with |.inr v=>some v |.inl _=>some true
def Yg(t1:GPayConfig) (t2:GAccount) (c:List Int):Int->Option (Ex Int Unit Int):=λb=>if b<(c.length:Int)then (idx c b).bind λa=>laa (α:=Bool) (if¬a<t1.FirstMonth then some (decide (t2.LastMonth<a))else some true) λd=>if d=true then some (Ex.ret 3)else laa (α:=Bool) ((fb t2.Postings a).bind λf=>if¬1000000000000000<f then(xh t2.Postings a).bind λg=>some (decide (1000000000000000<g))else some true) λe=>if e=true then some (Ex.ret 3)else some (Ex.go (aa .i64 (b+1)))else some (Ex.brk ())
def Xg(t2:GAccount):Int->Option (Ex Int Unit Int):=λa=>if a<(t2.Appeals.length:Int)then (idx t2.Appeals a).bind λb=>laa (α:=Bool) ((Rp b).bind λd=>if d=true then some (b.Id !=a)else some true) λc=>if c=true then some (Ex.ret 13)else some (Ex.go (aa .i64 (a+1)))else some (Ex.brk ())
def Ae(t0:GLaw) (t1:GPayConfig) (t2:GAccount):Option Int:=(Fa t0 t2.Household.Scope t1).bind λf=>if¬f=0 then some 1 else(Rc t0 t2.Household).bind λd=>if¬d.2=0 then some d.2 else laa (α:=Bool) ((Rj t2.Date).bind λg=>if g=true then if¬t2.LastMonth=(-1)then (xi t1 t2.LastMonth).bind λh=>some (!h)else some false else some true) λe=>if e=true then some 3 else(Kl t2.Postings).bind λa=>if¬a.2=0 then some a.2 else(wh t2.Postings).bind λb=>(ea (Yg t1 t2 b) 0).bind λy=>match y with |.inr v=>some v |.inl _=>if 16<(t2.Appeals.length:Int)then some 4 else(ea (Xg t2) 0).bind λy=>match y with |.inr v=>some v |.inl _=>(Pm t2).bind λc=>if c=false then some 9 else some 0
def ra(t0:List GFact):Option (List GFact):=if t0.length<=1099511627776 then some t0 else none
def ab(t0:List GFact):Option (List GFact):=ra t0
def za(t0:List GPosting):Option (List GPosting):=if t0.length<=1099511627776 then some t0 else none
def La(t0:List GPosting):Option (List GPosting):=za t0
def Da(t0:List GAppeal):Option (List GAppeal):=if t0.length<=1099511627776 then some t0 else none
def Pa(t0:List GAppeal):Option (List GAppeal):=Da t0
def nh(h:Int) (g:List GMonthBalance):((List GPosting)×Int)->Option (Ex ((List GPosting)×Int) (List GPosting) Unit):=λ(d,e)=>if e<(g.length:Int)then laa (α:=(List GPosting)) ((idx g e).bind λa=>(Df a).bind λb=>if 0<b then(app 32 d ([(GPosting.mk h a.Month 1 b)])).bind λf=>some f else some d) λc=>some (Ex.go (c,(aa .i64 (e+1))))else some (Ex.brk d)
def mh(h:Int) (g:List GMonthBalance):((List GPosting)×Int)->Option (Ex ((List GPosting)×Int) (List GPosting) Unit):=λ(a,b)=>if b<(g.length:Int)then laa (α:=(List GPosting)) ((idx g b).bind λc=>(Jb c).bind λd=>if 0<d then(app 32 a ([(GPosting.mk h c.Month 3 d)])).bind λf=>some f else some a) λe=>some (Ex.go (e,(aa .i64 (b+1))))else some (Ex.brk a)
def Oj(t2:GAccount):Option ((List GFact)×(List GPosting)×(List GAppeal)):=(ab t2.Household.Facts).bind λa=>(La t2.Postings).bind λb=>(Pa t2.Appeals).bind λc=>some (a,b,c)
def Za(t0:GLaw) (t1:GPayConfig) (t2:GAccount) (a:Int):Option (GAccount×Int):=(Ae t0 t1 t2).bind λj=>if¬j=0 then some (t2,1)else laa (α:=Bool) (if¬a<0 then some (decide (109572<a))else some true) λi=>if i=true then some (t2,3)else if a<t2.Date then some (t2,9)else(ya t0 t1 t2 t2.LastMonth a).bind λh=>(ea (nh a h) (([]:List GPosting),0)).bind λy=>match y with |.inr _=>none |.inl c=>(ea (mh a h) (c,0)).bind λy=>match y with |.inr _=>none |.inl b=>if 4096<(aa .i64 ((t2.Postings.length:Int)+(b.length:Int)))then some (t2,4)else(Oj t2).bind λ(d,e,f)=>(app 32 e b).bind λg=>some ((GAccount.mk (GHousehold.mk t2.Household.Id t2.Household.Scope t2.Household.Members d) g f a t2.LastMonth),0)
def Wb  : Option Bool:=(jo ([(GNode.mk 7 0)])).bind λa=>(Za a (GPayConfig.mk 0 0 1 0 0 0 0 (GCalendar.mk 0 ([]))) (GAccount.mk (GHousehold.mk 0 0 0 ([(GFact.mk 0 (-1) 0 (GValue.mk 3 0 500) (GDateRange.mk 0 109573) 0)])) ([]) ([]) 3 0) 9).bind λb=>laa (α:=Bool) (if b.2=0 then(Wa a (GPayConfig.mk 0 0 1 0 0 0 0 (GCalendar.mk 0 ([]))) (GAccount.mk (GHousehold.mk 0 0 0 ([(GFact.mk 0 (-1) 0 (GValue.mk 3 0 500) (GDateRange.mk 0 109573) 0)])) ([]) ([]) 3 0)).bind λd=>if d=false then(Wa a (GPayConfig.mk 0 0 1 0 0 0 0 (GCalendar.mk 0 ([]))) b.1).bind λe=>if e=true then(Db b.1).bind λf=>some (f==500)else some false else some false else some false) λc=>some c
def Ak(t0:List GPosting) (t1:List GPosting):Int->Option (Ex Int Unit Bool):=λs2=>laa (α:=Bool) (if s2<(t0.length:Int)then some (decide (s2<(t1.length:Int)))else some false) λc=>if c=true then(idx t0 s2).bind λa=>(idx t1 s2).bind λb=>if¬(a.Date=b.Date/\a.Month=b.Month/\a.Kind=b.Kind/\a.Cents=b.Cents)then some (Ex.ret false)else some (Ex.go (aa .i64 (s2+1)))else some (Ex.brk ())
def Cj(t0:List GPosting) (t1:List GPosting):Option Bool:=if¬(t0.length:Int)=(t1.length:Int)then some false else(ea (Ak t0 t1) 0).bind λy=>match y with |.inr v=>some v |.inl _=>some true
def Sl(t0:List GFact) (t1:List GFact):Int->Option (Ex Int Unit Bool):=λs2=>laa (α:=Bool) (if s2<(t0.length:Int)then some (decide (s2<(t1.length:Int)))else some false) λc=>if c=true then(idx t0 s2).bind λa=>(idx t1 s2).bind λb=>if¬(a.Id=b.Id/\a.Member=b.Member/\a.Input=b.Input/\a.Value.Kind=b.Value.Kind/\a.Value.Enum=b.Value.Enum/\a.Value.N=b.Value.N/\a.Valid.From=b.Valid.From/\a.Valid.To=b.Valid.To/\a.Recorded=b.Recorded)then some (Ex.ret false)else some (Ex.go (aa .i64 (s2+1)))else some (Ex.brk ())
def ru(t0:List GFact) (t1:List GFact):Option Bool:=if¬(t0.length:Int)=(t1.length:Int)then some false else(ea (Sl t0 t1) 0).bind λy=>match y with |.inr v=>some v |.inl _=>some true
def sq(t0:GHousehold) (t1:GHousehold):Option Bool:=laa (α:=Bool) (if t0.Id=t1.Id then if t0.Scope=t1.Scope then if t0.Members=t1.Members then(ru t0.Facts t1.Facts).bind λb=>some b else some false else some false else some false) λa=>some a
def Nl(t0:List GAppeal) (t1:List GAppeal):Int->Option (Ex Int Unit Bool):=λs2=>laa (α:=Bool) (if s2<(t0.length:Int)then some (decide (s2<(t1.length:Int)))else some false) λc=>if c=true then(idx t0 s2).bind λa=>(idx t1 s2).bind λb=>if¬(a.Id=b.Id/\a.From=b.From/\a.To=b.To/\a.Filed=b.Filed/\a.Deadline=b.Deadline/\a.State=b.State/\a.Cents=b.Cents)then some (Ex.ret false)else some (Ex.go (aa .i64 (s2+1)))else some (Ex.brk ())
def rq(t0:List GAppeal) (t1:List GAppeal):Option Bool:=if¬(t0.length:Int)=(t1.length:Int)then some false else(ea (Nl t0 t1) 0).bind λy=>match y with |.inr v=>some v |.inl _=>some true
def qq(t0:GAccount) (t1:GAccount):Option Bool:=laa (α:=Bool) ((sq t0.Household t1.Household).bind λb=>if b=true then(Cj t0.Postings t1.Postings).bind λc=>if c=true then(rq t0.Appeals t1.Appeals).bind λd=>if d=true then if t0.Date=t1.Date then some (t0.LastMonth==t1.LastMonth)else some false else some false else some false else some false) λa=>some a
def Dd(f:(GAccount×Int)) (c:List Int):(Int×Int)->Option (Ex (Int×Int) Int Unit):=λ(b,a)=>if a<(c.length:Int)then (idx c a).bind λd=>(fb f.1.Postings d).bind λe=>some (Ex.go ((aa .i64 (b+e)),(aa .i64 (a+1))))else some (Ex.brk b)
def ef(t0:GLaw) (t1:GPayConfig) (t2:GAccount) (i:Int):Option Bool:=(Cp t0 t1 t2).bind λk=>if k=false then(Wb).bind λl=>some l else(Za t0 t1 t2 i).bind λa=>if¬a.2=0 then laa (α:=Bool) ((qq a.1 t2).bind λm=>if m=true then(Wb).bind λn=>some n else some false) λj=>some j else(wh a.1.Postings).bind λd=>(ea (Dd a d) (0,0)).bind λy=>match y with |.inr _=>none |.inl b=>laa (α:=Bool) ((Ae t0 t1 a.1).bind λe=>if e=0 then(Wa t0 t1 a.1).bind λf=>if f=true then(Db a.1).bind λg=>if g=b then if a.1.Date=i then(Wb).bind λh=>some h else some false else some false else some false else some false) λc=>some c
def gn(t0:GAccount):Int->Option (Ex Int Unit Bool):=λs1=>if s1<(t0.Postings.length:Int)then (idx t0.Postings s1).bind λa=>if a.Kind=4 then some (Ex.ret false)else some (Ex.go (aa .i64 (s1+1)))else some (Ex.brk ())
def dn(t0:GAccount):Option Bool:=(ea (gn t0) 0).bind λy=>match y with |.inr v=>some v |.inl _=>some ((t0.Appeals.length:Int)==0)
def Ac(t2:GAccount) (d:List GAward):Int->Option (Ex Int Unit Bool):=λb=>if b<(d.length:Int)then laa (α:=Bool) ((idx d b).bind λc=>if c.Code=0 then(fb t2.Postings c.Month).bind λe=>some (e !=c.Cents)else some false) λa=>if a=true then some (Ex.ret false)else some (Ex.go (aa .i64 (b+1)))else some (Ex.brk ())
def We(t0:GLaw) (t1:GPayConfig) (t2:GAccount):Option Bool:=(zb t0 t2.Household t1 t1.FirstMonth (aa .i64 (t2.LastMonth+1)) t2.Date).bind λa=>laa (α:=Bool) (if t1.FirstMonth<=t2.LastMonth then some ((a.length:Int) !=(aa .i64 ((aa .i64 (t2.LastMonth+1))-t1.FirstMonth)))else some false) λb=>if b=true then some false else(ea (Ac t2 a) 0).bind λy=>match y with |.inr v=>some v |.inl _=>some true
def df(t0:GLaw) (t1:GPayConfig) (t2:GAccount) (f:Int):Option Bool:=laa (α:=Bool) ((Cp t0 t1 t2).bind λg=>if g=true then(dn t2).bind λh=>some (!h)else some true) λe=>if e=true then(Wb).bind λi=>some i else(Za t0 t1 t2 f).bind λd=>if¬d.2=0 then(Wb).bind λj=>some j else laa (α:=Bool) ((We t0 t1 d.1).bind λb=>if b=true then(Wb).bind λc=>some c else some false) λa=>some a
def Om(b:List GFact):(Int×Int)->Option (Ex (Int×Int) Int Unit):=λ(s2,a)=>if a<(b.length:Int)then (idx b a).bind λc=>some (Ex.go ((max s2 c.Recorded),(aa .i64 (a+1))))else some (Ex.brk s2)
def Cf(t0:GHousehold):Option GAccount:=(ra t0.Facts).bind λa=>(ea (Om a) (0,0)).bind λy=>match y with |.inr _=>none |.inl b=>some (GAccount.mk (GHousehold.mk t0.Id t0.Scope t0.Members a) ([]) ([]) b (-1))
def rf(t0:List GAppeal):((List Int)×Int)->Option (Ex ((List Int)×Int) (List Int) Unit):=λ(s2,d)=>if d<(t0.length:Int)then laa (α:=(List Int)) ((idx t0 d).bind λa=>laa (α:=Bool) (if¬a.State=1 then some (a.State !=2)else some false) λh=>if h=true then some s2 else if(max a.From 0)<(min a.To 3600)then (idx s2 (max a.From 0)).bind λe=>(put s2 (max a.From 0) (aa .i64 (e+1))).bind λb=>(idx b (min a.To 3600)).bind λf=>(put b (min a.To 3600) (aa .i64 (f-1))).bind λg=>some g else some s2) λc=>some (Ex.go (c,(aa .i64 (d+1))))else some (Ex.brk s2)
def qf(e:List Int):((List Int)×Int×Int)->Option (Ex ((List Int)×Int×Int) (List Int) Unit):=λ(b,c,a)=>if a<3600 then laa (α:=((List Int)×Int)) ((idx e a).bind λd=>if 0<(aa .i64 (c+d))then (app 8 b ([a])).bind λh=>some (h,(aa .i64 (c+d)))else some (b,(aa .i64 (c+d)))) λ(f,g)=>some (Ex.go (f,g,(aa .i64 (a+1))))else some (Ex.brk b)
def ib(t0:List GAppeal):Option (List Int):=(py 8 0 3601 3601).bind λc=>(ea (rf t0) (c,0)).bind λy=>match y with |.inr _=>none |.inl a=>(ea (qf a) (([]:List Int),0,0)).bind λy=>match y with |.inr _=>none |.inl b=>some b
def mf(t0:Int) (t1:GPayConfig):Option Int:=if t0<1 then some 0 else(kp t0 t1.RecoveryCap 0).bind λa=>if¬a.2=0 then some 0 else some (max (min (aa .i64 (t0-(max t1.RecoveryFloor 0))) a.1) 0)
def xk(a:List Int):((List (Int×Bool))×Int)->Option (Ex ((List (Int×Bool))×Int) (List (Int×Bool)) Unit):=λ(s1,s2)=>if s2<(a.length:Int)then (idx a s2).bind λb=>some (Ex.go ((jI b true s1),(aa .i64 (s2+1))))else some (Ex.brk s1)
def Zf(m:Int) (l:(List (Int×Bool))):(Int×(List GPosting)×(List GMonthBalance))->Option (Ex (Int×(List GPosting)×(List GMonthBalance)) (Int×(List GPosting)) Unit):=λ(e,a,b)=>laa (α:=Bool) (if 0<(b.length:Int)then some (decide (0<e))else some false) λf=>if f=true then laa (α:=(Int×(List GPosting))) ((idx b 0).bind λc=>(Jb c).bind λd=>laa (α:=Bool) (if¬d<=0 then some ((Hz l c.Month).getD false)else some true) λg=>if g=true then some (e,a)else(app 32 a ([(GPosting.mk m c.Month 2 (min d e))])).bind λj=>some ((aa .i64 (e-(min d e))),j)) λ(h,i)=>(oA b 1).bind λk=>some (Ex.go (h,i,k))else some (Ex.brk (e,a))
def mr(t0:List GMonthBalance) (d:Int) (c:(List (Int×Bool))) (e:Int):Option ((List GPosting)×Int):=(ea (Zf d c) (e,([]:List GPosting),t0)).bind λy=>match y with |.inr _=>none |.inl (a,b)=>some (b,a)
def Ir(t0:List GMonthBalance) (t1:Int) (t2:GPayConfig) (c:Int) (d:List Int):Option (List GPosting):=(ea (xk d) (([]:List (Int×Bool)),0)).bind λy=>match y with |.inr _=>none |.inl b=>(mf t1 t2).bind λe=>(mr t0 c b e).bind λ(a,i30)=>some a
def mn(t0:List GMonthBalance) (t1:Int) (h:Int):((List GPosting)×Int×Int)->Option (Ex ((List GPosting)×Int×Int) ((List GPosting)×Int) Unit):=λ(s1,s2,c)=>if c<(t0.length:Int)then laa (α:=((List GPosting)×Int)) ((idx t0 c).bind λe=>(Df e).bind λf=>laa (α:=Bool) (if¬t1<e.Month then some (decide (f<=0))else some true) λg=>if g=true then some (s1,s2)else(app 32 s1 ([(GPosting.mk h e.Month 1 f)])).bind λd=>some (d,(aa .i64 (s2+f)))) λ(a,b)=>some (Ex.go (a,b,(aa .i64 (c+1))))else some (Ex.brk (s1,s2))
def Gs(t0:List GMonthBalance) (t1:Int) (t2:GPayConfig) (e:Int) (f:List Int):Option (List GPosting):=(ea (mn t0 t1 e) (([]:List GPosting),0,0)).bind λy=>match y with |.inr _=>none |.inl (a,b)=>(Ir t0 b t2 e f).bind λc=>(app 32 a c).bind λd=>some d
def th(t0:Int):Option Bool:=laa (α:=Bool) (if 0<=t0 then some (decide (t0<=109572))else some false) λa=>some a
def Gt(t0:Int):Option Int:=(Rk t0).bind λa=>if a=false then some (-1)else some (Dab t0 7)
def Po(t0:GCalendar) (t1:Int):Option Bool:=(Gt t1).bind λa=>(shrO t0.Weekend a).bind λb=>if¬(WZ b 1)=0 then some false else(Sa t0.Holidays t1).bind λc=>some (!c.2)
def Bq(t0:GCalendar):(Int×Int)->Option (Ex (Int×Int) Unit (Int×Int)):=λ(s1,s2)=>if s1<=109572 then laa (α:=(Int⊕(Ex (Int×Int) Unit (Int×Int)))) ((Po t0 s1).bind λb=>if b=false then some (Sum.inl s2)else if(aa .i64 (s2-1))=0 then some (Sum.inr (Ex.ret (s1,0)))else some (Sum.inl (aa .i64 (s2-1)))) λz=>match z with |.inr v=>some v |.inl a=>some (Ex.go ((aa .i64 (s1+1)),a))else some (Ex.brk ())
def Ip(t0:GCalendar) (t1:Int) (t2:Int):Option (Int×Int):=(ea (Bq t0) (t1,t2)).bind λy=>match y with |.inr v=>some v |.inl _=>some (0,6)
def Mt(t0:GCalendar) (t1:Int):Option (Int×Int):=(je t0).bind λb=>if b=false then some (0,1)else(Vd t1).bind λc=>if c=false then some (0,3)else(Ip t0 t1 1).bind λa=>some (a.1,a.2)
def Ps(t0:GCalendar) (t1:Int) (t2:Int):Option (Int×Int):=(je t0).bind λd=>if d=false then some (0,1)else laa (α:=Bool) ((Vd t1).bind λe=>if e=true then if¬t2<0 then some (decide (365<t2))else some true else some true) λc=>if c=true then some (0,3)else if t2=0 then(Mt t0 t1).bind λb=>some (b.1,b.2)else(Ip t0 (aa .i64 (t1+1)) t2).bind λa=>some (a.1,a.2)
def Sj(t0:GCalendar) (t1:Int) (t2:Int):Option Int:=(Ps t0 t1 t2).bind λa=>if¬a.2=0 then some 109572 else some a.1
def Qr(t0:Int) (t1:Int) (t2:Int) (a:Int) (f:Int) (b:GPayConfig):Option (GAppeal×Int):=laa (α:=Bool) (if¬t0<0 then(th a).bind λk=>if k=true then(th f).bind λl=>if l=true then(re t1 t2).bind λm=>some (!m)else some true else some true else some true) λj=>if j=true then some ((GAppeal.mk 0 0 0 0 0 0 0),3)else if a<f then some ((GAppeal.mk 0 0 0 0 0 0 0),14)else laa (α:=Bool) ((je b.Calendar).bind λg=>if g=true then if¬b.AppealDays<0 then some (decide (365<b.AppealDays))else some true else some true) λc=>if c=true then some ((GAppeal.mk 0 0 0 0 0 0 0),1)else laa (α:=(Int×Int)) ((Sj b.Calendar f b.AppealDays).bind λh=>if h<a then some (a,6)else(Sj b.Calendar a 60).bind λi=>some (i,1)) λ(d,e)=>some ((GAppeal.mk t0 t1 t2 a d e 0),0)
def Tj(t0:Int) (t1:Int):Option Bool:=if t0=1 then laa (α:=Bool) (if¬t1=2 then if¬t1=4 then some (t1==5)else some true else some true) λa=>some a else if t0=2 then laa (α:=Bool) (if¬t1=3 then if¬t1=4 then some (t1==5)else some true else some true) λb=>some b else some false
def Li(t0:GAppeal) (t1:Int) (t2:Int) (b:Int):Option (GAppeal×Int):=(Tj t0.State t1).bind λd=>if d=false then some ((GAppeal.mk 0 0 0 0 0 0 0),13)else if b<t0.Filed then some ((GAppeal.mk 0 0 0 0 0 0 0),9)else laa (α:=Bool) (if t0.Deadline<b then if¬t1=2 then some (t1==3)else some true else some false) λc=>if c=true then some ((GAppeal.mk 0 0 0 0 0 0 0),14)else laa (α:=Bool) (if¬t2<0 then if¬1000000000000000<t2 then if¬t2=0 then some (t1 !=3)else some false else some true else some true) λa=>if a=true then some ((GAppeal.mk 0 0 0 0 0 0 0),3)else some ((GAppeal.mk t0.Id t0.From t0.To t0.Filed t0.Deadline t1 t2),0)
def nf(t2:Int):(Int×(List GPosting)×(List GMonthBalance))->Option (Ex (Int×(List GPosting)×(List GMonthBalance)) (Int×(List GPosting)) Unit):=λ(s2,d,e)=>laa (α:=Bool) (if 0<(e.length:Int)then some (decide (0<s2))else some false) λj=>if j=true then laa (α:=(Int×(List GPosting))) ((idx e 0).bind λi=>(Jb i).bind λh=>laa (α:=Bool) (if¬h<=0 then some false else some true) λa=>if a=true then some (s2,d)else(app 32 d ([(GPosting.mk t2 i.Month 3 (min h s2))])).bind λf=>some ((aa .i64 (s2-(min h s2))),f)) λ(b,c)=>(oA e 1).bind λg=>some (Ex.go (b,c,g))else some (Ex.brk (s2,d))
def pq(t0:List GMonthBalance) (t1:Int) (t2:Int):Option ((List GPosting)×Int):=(ea (nf t2) (t1,([]:List GPosting),t0)).bind λy=>match y with |.inr _=>none |.inl (a,b)=>some (b,a)
def pn(t0:List GMonthBalance) (t1:Int) (t2:Int):Option ((List GPosting)×Int):=if t1<1 then some ([],0)else(pq t0 t1 t2).bind λ(a,b)=>some (a,b)
def jb(t0:List GMonthBalance) (t1:(GMonthBalance->Option Bool)):Int->Option (Ex Int Unit Int):=λs1=>if s1<(t0.length:Int)then (idx t0 s1).bind λa=>(t1 a).bind λb=>if b=true then some (Ex.ret s1)else some (Ex.go (aa .i64 (s1+1)))else some (Ex.brk ())
def ua(t0:List GMonthBalance) (t1:(GMonthBalance->Option Bool)):Option Int:=(ea (jb t0 t1) 0).bind λy=>match y with |.inr v=>some v |.inl _=>some (-1)
def Ib(t0:GMonthBalance) (t1:GEvent):Option Bool:=some (t0.Month==t1.Month)
def Gn(t2:GAccount):Option ((List GFact)×(List GPosting)×(List GAppeal)):=(ab t2.Household.Facts).bind λa=>(La t2.Postings).bind λb=>(Pa t2.Appeals).bind λc=>some (a,b,c)
def Hn(t0:GLaw) (t2:GAccount) (b:GEvent) (d:List GFact):Option ((List GFact)×Int):=if¬b.Fact.Recorded=b.Date then some (d,1)else(app 72 d ([b.Fact])).bind λa=>(Rc t0 (GHousehold.mk t2.Household.Id t2.Household.Scope t2.Household.Members a)).bind λc=>some (a,c.2)
def Jn(a:List GPosting) (b:List GPosting):Option ((List GPosting)×Int):=if 4096<(aa .i64 ((a.length:Int)+(b.length:Int)))then some (a,4)else(app 32 a b).bind λc=>some (c,0)
def Qj(t0:GLaw) (t1:GPayConfig) (t2:GAccount) (b:GEvent) (j:List GFact) (a:List GPosting) (c:List GAppeal):Option ((List GPosting)×Int×Int):=(xi t1 b.Month).bind λf=>if f=false then some (a,t2.LastMonth,3)else if b.Month<t2.LastMonth then some (a,t2.LastMonth,9)else(ya t0 t1 (GAccount.mk (GHousehold.mk t2.Household.Id t2.Household.Scope t2.Household.Members j) a c t2.Date t2.LastMonth) b.Month b.Date).bind λg=>(ib c).bind λh=>(Gs g b.Month t1 b.Date h).bind λi=>(Jn a i).bind λ(d,e)=>some (d,b.Month,e)
def Kn(t1:GPayConfig) (c:GEvent) (a:List GAppeal):Option ((List GAppeal)×Int):=if 16<=(a.length:Int)then some (a,4)else(Qr (a.length:Int) c.Month c.ToMonth c.Date c.Notice t1).bind λb=>if¬b.2=0 then some (a,b.2)else(app 56 a ([b.1])).bind λd=>some (d,0)
def Ln(b:GEvent) (a:List GAppeal):Option ((List GAppeal)×Int):=laa (α:=Bool) (if¬b.Appeal<0 then some (decide ((a.length:Int)<=b.Appeal))else some true) λd=>if d=true then some (a,6)else(idx a b.Appeal).bind λe=>(Li e b.State b.Cents b.Date).bind λc=>if¬c.2=0 then some (a,c.2)else(put a b.Appeal c.1).bind λf=>some (f,0)
def Mn(a:List GPosting) (b:((List GPosting)×Int)):Option ((List GPosting)×Int):=if 4096<(aa .i64 ((a.length:Int)+(b.1.length:Int)))then some (a,4)else(app 32 a b.1).bind λc=>some (c,0)
def fm(t0:GLaw) (t1:GPayConfig) (t2:GAccount) (b:GEvent) (i:List GFact) (a:List GPosting) (d:List GAppeal):Option ((List GPosting)×Int):=laa (α:=Bool) (if¬b.Cents<1 then some (decide (1000000000000000<b.Cents))else some true) λg=>if g=true then some (a,3)else(ya t0 t1 (GAccount.mk (GHousehold.mk t2.Household.Id t2.Household.Scope t2.Household.Members i) a d t2.Date t2.LastMonth) t2.LastMonth b.Date).bind λh=>(pn h b.Cents b.Date).bind λc=>if 0<c.2 then some (a,3)else(Mn a c).bind λ(e,f)=>some (e,f)
def gm(b:GEvent) (a:List GPosting):Option ((List GPosting)×Int):=if 4096<(aa .i64 ((a.length:Int)+1))then some (a,4)else(app 32 a ([(GPosting.mk b.Date b.Month 4 b.Cents)])).bind λc=>some (c,0)
def im(t0:GLaw) (t1:GPayConfig) (t2:GAccount) (b:GEvent) (l:List GFact) (a:List GPosting) (f:List GAppeal):Option ((List GPosting)×Int):=laa (α:=Bool) (if¬b.Cents<1 then some (decide (1000000000000000<b.Cents))else some true) λi=>if i=true then some (a,3)else(ya t0 t1 (GAccount.mk (GHousehold.mk t2.Household.Id t2.Household.Scope t2.Household.Members l) a f t2.Date t2.LastMonth) t2.LastMonth b.Date).bind λc=>(ua c (λe=>Ib e b)).bind λd=>if d<0 then some (a,6)else(idx c d).bind λj=>(Jb j).bind λk=>if k<b.Cents then some (a,3)else(gm b a).bind λ(g,h)=>some (g,h)
def Qb(t0:GLaw) (t1:GPayConfig) (t2:GAccount) (c:GEvent):Option (GAccount×Int):=(Ae t0 t1 t2).bind λw=>if¬w=0 then some (t2,1)else(Rj c.Date).bind λx=>if x=false then some (t2,3)else if c.Date<t2.Date then some (t2,9)else(Gn t2).bind λ(d,b,a)=>laa (α:=((List GFact)×(List GPosting)×(List GAppeal)×Int×Int)) (if c.Kind=1 then(Hn t0 t2 c d).bind λ(f,g)=>some (f,b,a,t2.LastMonth,g)else if c.Kind=2 then(Qj t0 t1 t2 c d b a).bind λ(h,i,j)=>some (d,h,a,i,j)else if c.Kind=3 then(Kn t1 c a).bind λ(k,l)=>some (d,b,k,t2.LastMonth,l)else if c.Kind=4 then(Ln c a).bind λ(m,n)=>some (d,b,m,t2.LastMonth,n)else if c.Kind=5 then(fm t0 t1 t2 c d b a).bind λ(o,p)=>some (d,o,a,t2.LastMonth,p)else if c.Kind=6 then(im t0 t1 t2 c d b a).bind λ(q,r)=>some (d,q,a,t2.LastMonth,r)else some (d,b,a,t2.LastMonth,1)) λ(s,t,u,v,e)=>if¬e=0 then some (t2,e)else some ((GAccount.mk (GHousehold.mk t2.Household.Id t2.Household.Scope t2.Household.Members s) t u c.Date v),0)
def Ik  : Option Bool:=(jo ([(GNode.mk 7 0)])).bind λb=>(Cf (GHousehold.mk 0 0 0 ([(GFact.mk 0 (-1) 0 (GValue.mk 3 0 500) (GDateRange.mk 0 109573) 0)]))).bind λc=>(Qb b (GPayConfig.mk 0 0 1 0 0 0 0 (GCalendar.mk 0 ([]))) c (GEvent.mk 2 9 0 0 0 0 0 0 (GFact.mk 0 0 0 (GValue.mk 0 0 0) (GDateRange.mk 0 0) 0))).bind λa=>(Qb b (GPayConfig.mk 0 0 1 0 0 0 0 (GCalendar.mk 0 ([]))) c (GEvent.mk 0 9 0 0 0 0 0 0 (GFact.mk 0 0 0 (GValue.mk 0 0 0) (GDateRange.mk 0 0) 0))).bind λe=>laa (α:=Bool) (if a.2=0 then if e.2=1 then if a.1.LastMonth=0 then(Cj a.1.Postings ([(GPosting.mk 9 0 1 500)])).bind λf=>some f else some false else some false else some false) λd=>some d
def ts(t0:GLaw) (t1:GPayConfig) (t2:GAccount):Option Bool:=laa (α:=Bool) ((Dj t0).bind λb=>if b=true then(Hh t1).bind λc=>if c=true then(Mg t2).bind λd=>some d else some false else some false) λa=>some a
def js(t0:GPayConfig) (t1:Int):Option Bool:=laa (α:=Bool) (if¬t1<t0.FirstMonth then if 0<=t1 then some (decide ((aa .i64 (t1-t0.FirstMonth))<8))else some false else some true) λa=>some a
def Oe(b:List GMonthBalance):Int->Option (Ex Int Unit Bool):=λa=>if a<(b.length:Int)then (idx b a).bind λc=>(Df c).bind λd=>if¬d=0 then some (Ex.ret false)else some (Ex.go (aa .i64 (a+1)))else some (Ex.brk ())
def Ke(b:List Int) (c:GPosting):Int->Option (Ex Int Unit ((Int×Int)⊕(Ex (Int×Int×Int) (Int×Int) Bool))):=λa=>if a<(b.length:Int)then (idx b a).bind λd=>if d=c.Month then some (Ex.ret (Sum.inr (Ex.ret false)))else some (Ex.go (aa .i64 (a+1)))else some (Ex.brk ())
def Me(h:(GAccount×Int)) (g:List Int):(Int×Int×Int)->Option (Ex (Int×Int×Int) (Int×Int) Bool):=λ(b,c,d)=>if d<(h.1.Postings.length:Int)then laa (α:=((Int×Int)⊕(Ex (Int×Int×Int) (Int×Int) Bool))) ((idx h.1.Postings d).bind λa=>if a.Kind=1 then some (Sum.inl ((aa .i64 (b+a.Cents)),c))else(ea (Ke g a) 0).bind λy=>match y with |.inr v=>some v |.inl _=>some (Sum.inl (b,(aa .i64 (c+a.Cents))))) λz=>match z with |.inr v=>some v |.inl (e,f)=>some (Ex.go (e,f,(aa .i64 (d+1))))else some (Ex.brk (b,c))
def Ag(t0:GLaw) (t1:GPayConfig) (t2:GAccount) (a:GEvent):Option Bool:=laa (α:=Bool) ((ts t0 t1 t2).bind λo=>if o=true then(js t1 a.Month).bind λp=>if p=false then some (decide (a.Month<=3599))else some false else some true) λn=>if n=true then(Ik).bind λq=>some q else(Qb t0 t1 t2 (GEvent.mk 2 a.Date a.Month a.ToMonth a.Notice a.Appeal a.State a.Cents a.Fact)).bind λd=>if¬d.2=0 then(Ik).bind λh=>some h else(ya t0 t1 d.1 a.Month a.Date).bind λc=>(ea (Oe c) 0).bind λy=>match y with |.inr v=>some v |.inl _=>laa (α:=Bool) (if¬(c.length:Int)=0 then if¬(d.1.Postings.length:Int)<(t2.Postings.length:Int)then (Fq d.1.Postings (t2.Postings.length:Int)).bind λi=>(Cj i t2.Postings).bind λj=>some (!j)else some true else some true) λf=>if f=true then some false else(ib t2.Appeals).bind λk=>(ea (Me d k) (0,0,(t2.Postings.length:Int))).bind λy=>match y with |.inr v=>some v |.inl (e,b)=>laa (α:=Bool) (if 0<=b then(mf e t1).bind λl=>if b<=l then(Ik).bind λm=>some m else some false else some false) λg=>some g
def vr(t0:GAccount):Option GAccount:=(ra t0.Household.Facts).bind λa=>(za t0.Postings).bind λb=>(Da t0.Appeals).bind λc=>some (GAccount.mk (GHousehold.mk t0.Household.Id t0.Household.Scope t0.Household.Members a) b c t0.Date t0.LastMonth)
def Gj(t0:GLaw) (t1:GPayConfig) (u:List GEvent):(Int×Int×Int×(List GFact)×(List GPosting)×(List GAppeal)×Int×Int×Int×Int)->Option (Ex (Int×Int×Int×(List GFact)×(List GPosting)×(List GAppeal)×Int×Int×Int×Int) (Int×Int×Int×(List GFact)×(List GPosting)×(List GAppeal)×Int×Int×Int) Unit):=λ(s2,m,n,o,p,q,r,s,b,c)=>if c<(u.length:Int)then laa (α:=(Int×Int×Int×(List GFact)×(List GPosting)×(List GAppeal)×Int×Int×Int)) ((idx u c).bind λt=>(Qb t0 t1 (GAccount.mk (GHousehold.mk s2 m n o) p q r s) t).bind λa=>if¬a.2=0 then some (s2,m,n,o,p,q,r,s,(aa .i64 (b+1)))else some (a.1.Household.Id,a.1.Household.Scope,a.1.Household.Members,a.1.Household.Facts,a.1.Postings,a.1.Appeals,a.1.Date,a.1.LastMonth,b)) λ(d,e,f,g,h,i,j,k,l)=>some (Ex.go (d,e,f,g,h,i,j,k,l,(aa .i64 (c+1))))else some (Ex.brk (s2,m,n,o,p,q,r,s,b))
def Ah(t0:GLaw) (t1:GPayConfig) (t2:GAccount) (k:List GEvent):Option (GAccount×Int):=(vr t2).bind λa=>(ea (Gj t0 t1 k) (a.Household.Id,a.Household.Scope,a.Household.Members,a.Household.Facts,a.Postings,a.Appeals,a.Date,a.LastMonth,0,0)).bind λy=>match y with |.inr _=>none |.inl (b,c,d,e,f,g,h,i,j)=>some ((GAccount.mk (GHousehold.mk b c d e) f g h i),j)
def dq(t0:GPayConfig) (t1:List GEvent):Int->Option (Ex Int Unit Bool):=λs1=>laa (α:=Bool) (if s1<(t1.length:Int)then some (decide (s1<20))else some false) λb=>if b=true then laa (α:=Bool) ((idx t1 s1).bind λa=>if a.Kind=2 then if a.Month<=3599 then(Jk t0 a.Month).bind λd=>some (!d)else some false else some false) λc=>if c=true then some (Ex.ret false)else some (Ex.go (aa .i64 (s1+1)))else some (Ex.brk ())
def Tt(t0:GPayConfig) (t1:List GEvent):Option Bool:=(ea (dq t0 t1) 0).bind λy=>match y with |.inr v=>some v |.inl _=>laa (α:=Bool) (if(t1.length:Int)<=12 then some (decide (0<=t0.FirstMonth))else some false) λa=>some a
def dh(t0:List GFact) (t1:List GFact) (s1:Int):(Bool×Int)->Option (Ex (Bool×Int) Bool Unit):=λ(d,c)=>if c<(t1.length:Int)then laa (α:=Bool) (if d=false then(idx t0 s1).bind λa=>(idx t1 c).bind λb=>some ((a.Id==b.Id)&&((a.Member==b.Member)&&((a.Input==b.Input)&&((a.Value.Kind==b.Value.Kind)&&((a.Value.Enum==b.Value.Enum)&&((a.Value.N==b.Value.N)&&((a.Valid.From==b.Valid.From)&&((a.Valid.To==b.Valid.To)&&(a.Recorded==b.Recorded)))))))))else some true) λe=>some (Ex.go (e,(aa .i64 (c+1))))else some (Ex.brk d)
def fh(t0:List GFact) (t1:List GFact):Int->Option (Ex Int Unit Bool):=λs1=>if s1<(t0.length:Int)then (ea (dh t0 t1 s1) (false,0)).bind λy=>match y with |.inr _=>none |.inl a=>if a=false then some (Ex.ret false)else some (Ex.go (aa .i64 (s1+1)))else some (Ex.brk ())
def Il(t0:List GFact) (t1:List GFact):Option Bool:=(ea (fh t0 t1) 0).bind λy=>match y with |.inr v=>some v |.inl _=>some ((t0.length:Int)==(t1.length:Int))
def Bb(e:(GAccount×Int)) (f:(GAccount×Int)) (c:List GAward):Int->Option (Ex Int Unit Bool):=λa=>if a<(c.length:Int)then (idx c a).bind λb=>laa (α:=Bool) (if b.Code=0 then(fb e.1.Postings b.Month).bind λg=>(fb f.1.Postings b.Month).bind λh=>some (g !=h)else some false) λd=>if d=true then some (Ex.ret false)else some (Ex.go (aa .i64 (a+1)))else some (Ex.brk ())
def Gd(t0:GLaw) (t1:GHousehold) (t2:List GEvent) (s:List GEvent):Option Bool:=laa (α:=Bool) ((Dj t0).bind λu=>if u=true then(wb t1).bind λw=>if w=true then(Tt (GPayConfig.mk 0 0 1 300000 0 1195 0 (GCalendar.mk 0 ([]))) t2).bind λx=>if x=true then(Tt (GPayConfig.mk 0 0 1 300000 0 1195 0 (GCalendar.mk 0 ([]))) s).bind λz=>some (!z)else some true else some true else some true) λt=>if t=true then(Wb).bind λg=>some g else(Cf t1).bind λh=>(Ah t0 (GPayConfig.mk 0 0 1 300000 0 1195 0 (GCalendar.mk 0 ([]))) h t2).bind λa=>(Cf t1).bind λi=>(Ah t0 (GPayConfig.mk 0 0 1 300000 0 1195 0 (GCalendar.mk 0 ([]))) i s).bind λb=>laa (α:=Bool) ((dn a.1).bind λj=>if j=true then(dn b.1).bind λk=>if k=true then if a.1.LastMonth=b.1.LastMonth then(Il a.1.Household.Facts b.1.Household.Facts).bind λl=>some (!l)else some true else some true else some true) λe=>if e=true then(Wb).bind λm=>some m else(Za t0 (GPayConfig.mk 0 0 1 300000 0 1195 0 (GCalendar.mk 0 ([]))) a.1 (max a.1.Date b.1.Date)).bind λc=>(Za t0 (GPayConfig.mk 0 0 1 300000 0 1195 0 (GCalendar.mk 0 ([]))) b.1 (max a.1.Date b.1.Date)).bind λd=>if¬c.2=d.2 then some false else if¬c.2=0 then(Wb).bind λn=>some n else(zb t0 c.1.Household (GPayConfig.mk 0 0 1 300000 0 1195 0 (GCalendar.mk 0 ([]))) 1195 (aa .i64 (c.1.LastMonth+1)) (max a.1.Date b.1.Date)).bind λo=>(ea (Bb c d o) 0).bind λy=>match y with |.inr v=>some v |.inl _=>laa (α:=Bool) ((We t0 (GPayConfig.mk 0 0 1 300000 0 1195 0 (GCalendar.mk 0 ([]))) c.1).bind λp=>if p=true then(We t0 (GPayConfig.mk 0 0 1 300000 0 1195 0 (GCalendar.mk 0 ([]))) d.1).bind λq=>if q=true then(Wb).bind λr=>some r else some false else some false) λf=>some f
end
end Go.Proofs.Dev
