/-
  The functions as plain partial functions, and plain lemmas about them: no condition.
-/
import Derived.Test.YtjjfnbpfgfopbaaGreatDoorEC
import Derived.Test.YtjjfnbpfgfopbaaGreatDoorED
import Derived.Lib.SlicesCompact
open Bool renaming and_self->Naa,and_true->Jaa
open ByteArray renaming mk->yaa
open Eq renaming trans->paa
open Int renaming fdiv->wae,tdiv->cab,tmod->Bab
open List renaming range->zaa
open Option renaming bind->oaa
set_option linter.all false
namespace Go.Tm
def yv:List Int->Int->List Int |[],n=>[n] |x::l,n=>if n<=x then(if n<x then n::x::l else x::l)else x::yv l n
def Ig(l:List Int):List Int:=l.foldl yv []
inductive ReachL (g:List (List Int)):Int->Int->Prop
 |one {a b:Int} {l:List Int} (h:g[a.toNat]?=some l) (hb:b∈l):ReachL g a b
 |step {a b c:Int} {l:List Int} (h:ReachL g a b) (hl:g[b.toNat]?=some l) (hc:c∈l):ReachL g a c
open Classical in
noncomputable def mF(g:List (List Int)) (a:Int):List Int:=((zaa g.length).map λ(k:Nat)=>(k:Int)).filter λb=>decide (ReachL g a b)
@[irreducible] def Kt:Nat:=1000000
def PK(g:List (List Int)) (out:List Int) (d:Nat):Bool:=!out.contains (d:Int)&&(g.getD d []).all λe=>out.contains e
def It(g:List (List Int)):Nat->List Int->List Int×Int |0,out=>(out,0) |n+1,out=>match (zaa g.length).find? (PK g out)with |some d=>It g n (out++[(d:Int)]) |none=>([],9)
def au(g:List (List Int)):List Int×Int:=It g g.length []
end Go.Tm
set_option maxHeartbeats 1000000
set_option maxRecDepth 100000
namespace Go.Proofs.Dev
open Go Go.Tm
def fj(x:ByteArray):D:=.v (.string x)
instance:Fr fj:=⟨λx=>by simp only[fj,la,fa,Fr.l,Naa,Jaa]⟩
theorem EY{x}:fj x=.v (.string x):=paa rfl rfl
def Dz(x:List ByteArray):D:=.sl 1 (x.map fj)
instance:Fr Dz:=⟨λx=>Fr.s _ x⟩
theorem IQ{x}:Dz x=.sl 1 (x.map fj):=paa rfl rfl
structure GEnum where
 Name:ByteArray
 Members:(List ByteArray)
def Nh(x:GEnum):D:=.agg [.v (.string x.Name),.sl 1 (x.Members.map fj)]
instance:Fr Nh:=⟨λx=>by simp only[Nh,la,fa,Fr.l,Naa,Jaa]⟩
theorem zQ{x}:Nh x=.agg [.v (.string x.Name),.sl 1 (x.Members.map fj)]:=paa rfl rfl
def gh(x:List GEnum):D:=.sl 2 (x.map Nh)
instance:Fr gh:=⟨λx=>Fr.s _ x⟩
theorem PJ{x}:gh x=.sl 2 (x.map Nh):=paa rfl rfl
def aa(x:Int):D:=.v (.int .i64 x)
instance:Fr aa:=⟨λx=>by simp only[aa,la,fa,Fr.l,Naa,Jaa]⟩
theorem DY{x}:aa x=.v (.int .i64 x):=paa rfl rfl
structure GType where
 Kind:Int
 Enum:Int
def vb(x:GType):D:=.agg [.v (.int .i64 x.Kind),.v (.int .i64 x.Enum)]
instance:Fr vb:=⟨λx=>by simp only[vb,la,fa,Fr.l,Naa,Jaa]⟩
theorem DQ{x}:vb x=.agg [.v (.int .i64 x.Kind),.v (.int .i64 x.Enum)]:=paa rfl rfl
structure GDateRange where
 From:Int
 To:Int
def za(x:GDateRange):D:=.agg [.v (.int .i64 x.From),.v (.int .i64 x.To)]
instance:Fr za:=⟨λx=>by simp only[za,la,fa,Fr.l,Naa,Jaa]⟩
theorem cE{x}:za x=.agg [.v (.int .i64 x.From),.v (.int .i64 x.To)]:=paa rfl rfl
structure GRow where
 Valid:GDateRange
 Lo:Int
 Hi:Int
 N:Int
def Cj(x:GRow):D:=.agg [.v (.int .i64 x.Valid.From),.v (.int .i64 x.Valid.To),.v (.int .i64 x.Lo),.v (.int .i64 x.Hi),.v (.int .i64 x.N)]
instance:Fr Cj:=⟨λx=>by simp only[Cj,la,fa,Fr.l,Naa,Jaa]⟩
theorem eU{x}:Cj x=.agg [.v (.int .i64 x.Valid.From),.v (.int .i64 x.Valid.To),.v (.int .i64 x.Lo),.v (.int .i64 x.Hi),.v (.int .i64 x.N)]:=paa rfl rfl
def Cu(x:List GRow):D:=.sl 5 (x.map Cj)
instance:Fr Cu:=⟨λx=>Fr.s _ x⟩
theorem yM{x}:Cu x=.sl 5 (x.map Cj):=paa rfl rfl
structure GTable where
 Name:ByteArray
 Key:GType
 Value:GType
 Rows:(List GRow)
def Qb(x:GTable):D:=.agg [.v (.string x.Name),.v (.int .i64 x.Key.Kind),.v (.int .i64 x.Key.Enum),.v (.int .i64 x.Value.Kind),.v (.int .i64 x.Value.Enum),.sl 5 (x.Rows.map Cj)]
instance:Fr Qb:=⟨λx=>by simp only[Qb,la,fa,Fr.l,Naa,Jaa]⟩
theorem tM{x}:Qb x=.agg [.v (.string x.Name),.v (.int .i64 x.Key.Kind),.v (.int .i64 x.Key.Enum),.v (.int .i64 x.Value.Kind),.v (.int .i64 x.Value.Enum),.sl 5 (x.Rows.map Cj)]:=paa rfl rfl
def wk(x:List GTable):D:=.sl 6 (x.map Qb)
instance:Fr wk:=⟨λx=>Fr.s _ x⟩
theorem tI{x}:wk x=.sl 6 (x.map Qb):=paa rfl rfl
structure GField where
 Name:ByteArray
 Type_:GType
def db(x:GField):D:=.agg [.v (.string x.Name),.v (.int .i64 x.Type_.Kind),.v (.int .i64 x.Type_.Enum)]
instance:Fr db:=⟨λx=>by simp only[db,la,fa,Fr.l,Naa,Jaa]⟩
theorem rM{x}:db x=.agg [.v (.string x.Name),.v (.int .i64 x.Type_.Kind),.v (.int .i64 x.Type_.Enum)]:=paa rfl rfl
def Cb(x:List GField):D:=.sl 3 (x.map db)
instance:Fr Cb:=⟨λx=>Fr.s _ x⟩
theorem rI{x}:Cb x=.sl 3 (x.map db):=paa rfl rfl
structure GNode where
 Op:Int
 N:Int
def Sb(x:GNode):D:=.agg [.v (.int .i64 x.Op),.v (.int .i64 x.N)]
instance:Fr Sb:=⟨λx=>by simp only[Sb,la,fa,Fr.l,Naa,Jaa]⟩
theorem BQ{x}:Sb x=.agg [.v (.int .i64 x.Op),.v (.int .i64 x.N)]:=paa rfl rfl
def Zh(x:List GNode):D:=.sl 2 (x.map Sb)
instance:Fr Zh:=⟨λx=>Fr.s _ x⟩
theorem RJ{x}:Zh x=.sl 2 (x.map Sb):=paa rfl rfl
structure GRule where
 Name:ByteArray
 Def:Int
 Parent:Int
 Priority:Int
 Valid:GDateRange
 Guard:(List GNode)
 Value:(List GNode)
 Source:ByteArray
def gb(x:GRule):D:=.agg [.v (.string x.Name),.v (.int .i64 x.Def),.v (.int .i64 x.Parent),.v (.int .i64 x.Priority),.v (.int .i64 x.Valid.From),.v (.int .i64 x.Valid.To),.sl 2 (x.Guard.map Sb),.sl 2 (x.Value.map Sb),.v (.string x.Source)]
instance:Fr gb:=⟨λx=>by simp only[gb,la,fa,Fr.l,Naa,Jaa]⟩
theorem CQ{x}:gb x=.agg [.v (.string x.Name),.v (.int .i64 x.Def),.v (.int .i64 x.Parent),.v (.int .i64 x.Priority),.v (.int .i64 x.Valid.From),.v (.int .i64 x.Valid.To),.sl 2 (x.Guard.map Sb),.sl 2 (x.Value.map Sb),.v (.string x.Source)]:=paa rfl rfl
def Ye(x:List GRule):D:=.sl 9 (x.map gb)
instance:Fr Ye:=⟨λx=>Fr.s _ x⟩
theorem SJ{x}:Ye x=.sl 9 (x.map gb):=paa rfl rfl
structure GScope where
 Name:ByteArray
 MemberScope:Int
 Inputs:(List GField)
 Defs:(List GField)
 Rules:(List GRule)
def Ma(x:GScope):D:=.agg [.v (.string x.Name),.v (.int .i64 x.MemberScope),.sl 3 (x.Inputs.map db),.sl 3 (x.Defs.map db),.sl 9 (x.Rules.map gb)]
instance:Fr Ma:=⟨λx=>by simp only[Ma,la,fa,Fr.l,Naa,Jaa]⟩
theorem sM{x}:Ma x=.agg [.v (.string x.Name),.v (.int .i64 x.MemberScope),.sl 3 (x.Inputs.map db),.sl 3 (x.Defs.map db),.sl 9 (x.Rules.map gb)]:=paa rfl rfl
def Zn(x:List GScope):D:=.sl 5 (x.map Ma)
instance:Fr Zn:=⟨λx=>Fr.s _ x⟩
theorem sI{x}:Zn x=.sl 5 (x.map Ma):=paa rfl rfl
structure GLaw where
 Enums:(List GEnum)
 Tables:(List GTable)
 Scopes:(List GScope)
def xb(x:GLaw):D:=.agg [.sl 2 (x.Enums.map Nh),.sl 6 (x.Tables.map Qb),.sl 5 (x.Scopes.map Ma)]
instance:Fr xb:=⟨λx=>by simp only[xb,la,fa,Fr.l,Naa,Jaa]⟩
theorem dU{x}:xb x=.agg [.sl 2 (x.Enums.map Nh),.sl 6 (x.Tables.map Qb),.sl 5 (x.Scopes.map Ma)]:=paa rfl rfl
def ba(x:Bool):D:=.v (.bool x)
instance:Fr ba:=⟨λx=>by simp only[ba,la,fa,Fr.l,Naa,Jaa]⟩
theorem fU{x}:ba x=.v (.bool x):=paa rfl rfl
def ua(x:List Int):D:=.sl 1 (x.map aa)
instance:Fr ua:=⟨λx=>Fr.s _ x⟩
theorem HQ{x}:ua x=.sl 1 (x.map aa):=paa rfl rfl
def xc(x:List (List Int)):D:=.sl 1 (x.map ua)
instance:Fr xc:=⟨λx=>Fr.s _ x⟩
theorem UJ{x}:xc x=.sl 1 (x.map ua):=paa rfl rfl
structure GLawError where
 Code:Int
 Section:Int
 Item:Int
 Element:Int
def Xj(x:GLawError):D:=.agg [.v (.int .i64 x.Code),.v (.int .i64 x.Section),.v (.int .i64 x.Item),.v (.int .i64 x.Element)]
instance:Fr Xj:=⟨λx=>by simp only[Xj,la,fa,Fr.l,Naa,Jaa]⟩
theorem rG{x}:Xj x=.agg [.v (.int .i64 x.Code),.v (.int .i64 x.Section),.v (.int .i64 x.Item),.v (.int .i64 x.Element)]:=paa rfl rfl
def uo(x:List GType):D:=.sl 2 (x.map vb)
instance:Fr uo:=⟨λx=>Fr.s _ x⟩
theorem TJ{x}:uo x=.sl 2 (x.map vb):=paa rfl rfl
structure GSignature where
 Enums:(List GEnum)
 Tables:(List GTable)
 Inputs:(List GType)
 Defs:(List GType)
 MemberDefs:(List GType)
 HasMembers:Bool
def Oa(x:GSignature):D:=.agg [.sl 2 (x.Enums.map Nh),.sl 6 (x.Tables.map Qb),.sl 2 (x.Inputs.map vb),.sl 2 (x.Defs.map vb),.sl 2 (x.MemberDefs.map vb),.v (.bool x.HasMembers)]
instance:Fr Oa:=⟨λx=>by simp only[Oa,la,fa,Fr.l,Naa,Jaa]⟩
theorem iE{x}:Oa x=.agg [.sl 2 (x.Enums.map Nh),.sl 6 (x.Tables.map Qb),.sl 2 (x.Inputs.map vb),.sl 2 (x.Defs.map vb),.sl 2 (x.MemberDefs.map vb),.v (.bool x.HasMembers)]:=paa rfl rfl
def xw(x:List (List GNode)):D:=.sl 1 (x.map Zh)
instance:Fr xw:=⟨λx=>Fr.s _ x⟩
theorem tG{x}:xw x=.sl 1 (x.map Zh):=paa rfl rfl
def iU(x:Int):D:=.v (.int .u8 x)
instance:Fr iU:=⟨λx=>by simp only[iU,la,fa,Fr.l,Naa,Jaa]⟩
theorem r8{x}:iU x=.v (.int .u8 x):=paa rfl rfl
def Ph(x:Int):D:=.pt (aa x)
instance:Fr Ph:=⟨λx=>Fr.h (e:=aa) x⟩
theorem FQ{x}:Ph x=.pt (aa x):=paa rfl rfl
def Sp(x:GScope):D:=.pt (Ma x)
instance:Fr Sp:=⟨λx=>Fr.h (e:=Ma) x⟩
theorem oI{x}:Sp x=.pt (Ma x):=paa rfl rfl
def Bu(x:GRule):D:=.pt (gb x)
instance:Fr Bu:=⟨λx=>Fr.h (e:=gb) x⟩
theorem OJ{x}:Bu x=.pt (gb x):=paa rfl rfl
def Rp(x:GField):D:=.pt (db x)
instance:Fr Rp:=⟨λx=>Fr.h (e:=db) x⟩
theorem nI{x}:Rp x=.pt (db x):=paa rfl rfl
def oq(x:ByteArray):D:=.pt (fj x)
instance:Fr oq:=⟨λx=>Fr.h (e:=fj) x⟩
theorem GQ{x}:oq x=.pt (fj x):=paa rfl rfl
def Au(x:GRow):D:=.pt (Cj x)
instance:Fr Au:=⟨λx=>Fr.h (e:=Cj) x⟩
theorem xM{x}:Au x=.pt (Cj x):=paa rfl rfl
structure GValue where
 Kind:Int
 Enum:Int
 N:Int
def ra(x:GValue):D:=.agg [.v (.int .i64 x.Kind),.v (.int .i64 x.Enum),.v (.int .i64 x.N)]
instance:Fr ra:=⟨λx=>by simp only[ra,la,fa,Fr.l,Naa,Jaa]⟩
theorem uM{x}:ra x=.agg [.v (.int .i64 x.Kind),.v (.int .i64 x.Enum),.v (.int .i64 x.N)]:=paa rfl rfl
def Db(x:List GValue):D:=.sl 3 (x.map ra)
instance:Fr Db:=⟨λx=>Fr.s _ x⟩
theorem uI{x}:Db x=.sl 3 (x.map ra):=paa rfl rfl
structure GCoverageHole where
 Outcome:Int
 RuleA:Int
 RuleB:Int
 Inputs:(List GValue)
def Xd(x:GCoverageHole):D:=.agg [.v (.int .i64 x.Outcome),.v (.int .i64 x.RuleA),.v (.int .i64 x.RuleB),.sl 3 (x.Inputs.map ra)]
instance:Fr Xd:=⟨λx=>by simp only[Xd,la,fa,Fr.l,Naa,Jaa]⟩
theorem xz{x}:Xd x=.agg [.v (.int .i64 x.Outcome),.v (.int .i64 x.RuleA),.v (.int .i64 x.RuleB),.sl 3 (x.Inputs.map ra)]:=paa rfl rfl
def Ro(x:List GCoverageHole):D:=.sl 4 (x.map Xd)
instance:Fr Ro:=⟨λx=>Fr.s _ x⟩
theorem Vx{x}:Ro x=.sl 4 (x.map Xd):=paa rfl rfl
def Ft(x:GCoverageHole):D:=.pt (Xd x)
instance:Fr Ft:=⟨λx=>Fr.h (e:=Xd) x⟩
theorem Tx{x}:Ft x=.pt (Xd x):=paa rfl rfl
structure GRuletree_tree where
 parent:(List Int)
 priority:(List Int)
 outcome:(List Int)
def fh(x:GRuletree_tree):D:=.agg [.sl 1 (x.parent.map aa),.sl 1 (x.priority.map aa),.sl 1 (x.outcome.map aa)]
instance:Fr fh:=⟨λx=>by simp only[fh,la,fa,Fr.l,Naa,Jaa]⟩
theorem Iy{x}:fh x=.agg [.sl 1 (x.parent.map aa),.sl 1 (x.priority.map aa),.sl 1 (x.outcome.map aa)]:=paa rfl rfl
def Du(x:List Bool):D:=.sl 1 (x.map ba)
instance:Fr Du:=⟨λx=>Fr.s _ x⟩
theorem AM{x}:Du x=.sl 1 (x.map ba):=paa rfl rfl
def jv(x:List (List GValue)):D:=.sl 1 (x.map Db)
instance:Fr jv:=⟨λx=>Fr.s _ x⟩
theorem kE{x}:jv x=.sl 1 (x.map Db):=paa rfl rfl
structure GEnv where
 Date:Int
 Inputs:(List GValue)
 Defs:(List GValue)
 Members:(List (List GValue))
 MemberTypes:(List GType)
 Tables:(List GTable)
def tm(x:GEnv):D:=.agg [.v (.int .i64 x.Date),.sl 3 (x.Inputs.map ra),.sl 3 (x.Defs.map ra),.sl 1 (x.Members.map Db),.sl 2 (x.MemberTypes.map vb),.sl 6 (x.Tables.map Qb)]
instance:Fr tm:=⟨λx=>by simp only[tm,la,fa,Fr.l,Naa,Jaa]⟩
theorem cU{x}:tm x=.agg [.v (.int .i64 x.Date),.sl 3 (x.Inputs.map ra),.sl 3 (x.Defs.map ra),.sl 1 (x.Members.map Db),.sl 2 (x.MemberTypes.map vb),.sl 6 (x.Tables.map Qb)]:=paa rfl rfl
structure GEval_evaluator where
 nodes:(List GNode)
 starts:(List Int)
 env:GEnv
def sa(x:GEval_evaluator):D:=.agg [.sl 2 (x.nodes.map Sb),.sl 1 (x.starts.map aa),.v (.int .i64 x.env.Date),.sl 3 (x.env.Inputs.map ra),.sl 3 (x.env.Defs.map ra),.sl 1 (x.env.Members.map Db),.sl 2 (x.env.MemberTypes.map vb),.sl 6 (x.env.Tables.map Qb)]
instance:Fr sa:=⟨λx=>by simp only[sa,la,fa,Fr.l,Naa,Jaa]⟩
theorem Sx{x}:sa x=.agg [.sl 2 (x.nodes.map Sb),.sl 1 (x.starts.map aa),.v (.int .i64 x.env.Date),.sl 3 (x.env.Inputs.map ra),.sl 3 (x.env.Defs.map ra),.sl 1 (x.env.Members.map Db),.sl 2 (x.env.MemberTypes.map vb),.sl 6 (x.env.Tables.map Qb)]:=paa rfl rfl
def Rh(x:Int):D:=.v (.int .u64 x)
instance:Fr Rh:=⟨λx=>by simp only[Rh,la,fa,Fr.l,Naa,Jaa]⟩
theorem FY{x}:Rh x=.v (.int .u64 x):=paa rfl rfl
structure GA3 where
 I0:Int
 I1:Int
 I2:Int
def sO(x:GA3):D:=.agg [.v (.int .i64 x.I0),.v (.int .i64 x.I1),.v (.int .i64 x.I2)]
instance:Fr sO:=⟨λx=>by simp only[sO,la,fa,Fr.l,Naa,Jaa]⟩
theorem CY{x}:sO x=.agg [.v (.int .i64 x.I0),.v (.int .i64 x.I1),.v (.int .i64 x.I2)]:=paa rfl rfl
structure GDeadrules_tree where
 scope:GScope
 tables:(List GTable)
 date:Int
 rules:(List Int)
 parents:(List Int)
 priorities:(List Int)
def Ke(x:GDeadrules_tree):D:=.agg [.v (.string x.scope.Name),.v (.int .i64 x.scope.MemberScope),.sl 3 (x.scope.Inputs.map db),.sl 3 (x.scope.Defs.map db),.sl 9 (x.scope.Rules.map gb),.sl 6 (x.tables.map Qb),.v (.int .i64 x.date),.sl 1 (x.rules.map aa),.sl 1 (x.parents.map aa),.sl 1 (x.priorities.map aa)]
instance:Fr Ke:=⟨λx=>by simp only[Ke,la,fa,Fr.l,Naa,Jaa]⟩
theorem Rx{x}:Ke x=.agg [.v (.string x.scope.Name),.v (.int .i64 x.scope.MemberScope),.sl 3 (x.scope.Inputs.map db),.sl 3 (x.scope.Defs.map db),.sl 9 (x.scope.Rules.map gb),.sl 6 (x.tables.map Qb),.v (.int .i64 x.date),.sl 1 (x.rules.map aa),.sl 1 (x.parents.map aa),.sl 1 (x.priorities.map aa)]:=paa rfl rfl
def Hr(x:GDeadrules_tree):D:=.pt (Ke x)
instance:Fr Hr:=⟨λx=>Fr.h (e:=Ke) x⟩
theorem Tv{x}:Hr x=.pt (Ke x):=paa rfl rfl
structure GCase where
 Date:Int
 Inputs:(List GValue)
 Members:(List (List GValue))
def Pr(x:GCase):D:=.agg [.v (.int .i64 x.Date),.sl 3 (x.Inputs.map ra),.sl 1 (x.Members.map Db)]
instance:Fr Pr:=⟨λx=>by simp only[Pr,la,fa,Fr.l,Naa,Jaa]⟩
theorem yQ{x}:Pr x=.agg [.v (.int .i64 x.Date),.sl 3 (x.Inputs.map ra),.sl 1 (x.Members.map Db)]:=paa rfl rfl
structure GEvalError where
 Code:Int
 Member:Int
 Def:Int
 Rule:Int
def Rg(x:GEvalError):D:=.agg [.v (.int .i64 x.Code),.v (.int .i64 x.Member),.v (.int .i64 x.Def),.v (.int .i64 x.Rule)]
instance:Fr Rg:=⟨λx=>by simp only[Rg,la,fa,Fr.l,Naa,Jaa]⟩
theorem dE{x}:Rg x=.agg [.v (.int .i64 x.Code),.v (.int .i64 x.Member),.v (.int .i64 x.Def),.v (.int .i64 x.Rule)]:=paa rfl rfl
structure GInterp_needs where
 scope:GScope
 memberScope:GScope
 defs:(List Bool)
 memberDefs:(List Bool)
def wg(x:GInterp_needs):D:=.agg [.v (.string x.scope.Name),.v (.int .i64 x.scope.MemberScope),.sl 3 (x.scope.Inputs.map db),.sl 3 (x.scope.Defs.map db),.sl 9 (x.scope.Rules.map gb),.v (.string x.memberScope.Name),.v (.int .i64 x.memberScope.MemberScope),.sl 3 (x.memberScope.Inputs.map db),.sl 3 (x.memberScope.Defs.map db),.sl 9 (x.memberScope.Rules.map gb),.sl 1 (x.defs.map ba),.sl 1 (x.memberDefs.map ba)]
instance:Fr wg:=⟨λx=>by simp only[wg,la,fa,Fr.l,Naa,Jaa]⟩
theorem Az{x}:wg x=.agg [.v (.string x.scope.Name),.v (.int .i64 x.scope.MemberScope),.sl 3 (x.scope.Inputs.map db),.sl 3 (x.scope.Defs.map db),.sl 9 (x.scope.Rules.map gb),.v (.string x.memberScope.Name),.v (.int .i64 x.memberScope.MemberScope),.sl 3 (x.memberScope.Inputs.map db),.sl 3 (x.memberScope.Defs.map db),.sl 9 (x.memberScope.Rules.map gb),.sl 1 (x.defs.map ba),.sl 1 (x.memberDefs.map ba)]:=paa rfl rfl
structure GMemberResult where
 Values:(List GValue)
 Rules:(List Int)
def Uc(x:GMemberResult):D:=.agg [.sl 3 (x.Values.map ra),.sl 1 (x.Rules.map aa)]
instance:Fr Uc:=⟨λx=>by simp only[Uc,la,fa,Fr.l,Naa,Jaa]⟩
theorem Bz{x}:Uc x=.agg [.sl 3 (x.Values.map ra),.sl 1 (x.Rules.map aa)]:=paa rfl rfl
def Uo(x:List GMemberResult):D:=.sl 2 (x.map Uc)
instance:Fr Uo:=⟨λx=>Fr.s _ x⟩
theorem Wx{x}:Uo x=.sl 2 (x.map Uc):=paa rfl rfl
structure GResult where
 Values:(List GValue)
 Rules:(List Int)
 Members:(List GMemberResult)
def zu(x:GResult):D:=.agg [.sl 3 (x.Values.map ra),.sl 1 (x.Rules.map aa),.sl 2 (x.Members.map Uc)]
instance:Fr zu:=⟨λx=>by simp only[zu,la,fa,Fr.l,Naa,Jaa]⟩
theorem MJ{x}:zu x=.agg [.sl 3 (x.Values.map ra),.sl 1 (x.Rules.map aa),.sl 2 (x.Members.map Uc)]:=paa rfl rfl
def Qo(x:GInterp_needs):D:=.pt (wg x)
instance:Fr Qo:=⟨λx=>Fr.h (e:=wg) x⟩
theorem Ux{x}:Qo x=.pt (wg x):=paa rfl rfl
def NJ(x:GEnv):D:=.pt (tm x)
instance:Fr NJ:=⟨λx=>Fr.h (e:=tm) x⟩
theorem wM{x}:NJ x=.pt (tm x):=paa rfl rfl
structure GA2 where
 I0:Int
 I1:Int
def rO(x:GA2):D:=.agg [.v (.int .i64 x.I0),.v (.int .i64 x.I1)]
instance:Fr rO:=⟨λx=>by simp only[rO,la,fa,Fr.l,Naa,Jaa]⟩
theorem BY{x}:rO x=.agg [.v (.int .i64 x.I0),.v (.int .i64 x.I1)]:=paa rfl rfl
structure GCalendar where
 Weekend:Int
 Holidays:(List Int)
def Vg(x:GCalendar):D:=.agg [.v (.int .i64 x.Weekend),.sl 1 (x.Holidays.map aa)]
instance:Fr Vg:=⟨λx=>by simp only[Vg,la,fa,Fr.l,Naa,Jaa]⟩
theorem qG{x}:Vg x=.agg [.v (.int .i64 x.Weekend),.sl 1 (x.Holidays.map aa)]:=paa rfl rfl
structure GPayConfig where
 Def:Int
 Rounding:Int
 PayDay:Int
 RecoveryCap:Int
 RecoveryFloor:Int
 FirstMonth:Int
 AppealDays:Int
 Calendar:GCalendar
def Da(x:GPayConfig):D:=.agg [.v (.int .i64 x.Def),.v (.int .i64 x.Rounding),.v (.int .i64 x.PayDay),.v (.int .i64 x.RecoveryCap),.v (.int .i64 x.RecoveryFloor),.v (.int .i64 x.FirstMonth),.v (.int .i64 x.AppealDays),.v (.int .i64 x.Calendar.Weekend),.sl 1 (x.Calendar.Holidays.map aa)]
instance:Fr Da:=⟨λx=>by simp only[Da,la,fa,Fr.l,Naa,Jaa]⟩
theorem fE{x}:Da x=.agg [.v (.int .i64 x.Def),.v (.int .i64 x.Rounding),.v (.int .i64 x.PayDay),.v (.int .i64 x.RecoveryCap),.v (.int .i64 x.RecoveryFloor),.v (.int .i64 x.FirstMonth),.v (.int .i64 x.AppealDays),.v (.int .i64 x.Calendar.Weekend),.sl 1 (x.Calendar.Holidays.map aa)]:=paa rfl rfl
structure GFact where
 Id:Int
 Member:Int
 Input:Int
 Value:GValue
 Valid:GDateRange
 Recorded:Int
def sb(x:GFact):D:=.agg [.v (.int .i64 x.Id),.v (.int .i64 x.Member),.v (.int .i64 x.Input),.v (.int .i64 x.Value.Kind),.v (.int .i64 x.Value.Enum),.v (.int .i64 x.Value.N),.v (.int .i64 x.Valid.From),.v (.int .i64 x.Valid.To),.v (.int .i64 x.Recorded)]
instance:Fr sb:=⟨λx=>by simp only[sb,la,fa,Fr.l,Naa,Jaa]⟩
theorem AQ{x}:sb x=.agg [.v (.int .i64 x.Id),.v (.int .i64 x.Member),.v (.int .i64 x.Input),.v (.int .i64 x.Value.Kind),.v (.int .i64 x.Value.Enum),.v (.int .i64 x.Value.N),.v (.int .i64 x.Valid.From),.v (.int .i64 x.Valid.To),.v (.int .i64 x.Recorded)]:=paa rfl rfl
def Pd(x:List GFact):D:=.sl 9 (x.map sb)
instance:Fr Pd:=⟨λx=>Fr.s _ x⟩
theorem QJ{x}:Pd x=.sl 9 (x.map sb):=paa rfl rfl
structure GHousehold where
 Id:Int
 Scope:Int
 Members:Int
 Facts:(List GFact)
def ub(x:GHousehold):D:=.agg [.v (.int .i64 x.Id),.v (.int .i64 x.Scope),.v (.int .i64 x.Members),.sl 9 (x.Facts.map sb)]
instance:Fr ub:=⟨λx=>by simp only[ub,la,fa,Fr.l,Naa,Jaa]⟩
theorem eE{x}:ub x=.agg [.v (.int .i64 x.Id),.v (.int .i64 x.Scope),.v (.int .i64 x.Members),.sl 9 (x.Facts.map sb)]:=paa rfl rfl
structure GAward where
 Month:Int
 Cents:Int
 Code:Int
def xi(x:GAward):D:=.agg [.v (.int .i64 x.Month),.v (.int .i64 x.Cents),.v (.int .i64 x.Code)]
instance:Fr xi:=⟨λx=>by simp only[xi,la,fa,Fr.l,Naa,Jaa]⟩
theorem pM{x}:xi x=.agg [.v (.int .i64 x.Month),.v (.int .i64 x.Cents),.v (.int .i64 x.Code)]:=paa rfl rfl
def Dj(x:List GDateRange):D:=.sl 2 (x.map za)
instance:Fr Dj:=⟨λx=>Fr.s _ x⟩
theorem VA{x}:Dj x=.sl 2 (x.map za):=paa rfl rfl
structure GGuerdonlaw36_Query where
 Month:Int
 Recorded:Int
 Day:Int
def Oh(x:GGuerdonlaw36_Query):D:=.agg [.v (.int .i64 x.Month),.v (.int .i64 x.Recorded),.v (.int .i64 x.Day)]
instance:Fr Oh:=⟨λx=>by simp only[Oh,la,fa,Fr.l,Naa,Jaa]⟩
theorem xu{x}:Oh x=.agg [.v (.int .i64 x.Month),.v (.int .i64 x.Recorded),.v (.int .i64 x.Day)]:=paa rfl rfl
def fb(x:List GAward):D:=.sl 3 (x.map xi)
instance:Fr fb:=⟨λx=>Fr.s _ x⟩
theorem pI{x}:fb x=.sl 3 (x.map xi):=paa rfl rfl
structure GPosting where
 Date:Int
 Month:Int
 Kind:Int
 Cents:Int
def ta(x:GPosting):D:=.agg [.v (.int .i64 x.Date),.v (.int .i64 x.Month),.v (.int .i64 x.Kind),.v (.int .i64 x.Cents)]
instance:Fr ta:=⟨λx=>by simp only[ta,la,fa,Fr.l,Naa,Jaa]⟩
theorem lI{x}:ta x=.agg [.v (.int .i64 x.Date),.v (.int .i64 x.Month),.v (.int .i64 x.Kind),.v (.int .i64 x.Cents)]:=paa rfl rfl
def Ca(x:List GPosting):D:=.sl 4 (x.map ta)
instance:Fr Ca:=⟨λx=>Fr.s _ x⟩
theorem jE{x}:Ca x=.sl 4 (x.map ta):=paa rfl rfl
structure GAppeal where
 Id:Int
 From:Int
 To:Int
 Filed:Int
 Deadline:Int
 State:Int
 Cents:Int
def bb(x:GAppeal):D:=.agg [.v (.int .i64 x.Id),.v (.int .i64 x.From),.v (.int .i64 x.To),.v (.int .i64 x.Filed),.v (.int .i64 x.Deadline),.v (.int .i64 x.State),.v (.int .i64 x.Cents)]
instance:Fr bb:=⟨λx=>by simp only[bb,la,fa,Fr.l,Naa,Jaa]⟩
theorem LJ{x}:bb x=.agg [.v (.int .i64 x.Id),.v (.int .i64 x.From),.v (.int .i64 x.To),.v (.int .i64 x.Filed),.v (.int .i64 x.Deadline),.v (.int .i64 x.State),.v (.int .i64 x.Cents)]:=paa rfl rfl
def Gd(x:List GAppeal):D:=.sl 7 (x.map bb)
instance:Fr Gd:=⟨λx=>Fr.s _ x⟩
theorem sG{x}:Gd x=.sl 7 (x.map bb):=paa rfl rfl
structure GAccount where
 Household:GHousehold
 Postings:(List GPosting)
 Appeals:(List GAppeal)
 Date:Int
 LastMonth:Int
def zb(x:GAccount):D:=.agg [.v (.int .i64 x.Household.Id),.v (.int .i64 x.Household.Scope),.v (.int .i64 x.Household.Members),.sl 9 (x.Household.Facts.map sb),.sl 4 (x.Postings.map ta),.sl 7 (x.Appeals.map bb),.v (.int .i64 x.Date),.v (.int .i64 x.LastMonth)]
instance:Fr zb:=⟨λx=>by simp only[zb,la,fa,Fr.l,Naa,Jaa]⟩
theorem kI{x}:zb x=.agg [.v (.int .i64 x.Household.Id),.v (.int .i64 x.Household.Scope),.v (.int .i64 x.Household.Members),.sl 9 (x.Household.Facts.map sb),.sl 4 (x.Postings.map ta),.sl 7 (x.Appeals.map bb),.v (.int .i64 x.Date),.v (.int .i64 x.LastMonth)]:=paa rfl rfl
structure GMonthBalance where
 Month:Int
 Due:Int
 Received:Int
 Waived:Int
def Ia(x:GMonthBalance):D:=.agg [.v (.int .i64 x.Month),.v (.int .i64 x.Due),.v (.int .i64 x.Received),.v (.int .i64 x.Waived)]
instance:Fr Ia:=⟨λx=>by simp only[Ia,la,fa,Fr.l,Naa,Jaa]⟩
theorem Cz{x}:Ia x=.agg [.v (.int .i64 x.Month),.v (.int .i64 x.Due),.v (.int .i64 x.Received),.v (.int .i64 x.Waived)]:=paa rfl rfl
def Aa(x:List GMonthBalance):D:=.sl 4 (x.map Ia)
instance:Fr Aa:=⟨λx=>Fr.s _ x⟩
theorem Xx{x}:Aa x=.sl 4 (x.map Ia):=paa rfl rfl
structure GEvent where
 Kind:Int
 Date:Int
 Month:Int
 ToMonth:Int
 Notice:Int
 Appeal:Int
 State:Int
 Cents:Int
 Fact:GFact
def zi(x:GEvent):D:=.agg [.v (.int .i64 x.Kind),.v (.int .i64 x.Date),.v (.int .i64 x.Month),.v (.int .i64 x.ToMonth),.v (.int .i64 x.Notice),.v (.int .i64 x.Appeal),.v (.int .i64 x.State),.v (.int .i64 x.Cents),.v (.int .i64 x.Fact.Id),.v (.int .i64 x.Fact.Member),.v (.int .i64 x.Fact.Input),.v (.int .i64 x.Fact.Value.Kind),.v (.int .i64 x.Fact.Value.Enum),.v (.int .i64 x.Fact.Value.N),.v (.int .i64 x.Fact.Valid.From),.v (.int .i64 x.Fact.Valid.To),.v (.int .i64 x.Fact.Recorded)]
instance:Fr zi:=⟨λx=>by simp only[zi,la,fa,Fr.l,Naa,Jaa]⟩
theorem qM{x}:zi x=.agg [.v (.int .i64 x.Kind),.v (.int .i64 x.Date),.v (.int .i64 x.Month),.v (.int .i64 x.ToMonth),.v (.int .i64 x.Notice),.v (.int .i64 x.Appeal),.v (.int .i64 x.State),.v (.int .i64 x.Cents),.v (.int .i64 x.Fact.Id),.v (.int .i64 x.Fact.Member),.v (.int .i64 x.Fact.Input),.v (.int .i64 x.Fact.Value.Kind),.v (.int .i64 x.Fact.Value.Enum),.v (.int .i64 x.Fact.Value.N),.v (.int .i64 x.Fact.Valid.From),.v (.int .i64 x.Fact.Valid.To),.v (.int .i64 x.Fact.Recorded)]:=paa rfl rfl
def Qp(x:GEvent):D:=.pt (zi x)
instance:Fr Qp:=⟨λx=>Fr.h (e:=zi) x⟩
theorem mI{x}:Qp x=.pt (zi x):=paa rfl rfl
def Jy(x:List GEvent):D:=.sl 17 (x.map zi)
instance:Fr Jy:=⟨λx=>Fr.s _ x⟩
theorem qI{x}:Jy x=.sl 17 (x.map zi):=paa rfl rfl
def ze:=(And.intro (And.intro (And.intro (And.intro (And.intro (And.intro (And.intro @EY @IQ) (And.intro @zQ @PJ)) (And.intro (And.intro @DY @DQ) (And.intro @cE @eU))) (And.intro (And.intro (And.intro @yM @tM) (And.intro @tI @rM)) (And.intro (And.intro @rI @BQ) (And.intro @RJ @CQ)))) (And.intro (And.intro (And.intro (And.intro @SJ @sM) (And.intro @sI @dU)) (And.intro (And.intro @fU @HQ) (And.intro @UJ @rG))) (And.intro (And.intro (And.intro @TJ @iE) (And.intro @tG @r8)) (And.intro (And.intro @FQ @oI) (And.intro @OJ @nI))))) (And.intro (And.intro (And.intro (And.intro (And.intro @GQ @xM) (And.intro @uM @uI)) (And.intro (And.intro @xz @Vx) (And.intro @Tx @Iy))) (And.intro (And.intro (And.intro @AM @kE) (And.intro @cU @Sx)) (And.intro (And.intro @FY @CY) (And.intro @Rx @Tv)))) (And.intro (And.intro (And.intro (And.intro @yQ @dE) (And.intro @Az @Bz)) (And.intro (And.intro @Wx @MJ) (And.intro @Ux @wM))) (And.intro (And.intro (And.intro @BY @qG) (And.intro @fE @AQ)) (And.intro (And.intro @QJ @eE) (And.intro @pM @VA)))))) (And.intro (And.intro (And.intro (And.intro @xu @pI) (And.intro @lI @jE)) (And.intro (And.intro @LJ @sG) (And.intro @kI @Cz))) (And.intro (And.intro @Xx @qM) (And.intro @mI @qI))))
theorem zz:type_of% (And.intro @zx @ze):=And.intro @zx @ze
theorem zg:type_of% (And.intro @zq @ze):=And.intro @zq @ze
theorem tz{N:Nat}{s S:St}(ρ:Yl) (h:dz (Sq ρ s.m 9) s.t S.t/\HB ρ s.m ρ S.m:=by first|(simp only[zg];done)|(simp only[zg, *];done)) (hk:Hw ρ N=true:=by rfl) (a:(ρ.filterMap (·.1)).Nodup:=by decide):Tells N s S:=Tells.q ρ hk a h
theorem ez{rs:List RV}{o:D}{s:St}(h:YJ (Eb s rs) s.m o:=by simp only[zz,zr];exact fq (by first|(simp only[zg];done)|(simp only[zg, *];done)|(simp only[zg, *,List.drop_zero,Nat.zero_add,List.length_map];done))):jG rs o .ret s:=er h
instance:Enc (List (List GNode)) xw:=⟨trivial⟩
instance:Enc (List (List GValue)) jv:=⟨trivial⟩
instance:Enc (List (List Int)) xc:=⟨trivial⟩
instance:Enc (List Bool) Du:=⟨trivial⟩
instance:Enc (List ByteArray) Dz:=⟨trivial⟩
instance:Enc (List GAppeal) Gd:=⟨trivial⟩
instance:Enc (List GAward) fb:=⟨trivial⟩
instance:Enc (List GCoverageHole) Ro:=⟨trivial⟩
instance:Enc (List GDateRange) Dj:=⟨trivial⟩
instance:Enc (List GEnum) gh:=⟨trivial⟩
instance:Enc (List GEvent) Jy:=⟨trivial⟩
instance:Enc (List GFact) Pd:=⟨trivial⟩
instance:Enc (List GField) Cb:=⟨trivial⟩
instance:Enc (List GMemberResult) Uo:=⟨trivial⟩
instance:Enc (List GMonthBalance) Aa:=⟨trivial⟩
instance:Enc (List GNode) Zh:=⟨trivial⟩
instance:Enc (List GPosting) Ca:=⟨trivial⟩
instance:Enc (List GRow) Cu:=⟨trivial⟩
instance:Enc (List GRule) Ye:=⟨trivial⟩
instance:Enc (List GScope) Zn:=⟨trivial⟩
instance:Enc (List GTable) wk:=⟨trivial⟩
instance:Enc (List GType) uo:=⟨trivial⟩
instance:Enc (List GValue) Db:=⟨trivial⟩
instance:Enc (List Int) ua:=⟨trivial⟩
instance:Enc Bool ba:=⟨trivial⟩
instance:Enc ByteArray fj:=⟨trivial⟩
instance:Enc GA2 rO:=⟨trivial⟩
instance:Enc GA3 sO:=⟨trivial⟩
instance:Enc GAccount zb:=⟨trivial⟩
instance:Enc GAppeal bb:=⟨trivial⟩
instance:Enc GAward xi:=⟨trivial⟩
instance:Enc GCalendar Vg:=⟨trivial⟩
instance:Enc GCase Pr:=⟨trivial⟩
instance:Enc GCoverageHole Xd:=⟨trivial⟩
instance:Enc GDateRange za:=⟨trivial⟩
instance:Enc GDeadrules_tree Ke:=⟨trivial⟩
instance:Enc GEnum Nh:=⟨trivial⟩
instance:Enc GEnv tm:=⟨trivial⟩
instance:Enc GEvalError Rg:=⟨trivial⟩
instance:Enc GEval_evaluator sa:=⟨trivial⟩
instance:Enc GEvent zi:=⟨trivial⟩
instance:Enc GFact sb:=⟨trivial⟩
instance:Enc GField db:=⟨trivial⟩
instance:Enc GGuerdonlaw36_Query Oh:=⟨trivial⟩
instance:Enc GHousehold ub:=⟨trivial⟩
instance:Enc GInterp_needs wg:=⟨trivial⟩
instance:Enc GLaw xb:=⟨trivial⟩
instance:Enc GLawError Xj:=⟨trivial⟩
instance:Enc GMemberResult Uc:=⟨trivial⟩
instance:Enc GMonthBalance Ia:=⟨trivial⟩
instance:Enc GNode Sb:=⟨trivial⟩
instance:Enc GPayConfig Da:=⟨trivial⟩
instance:Enc GPosting ta:=⟨trivial⟩
instance:Enc GResult zu:=⟨trivial⟩
instance:Enc GRow Cj:=⟨trivial⟩
instance:Enc GRule gb:=⟨trivial⟩
instance:Enc GRuletree_tree fh:=⟨trivial⟩
instance:Enc GScope Ma:=⟨trivial⟩
instance:Enc GSignature Oa:=⟨trivial⟩
instance:Enc GTable Qb:=⟨trivial⟩
instance:Enc GType vb:=⟨trivial⟩
instance:Enc GValue ra:=⟨trivial⟩
instance:Enc Int aa:=⟨trivial⟩
noncomputable section
def Hh(t0:GScope):Int->Option (Ex Int Unit Bool):=λa=>if a<(t0.Inputs.length:Int)then (idx t0.Inputs a).bind λb=>if 80<(b.Name.size:Int)then some (Ex.ret false)else some (Ex.go (ca .i64 (a+1)))else some (Ex.brk ())
def Fh(t0:GScope):Int->Option (Ex Int Unit Bool):=λa=>if a<(t0.Defs.length:Int)then (idx t0.Defs a).bind λb=>if 80<(b.Name.size:Int)then some (Ex.ret false)else some (Ex.go (ca .i64 (a+1)))else some (Ex.brk ())
def Eh(t0:GScope):Int->Option (Ex Int Unit Bool):=λb=>if b<(t0.Rules.length:Int)then (idx t0.Rules b).bind λa=>oaa (α:=Bool) (if¬80<(a.Name.size:Int)then if¬80<(a.Source.size:Int)then if¬50<(a.Guard.length:Int)then some (decide (50<(a.Value.length:Int)))else some true else some true else some true) λc=>if c=true then some (Ex.ret false)else some (Ex.go (ca .i64 (b+1)))else some (Ex.brk ())
def Eg(t0:GScope):Option Bool:=oaa (α:=Bool) (if¬80<(t0.Name.size:Int)then if¬14<(t0.Inputs.length:Int)then if¬14<(t0.Defs.length:Int)then some (decide (60<(t0.Rules.length:Int)))else some true else some true else some true) λa=>if a=true then some false else(ja (Hh t0) 0).bind λy=>match y with |.inr v=>some v |.inl _=>(ja (Fh t0) 0).bind λy=>match y with |.inr v=>some v |.inl _=>(ja (Eh t0) 0).bind λy=>match y with |.inr v=>some v |.inl _=>some true
def nh(t0:GLaw) (d:Int):Int->Option (Ex Int Unit (Ex Int Unit Bool)):=λa=>(idx t0.Enums d).bind λb=>if a<(b.Members.length:Int)then (idx b.Members a).bind λc=>if 80<(c.size:Int)then some (Ex.ret (Ex.ret false))else some (Ex.go (ca .i64 (a+1)))else some (Ex.brk ())
def Si(t0:GLaw):Int->Option (Ex Int Unit Bool):=λa=>if a<(t0.Enums.length:Int)then oaa (α:=Bool) ((idx t0.Enums a).bind λb=>if¬80<(b.Name.size:Int)then some (decide (20<(b.Members.length:Int)))else some true) λc=>if c=true then some (Ex.ret false)else(ja (nh t0 a) 0).bind λy=>match y with |.inr v=>some v |.inl _=>some (Ex.go (ca .i64 (a+1)))else some (Ex.brk ())
def Ri(t0:GLaw):(Int×Int)->Option (Ex (Int×Int) Unit Bool):=λ(c,a)=>if a<(t0.Tables.length:Int)then (idx t0.Tables a).bind λb=>oaa (α:=Bool) (if¬80<(b.Name.size:Int)then some (decide (150<(ca .i64 (c+(b.Rows.length:Int)))))else some true) λd=>if d=true then some (Ex.ret false)else some (Ex.go ((ca .i64 (c+(b.Rows.length:Int))),(ca .i64 (a+1))))else some (Ex.brk ())
def Qi(t0:GLaw):(Int×Int)->Option (Ex (Int×Int) Unit Bool):=λ(c,a)=>if a<(t0.Scopes.length:Int)then (idx t0.Scopes a).bind λb=>oaa (α:=Bool) (if¬60<(ca .i64 (c+(b.Rules.length:Int)))then (Eg b).bind λe=>some (!e)else some true) λd=>if d=true then some (Ex.ret false)else some (Ex.go ((ca .i64 (c+(b.Rules.length:Int))),(ca .i64 (a+1))))else some (Ex.brk ())
def Pn(t0:GLaw):Option Bool:=oaa (α:=Bool) (if¬9<(t0.Enums.length:Int)then if¬9<(t0.Tables.length:Int)then some (decide (5<(t0.Scopes.length:Int)))else some true else some true) λa=>if a=true then some false else(ja (Si t0) 0).bind λy=>match y with |.inr v=>some v |.inl _=>(ja (Ri t0) (0,0)).bind λy=>match y with |.inr v=>some v |.inl _=>(ja (Qi t0) (0,0)).bind λy=>match y with |.inr v=>some v |.inl _=>some true
def Ln(t0:Int):Option Bool:=oaa (α:=Bool) (if 97<=t0 then some (decide (t0<=122))else some false) λa=>some a
def rq(t0:Int):Option Bool:=oaa (α:=Bool) (if 48<=t0 then some (decide (t0<=57))else some false) λa=>some a
def Dd(t0:ByteArray):Int->Option (Ex Int Int Unit):=λs1=>oaa (α:=Bool) (if s1<(t0.size:Int)then (Bv t0 s1).bind λa=>(Ln a).bind λc=>if c=false then(rq a).bind λd=>if d=false then some (a==95)else some true else some true else some false) λb=>if b=true then some (Ex.go (ca .i64 (s1+1)))else some (Ex.brk s1)
def Nj(t0:ByteArray):Option Int:=(ja (Dd t0) 0).bind λy=>match y with |.inr _=>none |.inl a=>some a
def Ch(t0:ByteArray):Option Bool:=oaa (α:=Bool) (if t0=(yaa #[105,102])then some true else if t0=(yaa #[116,104,101,110])then some true else if t0=(yaa #[101,108,115,101])then some true else if t0=(yaa #[111,114])then some true else if t0=(yaa #[97,110,100])then some true else if t0=(yaa #[110,111,116])then some true else if t0=(yaa #[116,114,117,101])then some true else if t0=(yaa #[102,97,108,115,101])then some true else if t0=(yaa #[116,111,100,97,121])then some true else if t0=(yaa #[115,104,97,114,101])then some true else if t0=(yaa #[100,105,118])then some true else if t0=(yaa #[114,111,117,110,100])then some true else if t0=(yaa #[109,105,110])then some true else if t0=(yaa #[109,97,120])then some true else if t0=(yaa #[112,108,117,115])then some true else if t0=(yaa #[109,111,110,116,104,115])then some true else if t0=(yaa #[100,97,121,115])then some true else if t0=(yaa #[121,101,97,114,115])then some true else if t0=(yaa #[121,101,97,114])then some true else if t0=(yaa #[109,111,110,116,104])then some true else if t0=(yaa #[116,97,98])then some true else if t0=(yaa #[98,97,110,100])then some true else if t0=(yaa #[99,111,117,110,116])then some true else if t0=(yaa #[115,117,109])then some true else if t0=(yaa #[97,108,108])then some true else if t0=(yaa #[97,110,121])then some true else if t0=(yaa #[109,111,115,116])then some true else if t0=(yaa #[101,110,117,109])then some true else if t0=(yaa #[116,97,98,108,101])then some true else if t0=(yaa #[114,111,119])then some true else if t0=(yaa #[115,99,111,112,101])then some true else if t0=(yaa #[109,101,109,98,101,114,115])then some true else if t0=(yaa #[105,110,112,117,116])then some true else if t0=(yaa #[100,101,102])then some true else if t0=(yaa #[114,117,108,101])then some true else if t0=(yaa #[111,102])then some true else if t0=(yaa #[111,118,101,114])then some true else if t0=(yaa #[112,114,105,111])then some true else if t0=(yaa #[102,114,111,109])then some true else if t0=(yaa #[116,111])then some true else if t0=(yaa #[101,110,100])then some true else if t0=(yaa #[119,104,101,110])then some true else if t0=(yaa #[105,115])then some true else if t0=(yaa #[115,114,99])then some true else if t0=(yaa #[98,111,111,108])then some true else if t0=(yaa #[105,110,116])then some true else if t0=(yaa #[109,111,110,101,121])then some true else if t0=(yaa #[114,97,116,101])then some true else if t0=(yaa #[100,97,116,101])then some true else if t0=(yaa #[100,111,119,110])then some true else if t0=(yaa #[117,112])then some true else if t0=(yaa #[122,101,114,111])then some true else if t0=(yaa #[97,119,97,121])then some true else if t0=(yaa #[104,97,108,102])then some true else some (decide (t0=(yaa #[101,118,101,110])))) λa=>if a=true then some true else some false
def Ab(t0:ByteArray):Option Bool:=oaa (α:=Bool) (if¬t0=(yaa #[])then (Bv t0 0).bind λb=>(Ln b).bind λc=>if c=true then(Nj t0).bind λd=>if d=(t0.size:Int)then if(t0.size:Int)<=16 then(Ch t0).bind λe=>some (!e)else some false else some false else some false else some false) λa=>some a
def bd(t0:List GEnum) (t1:(GEnum->Option Bool)):Int->Option (Ex Int Unit Int):=λs1=>if s1<(t0.length:Int)then (idx t0 s1).bind λa=>(t1 a).bind λb=>if b=true then some (Ex.ret s1)else some (Ex.go (ca .i64 (s1+1)))else some (Ex.brk ())
def pc(t0:List GEnum) (t1:(GEnum->Option Bool)):Option Int:=(ja (bd t0 t1) 0).bind λy=>match y with |.inr v=>some v |.inl _=>some (-1)
def eb(t0:List GEnum) (t1:(GEnum->Option Bool)):Option Bool:=(pc t0 t1).bind λa=>some (decide (0<=a))
def cg(t0:GEnum) (t1:ByteArray):Option Bool:=some (decide (t0.Name=t1))
def gk(t0:List GEnum) (t1:ByteArray):Option Bool:=(eb t0 (λa=>cg a t1)).bind λb=>some b
def Ld(t0:List ByteArray) (t1:ByteArray):Int->Option (Ex Int Unit Int):=λs1=>if s1<(t0.length:Int)then (idx t0 s1).bind λa=>if t1=a then some (Ex.ret s1)else some (Ex.go (ca .i64 (s1+1)))else some (Ex.brk ())
def Jh(t0:List ByteArray) (t1:ByteArray):Option Int:=(ja (Ld t0 t1) 0).bind λy=>match y with |.inr v=>some v |.inl _=>some (-1)
def Kd(t0:List ByteArray) (t1:ByteArray):Option Bool:=(Jh t0 t1).bind λa=>some (decide (0<=a))
def Jj(t2:GEnum):Int->Option (Ex Int Unit (Int×Int)):=λa=>if a<(t2.Members.length:Int)then (idx t2.Members a).bind λb=>(Ab b).bind λc=>if c=false then some (Ex.ret (2,(ca .i64 (100+a))))else(Tr t2.Members a).bind λd=>(Kd d b).bind λe=>if e=true then some (Ex.ret (7,(ca .i64 (100+a))))else some (Ex.go (ca .i64 (a+1)))else some (Ex.brk ())
def Hn(t0:GLaw) (t1:Int) (t2:GEnum):Option (Int×Int):=(Ab t2.Name).bind λa=>if a=false then some (2,0)else(Tr t0.Enums t1).bind λb=>(gk b t2.Name).bind λc=>if c=true then some (7,0)else if(t2.Members.length:Int)=0 then some (5,0)else if 16<(t2.Members.length:Int)then some (4,116)else(ja (Jj t2) 0).bind λy=>match y with |.inr v=>some v |.inl _=>some (0,0)
def Di(t0:GLaw):Int->Option (Ex Int Unit GLawError):=λs2=>if s2<(t0.Enums.length:Int)then (idx t0.Enums s2).bind λb=>(Hn t0 s2 b).bind λa=>if¬a.1=0 then some (Ex.ret (GLawError.mk a.1 1 s2 a.2))else some (Ex.go (ca .i64 (s2+1)))else some (Ex.brk ())
def Zo(t0:GLaw):Option GLawError:=if 8<(t0.Enums.length:Int)then some (GLawError.mk 4 1 8 0)else(ja (Di t0) 0).bind λy=>match y with |.inr v=>some v |.inl _=>some (GLawError.mk 0 0 0 0)
def vc(t0:GType) (t1:List GEnum):Option Bool:=oaa (α:=Bool) (if t0.Kind=1 then some true else if t0.Kind=2 then some true else if t0.Kind=3 then some true else if t0.Kind=4 then some true else some (t0.Kind==5)) λa=>if a=true then some (t0.Enum==0)else if t0.Kind=6 then oaa (α:=Bool) (if 0<=t0.Enum then some (decide (t0.Enum<(t1.length:Int)))else some false) λb=>some b else some false
def kd(t0:GType) (t1:List GEnum):Option (Int×Int):=(vc t0 t1).bind λa=>if a=false then some (0,(-1))else if t0.Kind=1 then some (0,1)else if t0.Kind=2 then some ((-1000000000000),1000000000000)else if t0.Kind=3 then some ((-1000000000000000),1000000000000000)else if t0.Kind=4 then some ((-1000000000),1000000000)else if t0.Kind=5 then some (0,109572)else(idx t1 t0.Enum).bind λb=>some (0,(ca .i64 ((b.Members.length:Int)-1)))
def Sc(t0:GDateRange):Option Bool:=oaa (α:=Bool) (if 0<=t0.From then if t0.From<=t0.To then some (decide (t0.To<=109573))else some false else some false) λa=>some a
def Lb(t0:List GRow) (t1:(GRow->Option Bool)):Int->Option (Ex Int Unit (Int×Bool)):=λs1=>if s1<(t0.length:Int)then (idx t0 s1).bind λa=>(t1 a).bind λb=>if b=true then some (Ex.ret (s1,true))else some (Ex.go (ca .i64 (s1+1)))else some (Ex.brk ())
def Wb(t0:List GRow) (t1:(GRow->Option Bool)):Option (Int×Bool):=(ja (Lb t0 t1) 0).bind λy=>match y with |.inr v=>some v |.inl _=>some (0,false)
def Ec(t0:GDateRange):Option Bool:=oaa (α:=Bool) ((Sc t0).bind λb=>if b=true then some (decide (t0.From<t0.To))else some false) λa=>some a
def lj(t0:GDateRange) (t1:GDateRange):Option (GDateRange×Bool):=oaa (α:=Bool) ((Ec t0).bind λb=>if b=true then(Ec t1).bind λc=>some (!c)else some true) λa=>if a=true then some ((GDateRange.mk 0 0),false)else if(min t0.To t1.To)<=(max t0.From t1.From)then some ((GDateRange.mk 0 0),false)else some ((GDateRange.mk (max t0.From t1.From) (min t0.To t1.To)),true)
def Lm(t0:GRow) (t1:GRow):Option Bool:=(lj t0.Valid t1.Valid).bind λb=>oaa (α:=Bool) (if b.2=true then some (decide ((max t0.Lo t1.Lo)<(min t0.Hi t1.Hi)))else some false) λa=>some a
def Md(t0:GRow) (t1:GRow):Option Bool:=(Lm t0 t1).bind λa=>some a
def Ui(t0:GTable) (d:(Int×Int)) (k:(Int×Int)):Int->Option (Ex Int Unit (Int×Int)):=λb=>if b<(t0.Rows.length:Int)then (idx t0.Rows b).bind λa=>oaa (α:=Bool) ((Sc a.Valid).bind λh=>if h=true then if¬a.Valid.From=a.Valid.To then some (decide (a.Hi<=a.Lo))else some true else some true) λe=>if e=true then some (Ex.ret (b,3))else oaa (α:=Bool) (if¬a.Lo<d.1 then if¬d.2<a.Lo then if¬(ca .i64 (a.Hi-1))<d.1 then some (decide (d.2<(ca .i64 (a.Hi-1))))else some true else some true else some true) λf=>if f=true then some (Ex.ret (b,3))else oaa (α:=Bool) (if¬a.N<k.1 then some (decide (k.2<a.N))else some true) λg=>if g=true then some (Ex.ret (b,3))else(Tr t0.Rows b).bind λi=>(Wb i (λc=>Md c a)).bind λj=>if j.2=true then some (Ex.ret (b,11))else some (Ex.go (ca .i64 (b+1)))else some (Ex.brk ())
def Uj(t0:GTable) (t1:List GEnum):Option (Int×Int):=if 64<(t0.Rows.length:Int)then some (64,4)else oaa (α:=Bool) ((vc t0.Key t1).bind λb=>if b=true then(vc t0.Value t1).bind λc=>some (!c)else some true) λa=>if a=true then some ((-1),8)else(kd t0.Key t1).bind λd=>(kd t0.Value t1).bind λe=>(ja (Ui t0 d e) 0).bind λy=>match y with |.inr v=>some v |.inl _=>some (0,0)
def Jc(t0:List GTable) (t1:(GTable->Option Bool)):Int->Option (Ex Int Unit Int):=λs1=>if s1<(t0.length:Int)then (idx t0 s1).bind λa=>(t1 a).bind λb=>if b=true then some (Ex.ret s1)else some (Ex.go (ca .i64 (s1+1)))else some (Ex.brk ())
def Vb(t0:List GTable) (t1:(GTable->Option Bool)):Option Int:=(ja (Jc t0 t1) 0).bind λy=>match y with |.inr v=>some v |.inl _=>some (-1)
def Za(t0:List GTable) (t1:(GTable->Option Bool)):Option Bool:=(Vb t0 t1).bind λa=>some (decide (0<=a))
def kf(t0:GTable) (t1:ByteArray):Option Bool:=some (decide (t0.Name=t1))
def Jk(t0:List GTable) (t1:ByteArray):Option Bool:=(Za t0 (λa=>kf a t1)).bind λb=>some b
def xh(t0:GLaw):Int->Option (Ex Int Unit GLawError):=λs2=>if s2<(t0.Tables.length:Int)then (idx t0.Tables s2).bind λc=>(Uj c t0.Enums).bind λb=>oaa (α:=(Int×Int)) ((Ab c.Name).bind λh=>if h=false then some (2,0)else oaa (α:=Bool) ((gk t0.Enums c.Name).bind λi=>if i=false then(Tr t0.Tables s2).bind λf=>(Jk f c.Name).bind λg=>some g else some true) λd=>if d=true then some (7,0)else if¬b.2=0 then if¬b.1=(-1)then some (b.2,(ca .i64 (100+b.1)))else some (b.2,0)else some (0,0)) λ(a,e)=>if¬a=0 then some (Ex.ret (GLawError.mk a 2 s2 e))else some (Ex.go (ca .i64 (s2+1)))else some (Ex.brk ())
def Wn(t0:GLaw):Option GLawError:=if 8<(t0.Tables.length:Int)then some (GLawError.mk 4 2 8 0)else(ja (xh t0) 0).bind λy=>match y with |.inr v=>some v |.inl _=>some (GLawError.mk 0 0 0 0)
def Ji(t0:List GField):((List GType)×Int)->Option (Ex ((List GType)×Int) (List GType) Unit):=λ(s1,s2)=>if s2<(t0.length:Int)then (idx t0 s2).bind λa=>(app 16 s1 ([a.Type_])).bind λb=>some (Ex.go (b,(ca .i64 (s2+1))))else some (Ex.brk s1)
def zh(t0:List GField):Option (List GType):=(ja (Ji t0) (([]:List GType),0)).bind λy=>match y with |.inr _=>none |.inl a=>some a
def Lg(t0:GLaw) (t1:Int):Option GSignature:=(idx t0.Scopes t1).bind λa=>(zh a.Inputs).bind λe=>(zh a.Defs).bind λf=>oaa (α:=((List GType)×Bool)) (oaa (α:=Bool) (if 0<=a.MemberScope then some (decide (a.MemberScope<(t0.Scopes.length:Int)))else some false) λc=>if c=true then(idx t0.Scopes a.MemberScope).bind λg=>(zh g.Defs).bind λh=>some (h,true)else some (([]:List GType),false)) λ(d,b)=>some (GSignature.mk t0.Enums t0.Tables e f d b)
def wi(t0:List (List Int)) (t1:Int):Option (List Int):=if t0.length<=1048576/\(∀l∈t0,l.length<=1048576/\∀e∈l,0<=e/\e<t0.length)/\0<=t1/\t1<t0.length then some (mF t0 t1)else none
def Ta(t0:List Int):Option (List Int):=if t0.length<=8796093022208 then some (t0.mergeSort λx y=>decide (x<=y))else none
def Fa(t0:List Int):Option (List Int):=if t0.length<=8796093022208 then some (Go.Lib.compact t0)else none
def bj(t0:List Int):Option (List Int):=(Ta t0).bind λa=>(Fa a).bind λb=>some b
def th(t0:List GNode):((List Int)×(List Int)×(List Int)×Int)->Option (Ex ((List Int)×(List Int)×(List Int)×Int) ((List Int)×(List Int)×(List Int)) Unit):=λ(s1,s2,b,g)=>if g<(t0.length:Int)then oaa (α:=((List Int)×(List Int)×(List Int))) ((idx t0 g).bind λa=>if a.Op=7 then(app 8 s1 ([a.N])).bind λj=>some (j,s2,b)else if a.Op=8 then(app 8 s2 ([a.N])).bind λh=>some (s1,h,b)else oaa (α:=Bool) (if a.Op=36 then some true else if a.Op=37 then some true else if a.Op=38 then some true else some (a.Op==39)) λc=>if c=true then(app 8 b ([a.N])).bind λi=>some (s1,s2,i)else some (s1,s2,b)) λ(d,e,f)=>some (Ex.go (d,e,f,(ca .i64 (g+1))))else some (Ex.brk (s1,s2,b))
def ef(t0:List GNode):Option ((List Int)×(List Int)×(List Int)):=(ja (th t0) (([]:List Int),([]:List Int),([]:List Int),0)).bind λy=>match y with |.inr _=>none |.inl (a,b,c)=>(bj a).bind λd=>(bj b).bind λe=>(bj c).bind λf=>some (d,e,f)
def tf(t1:Int) (f:((List Int)×(List Int)×(List Int))):((List Int)×Int)->Option (Ex ((List Int)×Int) (List Int) Unit):=λ(b,c)=>if c<(f.2.1.length:Int)then oaa (α:=(List Int)) ((idx f.2.1 c).bind λe=>oaa (α:=Bool) (if 0<=e then some (decide (e<t1))else some false) λg=>if g=true then(app 8 b ([e])).bind λd=>some d else some b) λa=>some (Ex.go (a,(ca .i64 (c+1))))else some (Ex.brk b)
def sf(t1:Int) (g:((List Int)×(List Int)×(List Int))):((List Int)×Int)->Option (Ex ((List Int)×Int) (List Int) Unit):=λ(a,b)=>if b<(g.2.1.length:Int)then oaa (α:=(List Int)) ((idx g.2.1 b).bind λc=>oaa (α:=Bool) (if 0<=c then some (decide (c<t1))else some false) λd=>if d=true then(app 8 a ([c])).bind λf=>some f else some a) λe=>some (Ex.go (e,(ca .i64 (b+1))))else some (Ex.brk a)
def ie(t0:GRule) (t1:Int):Option (List Int):=(ef t0.Guard).bind λc=>(ef t0.Value).bind λd=>(ja (tf t1 c) (([]:List Int),0)).bind λy=>match y with |.inr _=>none |.inl a=>(ja (sf t1 d) (a,0)).bind λy=>match y with |.inr _=>none |.inl b=>some b
def rh(t0:List Int):Option (List Int):=(Ta t0).bind λa=>(Fa a).bind λb=>some b
def tc(t0:GScope):Option (List (List Int)):=if t0.Defs.length<=1048576/\t0.Rules.length<=1048576/\(∀r∈t0.Rules,r.Guard.length<=1048576/\r.Value.length<=1048576)then ((zaa t0.Defs.length).mapM λ(d:Nat)=>((t0.Rules.filter λ(r:GRule)=>r.Def==(d:Int)).mapM λr=>ie r t0.Defs.length).bind λls=>some (Ig ls.flatten))else none
def Tc(t0:GScope) (t1:Int):Option (List Int):=oaa (α:=Bool) (if¬t1<0 then some (decide ((t0.Defs.length:Int)<=t1))else some true) λa=>if a=true then some ([])else(tc t0).bind λb=>(wi b t1).bind λc=>some c
def Ic(t0:List GScope) (t1:(GScope->Option Bool)):Int->Option (Ex Int Unit Int):=λs1=>if s1<(t0.length:Int)then (idx t0 s1).bind λa=>(t1 a).bind λb=>if b=true then some (Ex.ret s1)else some (Ex.go (ca .i64 (s1+1)))else some (Ex.brk ())
def Ub(t0:List GScope) (t1:(GScope->Option Bool)):Option Int:=(ja (Ic t0 t1) 0).bind λy=>match y with |.inr v=>some v |.inl _=>some (-1)
def Ya(t0:List GScope) (t1:(GScope->Option Bool)):Option Bool:=(Ub t0 t1).bind λa=>some (decide (0<=a))
def Hd(t0:GScope) (t1:GScope):Option Bool:=some (decide (t0.Name=t1.Name))
def Gc(t0:GField) (t1:GField):Option Bool:=some (decide (t0.Name=t1.Name))
def Hc(t0:List GField) (t1:(GField->Option Bool)):Int->Option (Ex Int Unit Int):=λs1=>if s1<(t0.length:Int)then (idx t0 s1).bind λa=>(t1 a).bind λb=>if b=true then some (Ex.ret s1)else some (Ex.go (ca .i64 (s1+1)))else some (Ex.brk ())
def Tb(t0:List GField) (t1:(GField->Option Bool)):Option Int:=(ja (Hc t0 t1) 0).bind λy=>match y with |.inr v=>some v |.inl _=>some (-1)
def Ja(t0:List GField) (t1:(GField->Option Bool)):Option Bool:=(Tb t0 t1).bind λa=>some (decide (0<=a))
def vh(t0:GLaw) (t1:GField) (t2:List GField) (c:List GField):Option Int:=(Ab t1.Name).bind λd=>if d=false then some 2 else oaa (α:=Bool) ((Ja t2 (λa=>Gc a t1)).bind λe=>if e=false then(Ja c (λa=>Gc a t1)).bind λf=>some f else some true) λb=>if b=true then some 7 else(vc t1.Type_ t0.Enums).bind λg=>if g=false then some 8 else some 0
def jd(t0:List GRule) (t1:(GRule->Option Bool)):Int->Option (Ex Int Unit Int):=λs1=>if s1<(t0.length:Int)then (idx t0 s1).bind λa=>(t1 a).bind λb=>if b=true then some (Ex.ret s1)else some (Ex.go (ca .i64 (s1+1)))else some (Ex.brk ())
def qc(t0:List GRule) (t1:(GRule->Option Bool)):Option Int:=(ja (jd t0 t1) 0).bind λy=>match y with |.inr v=>some v |.inl _=>some (-1)
def Pb(t0:List GRule) (t1:(GRule->Option Bool)):Option Bool:=(qc t0 t1).bind λa=>some (decide (0<=a))
def Gf(t0:GRule) (t1:GRule):Option Bool:=some (decide (t0.Name=t1.Name))
def strings_Contains(t0:ByteArray) (t1:ByteArray):Option Bool:=if t1.size=1 then some (t0.data.toList.contains (t1.data.toList.headD 0))else none
def Ah(t0:ByteArray):Int->Option (Ex Int Unit Bool):=λa=>if a<(t0.size:Int)then oaa (α:=Bool) ((Bv t0 a).bind λb=>if¬b<32 then some (decide (126<b))else some true) λc=>if c=true then some (Ex.ret false)else some (Ex.go (ca .i64 (a+1)))else some (Ex.brk ())
def ei(t0:ByteArray):Option Bool:=oaa (α:=Bool) (if¬64<(t0.size:Int)then (strings_Contains t0 (yaa #[34])).bind λb=>some b else some true) λa=>if a=true then some false else(ja (Ah t0) 0).bind λy=>match y with |.inr v=>some v |.inl _=>some true
def aj(t0:Int):Option Int:=oaa (α:=Bool) (if t0=1 then some true else if t0=2 then some true else if t0=3 then some true else if t0=4 then some true else if t0=5 then some true else if t0=6 then some true else if t0=7 then some true else if t0=8 then some true else if t0=9 then some true else if t0=35 then some true else if t0=36 then some true else if t0=37 then some true else if t0=38 then some true else some (t0==39)) λa=>if a=true then some 0 else oaa (α:=Bool) (if t0=10 then some true else if t0=25 then some true else if t0=31 then some true else if t0=32 then some true else if t0=33 then some true else some (t0==34)) λb=>if b=true then some 1 else oaa (α:=Bool) (if t0=11 then some true else if t0=12 then some true else if t0=13 then some true else if t0=14 then some true else if t0=15 then some true else if t0=16 then some true else if t0=17 then some true else if t0=18 then some true else if t0=19 then some true else if t0=20 then some true else if t0=21 then some true else if t0=22 then some true else if t0=23 then some true else if t0=24 then some true else if t0=27 then some true else if t0=28 then some true else if t0=29 then some true else some (t0==30)) λc=>if c=true then some 2 else if t0=26 then some 3 else some (-1)
def Bi(t0:List GNode):((List Int)×(List Int)×Int)->Option (Ex ((List Int)×(List Int)×Int) ((List Int)×(List Int)) ((List Int)×Int×Int)):=λ(g,c,a)=>if a<(t0.length:Int)then (idx t0 a).bind λl=>(aj l.Op).bind λf=>if f<0 then some (Ex.ret ([],a,2))else if(c.length:Int)<f then some (Ex.ret ([],a,5))else(idx g a).bind λx12=>(put g a a).bind λb=>oaa (α:=(List Int)) (if 0<f then(idx c (ca .i64 ((c.length:Int)-f))).bind λh=>(idx b a).bind λx16=>(put b a h).bind λi=>some i else some b) λd=>(Tr c (ca .i64 ((c.length:Int)-f))).bind λj=>(idx d a).bind λk=>(app 8 j ([k])).bind λe=>if 12<(e.length:Int)then some (Ex.ret ([],a,16))else some (Ex.go (d,e,(ca .i64 (a+1))))else some (Ex.brk (g,c))
def Ej(t0:List GNode):Option ((List Int)×Int×Int):=if 48<(t0.length:Int)then some ([],0,4)else if(t0.length:Int)=0 then some ([],0,5)else(Nw 8 0 (t0.length:Int) (t0.length:Int)).bind λc=>(ja (Bi t0) (c,([]:List Int),0)).bind λy=>match y with |.inr v=>some v |.inl (a,b)=>if 1<(b.length:Int)then some ([],(t0.length:Int),4)else some (a,0,0)
def xm(t0:Int):Option Bool:=oaa (α:=Bool) (if t0=1 then some true else if t0=2 then some true else if t0=3 then some true else if t0=4 then some true else if t0=5 then some true else if t0=6 then some true else if t0=7 then some true else if t0=8 then some true else if t0=14 then some true else if t0=15 then some true else if t0=16 then some true else if t0=33 then some true else if t0=34 then some true else if t0=36 then some true else if t0=37 then some true else if t0=38 then some true else some (t0==39)) λa=>if a=true then some true else some false
def xe(t0:Int) (t1:Int) (t2:GSignature):Option (GType×Int):=(kd (GType.mk t1 0) t2.Enums).bind λa=>oaa (α:=Bool) (if¬t0<a.1 then some (decide (a.2<t0))else some true) λb=>if b=true then some ((GType.mk 0 0),3)else some ((GType.mk t1 0),0)
def pq(t0:Int) (t1:GSignature):Option (GType×Int):=if t0<0 then some ((GType.mk 0 0),3)else oaa (α:=Bool) (if¬(t1.Enums.length:Int)<=(ca .i64 (cab t0 16))then (idx t1.Enums (ca .i64 (cab t0 16))).bind λb=>some (decide ((b.Members.length:Int)<=(Bab t0 16)))else some true) λa=>if a=true then some ((GType.mk 0 0),6)else some ((GType.mk 6 (ca .i64 (cab t0 16))),0)
def Yd(t0:Int) (t1:List GType) (t2:GSignature):Option (GType×Int):=oaa (α:=Bool) (if¬t0<0 then some (decide ((t1.length:Int)<=t0))else some true) λb=>if b=true then some ((GType.mk 0 0),6)else(idx t1 t0).bind λa=>(vc a t2.Enums).bind λc=>if c=false then some ((GType.mk 0 0),8)else some (a,0)
def Fj(t0:Int):Option Bool:=oaa (α:=Bool) (if 0<=t0 then some (decide (t0<=5))else some false) λa=>some a
def ym(t0:GNode) (t1:GType) (t2:GSignature):Option (GType×Int):=oaa (α:=(Int⊕(GType×Int))) (if t0.Op=34 then oaa (α:=Bool) (if¬t0.N<0 then(Fj (Bab t0.N 8)).bind λi=>some (!i)else some true) λg=>if g=true then some (Sum.inr ((GType.mk 0 0),3))else some (Sum.inl (ca .i64 (cab t0.N 8)))else some (Sum.inl t0.N)) λz=>match z with |.inr v=>some v |.inl d=>oaa (α:=Bool) (if¬d<0 then some (decide ((t2.Tables.length:Int)<=d))else some true) λh=>if h=true then some ((GType.mk 0 0),6)else(idx t2.Tables d).bind λa=>oaa (α:=Bool) ((vc a.Key t2.Enums).bind λe=>if e=true then(vc a.Value t2.Enums).bind λf=>if f=true then some (!((t1.Kind==a.Key.Kind)&&(t1.Enum==a.Key.Enum)))else some true else some true) λb=>if b=true then some ((GType.mk 0 0),8)else if t0.Op=34 then oaa (α:=Bool) (if a.Key.Kind=3 then some (a.Value.Kind !=4)else some true) λc=>if c=true then some ((GType.mk 0 0),8)else some (a.Key,0)else some (a.Value,0)
def Pf(t0:Int):Option Bool:=oaa (α:=Bool) (if¬t0=2 then if¬t0=3 then some (t0==4)else some true else some true) λa=>some a
def di(t0:GNode) (t1:GSignature):Option (GType×Int):=if t1.HasMembers=false then some ((GType.mk 0 0),6)else if t0.Op=35 then some ((GType.mk 2 0),0)else(Yd t0.N t1.MemberDefs t1).bind λa=>if¬a.2=0 then some ((GType.mk 0 0),a.2)else oaa (α:=Bool) (if t0.Op=36 then if¬a.1.Kind=2 then some (a.1.Kind==3)else some true else oaa (α:=Bool) (if t0.Op=37 then some true else some (t0.Op==38)) λd=>if d=true then some (a.1.Kind==1)else if t0.Op=39 then(Pf a.1.Kind).bind λc=>if c=false then some (a.1.Kind==5)else some true else some false) λb=>if b=false then some ((GType.mk 0 0),8)else some (a.1,0)
def nn(t0:Int) (t1:Int) (t2:Int):Option (GType×Bool):=if t0=14 then oaa (α:=Bool) (if t2=4 then if¬t1=3 then some (t1==4)else some true else some false) λb=>some ((GType.mk t1 0),b)else if t2=2 then oaa (α:=Bool) (if¬t1=2 then some (t1==3)else some true) λc=>some ((GType.mk t1 0),c)else oaa (α:=Bool) (if t0=15 then if t1=3 then some (t2==3)else some false else some false) λa=>if a=true then some ((GType.mk 4 0),true)else some ((GType.mk 0 0),false)
def Fb(t0:Int) (t1:List GType):Option (GType×Bool):=if t0=10 then(idx t1 0).bind λx2=>(Pf x2.Kind).bind λx3=>some (x2,x3)else if t0=25 then(idx t1 0).bind λx5=>some ((GType.mk 1 0),(x5.Kind==1))else oaa (α:=Bool) (if t0=11 then some true else some (t0==12)) λj7=>if j7=true then oaa (α:=(Int×Int×Bool)) ((idx t1 0).bind λf=>(idx t1 1).bind λg=>if f.Kind=g.Kind/\f.Enum=g.Enum then(Pf f.Kind).bind λN=>some (f.Kind,f.Enum,N)else some (f.Kind,f.Enum,false)) λ(n,o,p)=>some ((GType.mk n o),p)else oaa (α:=Bool) (if t0=13 then some true else if t0=14 then some true else some (t0==15)) λq=>if q=true then(idx t1 0).bind λO=>(idx t1 1).bind λP=>(nn t0 O.Kind P.Kind).bind λh=>some (h.1,h.2)else if t0=16 then oaa (α:=(Int×Int×Bool)) ((idx t1 0).bind λc=>if c.Kind=3 then(idx t1 1).bind λQ=>some (c.Kind,c.Enum,(Q.Kind==3))else some (c.Kind,c.Enum,false)) λ(r,s,t)=>some ((GType.mk r s),t)else oaa (α:=Bool) (if t0=17 then some true else some (t0==18)) λu=>if u=true then oaa (α:=(Int×Int×Bool)) ((idx t1 0).bind λa=>(idx t1 1).bind λi=>if a.Kind=i.Kind/\a.Enum=i.Enum then(Pf a.Kind).bind λR=>if R=false then some (a.Kind,a.Enum,(a.Kind==5))else some (a.Kind,a.Enum,true)else some (a.Kind,a.Enum,false)) λ(v,w,x)=>some ((GType.mk v w),x)else oaa (α:=Bool) (if t0=19 then some true else some (t0==20)) λy=>if y=true then(idx t1 0).bind λj=>(idx t1 1).bind λk=>some ((GType.mk 1 0),((j.Kind==k.Kind)&&(j.Enum==k.Enum)))else oaa (α:=Bool) (if t0=21 then some true else some (t0==22)) λz=>if z=true then oaa (α:=Bool) ((idx t1 0).bind λe=>(idx t1 1).bind λl=>if e.Kind=l.Kind/\e.Enum=l.Enum then(Pf e.Kind).bind λS=>if S=false then some (e.Kind==5)else some true else some false) λA=>some ((GType.mk 1 0),A)else oaa (α:=Bool) (if t0=23 then some true else some (t0==24)) λB=>if B=true then oaa (α:=Bool) ((idx t1 0).bind λT=>if T.Kind=1 then(idx t1 1).bind λU=>some (U.Kind==1)else some false) λC=>some ((GType.mk 1 0),C)else if t0=26 then oaa (α:=(Int×Int×Bool)) ((idx t1 1).bind λb=>(idx t1 0).bind λV=>if V.Kind=1 then(idx t1 2).bind λm=>some (b.Kind,b.Enum,((b.Kind==m.Kind)&&(b.Enum==m.Enum)))else some (b.Kind,b.Enum,false)) λ(D,E,F)=>some ((GType.mk D E),F)else oaa (α:=Bool) (if t0=27 then some true else some (t0==28)) λG=>if G=true then oaa (α:=(Int×Int×Bool)) ((idx t1 0).bind λd=>if d.Kind=5 then(idx t1 1).bind λW=>some (d.Kind,d.Enum,(W.Kind==2))else some (d.Kind,d.Enum,false)) λ(H,I,J)=>some ((GType.mk H I),J)else oaa (α:=Bool) (if t0=29 then some true else some (t0==30)) λK=>if K=true then oaa (α:=Bool) ((idx t1 0).bind λX=>if X.Kind=5 then(idx t1 1).bind λY=>some (Y.Kind==5)else some false) λL=>some ((GType.mk 2 0),L)else oaa (α:=Bool) (if t0=31 then some true else some (t0==32)) λM=>if M=true then(idx t1 0).bind λZ=>some ((GType.mk 2 0),(Z.Kind==5))else some ((GType.mk 0 0),false)
def La(t0:GNode) (t1:List GType) (t2:GSignature):Option (GType×Int):=oaa (α:=(Unit⊕(GType×Int))) (if t0.Op=1 then(xe t0.N 1 t2).bind λm=>some (Sum.inr (m.1,m.2))else if t0.Op=2 then(xe t0.N 2 t2).bind λn=>some (Sum.inr (n.1,n.2))else if t0.Op=3 then(xe t0.N 3 t2).bind λo=>some (Sum.inr (o.1,o.2))else if t0.Op=4 then(xe t0.N 4 t2).bind λp=>some (Sum.inr (p.1,p.2))else if t0.Op=5 then(xe t0.N 5 t2).bind λa=>some (Sum.inr (a.1,a.2))else if t0.Op=6 then(pq t0.N t2).bind λb=>some (Sum.inr (b.1,b.2))else if t0.Op=7 then(Yd t0.N t2.Inputs t2).bind λc=>some (Sum.inr (c.1,c.2))else if t0.Op=8 then(Yd t0.N t2.Defs t2).bind λd=>some (Sum.inr (d.1,d.2))else if t0.Op=9 then some (Sum.inr ((GType.mk 5 0),0))else oaa (α:=Bool) (if t0.Op=33 then some true else some (t0.Op==34)) λh=>if h=true then(idx t1 0).bind λk=>(ym t0 k t2).bind λe=>some (Sum.inr (e.1,e.2))else oaa (α:=Bool) (if t0.Op=35 then some true else if t0.Op=36 then some true else if t0.Op=37 then some true else if t0.Op=38 then some true else some (t0.Op==39)) λi=>if i=true then(di t0 t2).bind λf=>some (Sum.inr (f.1,f.2))else oaa (α:=Bool) (if t0.Op=14 then some true else if t0.Op=15 then some true else some (t0.Op==16)) λj=>if j=true then(Fj t0.N).bind λl=>if l=false then some (Sum.inr ((GType.mk 0 0),3))else some (Sum.inl ())else some (Sum.inl ())) λz=>match z with |.inr v=>some v |.inl _=>(Fb t0.Op t1).bind λg=>if g.2=false then some ((GType.mk 0 0),8)else some (g.1,0)
def vm(t0:List GNode) (t1:GSignature):((List GType)×Int)->Option (Ex ((List GType)×Int) (List GType) (GType×Int×Int)):=λ(b,c)=>if c<(t0.length:Int)then (idx t0 c).bind λe=>oaa (α:=Bool) (if¬e.N=0 then(xm e.Op).bind λj=>some (!j)else some false) λi=>if i=true then some (Ex.ret ((GType.mk 0 0),c,2))else(aj e.Op).bind λd=>(Zy b (ca .i64 ((b.length:Int)-d))).bind λf=>(La e f t1).bind λa=>if¬a.2=0 then some (Ex.ret ((GType.mk 0 0),c,a.2))else(Tr b (ca .i64 ((b.length:Int)-d))).bind λg=>(app 16 g ([a.1])).bind λh=>some (Ex.go (h,(ca .i64 (c+1))))else some (Ex.brk b)
def Mq(t0:List GNode) (t1:GSignature):Option (GType×Int×Int):=(Ej t0).bind λb=>if¬b.2.2=0 then some ((GType.mk 0 0),b.2.1,b.2.2)else(ja (vm t0 t1) (([]:List GType),0)).bind λy=>match y with |.inr v=>some v |.inl a=>(idx a 0).bind λc=>some (c,0,0)
def cj(t0:List GNode) (t1:GSignature) (t2:GType):Option Int:=(Mq t0 t1).bind λa=>if¬a.2.2=0 then some a.2.2 else if¬(a.1.Kind=t2.Kind/\a.1.Enum=t2.Enum)then some 8 else some 0
def Kj(e:GRule) (c:List GRule):(Int×Int)->Option (Ex (Int×Int) Int Unit):=λ(a,b)=>if b<(c.length:Int)then oaa (α:=Int) ((idx c b).bind λf=>if f.Def=e.Def then some (ca .i64 (a+1))else some a) λd=>some (Ex.go (d,(ca .i64 (b+1))))else some (Ex.brk a)
def kl(t0:GScope) (t1:Int) (t2:GSignature):Option Int:=(idx t0.Rules t1).bind λa=>(Tr t0.Rules t1).bind λp=>(ja (Kj a p) (0,0)).bind λy=>match y with |.inr _=>none |.inl d=>(Ab a.Name).bind λi=>if i=false then some 2 else(Tr t0.Rules t1).bind λj=>(Pb j (λc=>Gf c a)).bind λk=>if k=true then some 7 else oaa (α:=Bool) (if¬a.Def<0 then some (decide ((t0.Defs.length:Int)<=a.Def))else some true) λe=>if e=true then some 6 else oaa (α:=Bool) (if¬a.Parent=(-1)then if¬a.Parent<0 then if¬t1<=a.Parent then(idx t0.Rules a.Parent).bind λl=>some (l.Def !=a.Def)else some true else some true else some false) λf=>if f=true then some 9 else oaa (α:=Bool) (if¬a.Priority<0 then some (decide (9<a.Priority))else some true) λg=>if g=true then some 3 else oaa (α:=Bool) (if¬a.Valid.From<0 then if¬a.Valid.To<=a.Valid.From then some (decide (109573<a.Valid.To))else some true else some true) λh=>if h=true then some 3 else if 8<=d then some 4 else(ei a.Source).bind λm=>if m=false then some 2 else oaa (α:=(Unit⊕Int)) (if 0<(a.Guard.length:Int)then (cj a.Guard t2 (GType.mk 1 0)).bind λb=>if¬b=0 then some (Sum.inr b)else some (Sum.inl ())else some (Sum.inl ())) λz=>match z with |.inr v=>some v |.inl _=>(idx t0.Defs a.Def).bind λn=>(cj a.Value t2 n.Type_).bind λo=>some o
def tg(t0:List Int) (t1:Int):Int->Option (Ex Int Unit Int):=λs1=>if s1<(t0.length:Int)then (idx t0 s1).bind λa=>if t1=a then some (Ex.ret s1)else some (Ex.go (ca .i64 (s1+1)))else some (Ex.brk ())
def Im(t0:List Int) (t1:Int):Option Int:=(ja (tg t0 t1) 0).bind λy=>match y with |.inr v=>some v |.inl _=>some (-1)
def Fe(t0:List Int) (t1:Int):Option Bool:=(Im t0 t1).bind λa=>some (decide (0<=a))
def Ii(t0:GLaw) (c:GScope):Int->Option (Ex Int Unit (Int×Int)):=λa=>if a<(c.Inputs.length:Int)then (idx c.Inputs a).bind λd=>(Tr c.Inputs a).bind λe=>(vh t0 d e ([])).bind λb=>if¬b=0 then some (Ex.ret (b,(ca .i64 (100+a))))else some (Ex.go (ca .i64 (a+1)))else some (Ex.brk ())
def Gi(t0:GLaw) (c:GScope):Int->Option (Ex Int Unit (Int×Int)):=λa=>if a<(c.Defs.length:Int)then (idx c.Defs a).bind λd=>(Tr c.Defs a).bind λe=>(vh t0 d c.Inputs e).bind λb=>if¬b=0 then some (Ex.ret (b,(ca .i64 (200+a))))else some (Ex.go (ca .i64 (a+1)))else some (Ex.brk ())
def Fi(d:GScope) (c:GSignature):Int->Option (Ex Int Unit (Int×Int)):=λa=>if a<(d.Rules.length:Int)then (kl d a c).bind λb=>if¬b=0 then some (Ex.ret (b,(ca .i64 (300+a))))else some (Ex.go (ca .i64 (a+1)))else some (Ex.brk ())
def Ei(d:GScope):Int->Option (Ex Int Unit (Int×Int)):=λa=>if a<(d.Defs.length:Int)then (Tc d a).bind λb=>(Fe b a).bind λc=>if c=true then some (Ex.ret (9,(ca .i64 (200+a))))else some (Ex.go (ca .i64 (a+1)))else some (Ex.brk ())
def Lj(t0:GLaw) (t1:Int):Option (Int×Int):=(idx t0.Scopes t1).bind λa=>(Tr t0.Scopes t1).bind λf=>oaa (α:=Bool) ((gk t0.Enums a.Name).bind λh=>if h=false then(Jk t0.Tables a.Name).bind λi=>if i=false then(Ya f (λb=>Hd b a)).bind λj=>some j else some true else some true) λg=>(Ab a.Name).bind λk=>if k=false then some (2,0)else if g=true then some (7,0)else oaa (α:=Bool) (if¬a.MemberScope=(-1)then if¬a.MemberScope<0 then if¬t1<=a.MemberScope then(idx f a.MemberScope).bind λd=>some (d.MemberScope !=(-1))else some true else some true else some false) λc=>if c=true then some (6,0)else if 12<(a.Inputs.length:Int)then some (4,112)else if 12<(a.Defs.length:Int)then some (4,212)else(ja (Ii t0 a) 0).bind λy=>match y with |.inr v=>some v |.inl _=>(ja (Gi t0 a) 0).bind λy=>match y with |.inr v=>some v |.inl _=>(Lg t0 t1).bind λe=>(ja (Fi a e) 0).bind λy=>match y with |.inr v=>some v |.inl _=>(ja (Ei a) 0).bind λy=>match y with |.inr v=>some v |.inl _=>some (0,0)
def wh(t0:GLaw):Int->Option (Ex Int Unit GLawError):=λs2=>if s2<(t0.Scopes.length:Int)then (Lj t0 s2).bind λa=>if¬a.1=0 then some (Ex.ret (GLawError.mk a.1 3 s2 a.2))else some (Ex.go (ca .i64 (s2+1)))else some (Ex.brk ())
def Vn(t0:GLaw):Option GLawError:=if 4<(t0.Scopes.length:Int)then some (GLawError.mk 4 3 4 0)else(ja (wh t0) 0).bind λy=>match y with |.inr v=>some v |.inl _=>some (GLawError.mk 0 0 0 0)
def Ik(t0:GLaw):Option GLawError:=(Zo t0).bind λa=>if¬a.Code=0 then some a else(Wn t0).bind λb=>if¬b.Code=0 then some b else(Vn t0).bind λc=>some c
def Me(t0:List GRule) (t1:(GRule->Option Bool)):((List Int)×(List Int)×(List Int)×Int)->Option (Ex ((List Int)×(List Int)×(List Int)×Int) ((List Int)×(List Int)) Unit):=λ(s2,h,i,a)=>if a<(t0.length:Int)then oaa (α:=((List Int)×(List Int)×(List Int))) ((idx t0 a).bind λd=>oaa (α:=Int) (oaa (α:=Bool) (if 0<=d.Parent then some (decide (d.Parent<a))else some false) λo=>if o=true then(idx i d.Parent).bind λj=>some j else some (-1)) λc=>(idx i a).bind λx13=>(put i a c).bind λb=>(t1 d).bind λk=>if k=true then(idx b a).bind λx17=>(put b a (s2.length:Int)).bind λl=>(app 8 s2 ([a])).bind λm=>(app 8 h ([c])).bind λn=>some (m,n,l)else some (s2,h,b)) λ(e,f,g)=>some (Ex.go (e,f,g,(ca .i64 (a+1))))else some (Ex.brk (s2,h))
def af(t0:List GRule) (t1:(GRule->Option Bool)):Option ((List Int)×(List Int)):=(Nw 8 0 (t0.length:Int) (t0.length:Int)).bind λc=>(ja (Me t0 t1) (([]:List Int),([]:List Int),c,0)).bind λy=>match y with |.inr _=>none |.inl (a,b)=>some (a,b)
def mc(t0:GDateRange) (t1:Int):Option Bool:=oaa (α:=Bool) ((Sc t0).bind λb=>if b=true then if t0.From<=t1 then some (decide (t1<t0.To))else some false else some false) λa=>some a
def Kq(t0:List GNode):Option ((List Int)×Int):=(Ej t0).bind λa=>some (a.1,a.2.2)
def Ze(t0:GRule) (t1:Int) (t2:Int):Option Bool:=oaa (α:=Bool) (if t0.Def=t1 then(mc t0.Valid t2).bind λb=>some b else some false) λa=>some a
def Jg(t0:GScope) (b:((List Int)×(List Int))):((List Int)×Int)->Option (Ex ((List Int)×Int) (List Int) Unit):=λ(s2,a)=>if a<(b.1.length:Int)then (idx b.1 a).bind λc=>(idx t0.Rules c).bind λd=>(app 8 s2 ([d.Priority])).bind λe=>some (Ex.go (e,(ca .i64 (a+1))))else some (Ex.brk s2)
def kh(t0:GScope) (t1:Int) (t2:Int):Option ((List Int)×(List Int)×(List Int)):=(af t0.Rules (λa=>Ze a t1 t2)).bind λc=>(ja (Jg t0 c) (([]:List Int),0)).bind λy=>match y with |.inr _=>none |.inl b=>some (c.1,c.2,b)
def sh(t0:GEval_evaluator):((List Int)×Int×Int)->Option (Ex ((List Int)×Int×Int) (List Int) Unit):=λ(b,d,a)=>if 0<=a then(idx b a).bind λx8=>(put b a d).bind λe=>(idx t0.starts d).bind λc=>some (Ex.go (e,(ca .i64 (c-1)),(ca .i64 (a-1))))else some (Ex.brk b)
def we(t0:GEval_evaluator) (t1:Int):Option (List Int):=(idx t0.nodes t1).bind λd=>(aj d.Op).bind λb=>(Nw 8 0 b b).bind λc=>(ja (sh t0) (c,(ca .i64 (t1-1)),(ca .i64 ((c.length:Int)-1)))).bind λy=>match y with |.inr _=>none |.inl a=>some a
def Uk(t0:GNode):Option Bool:=oaa (α:=Bool) ((aj t0.Op).bind λe=>if¬e<0 then if¬t0.N=0 then(xm t0.Op).bind λf=>some (!f)else some false else some true) λc=>if c=true then some false else oaa (α:=Bool) (if t0.Op=14 then some true else if t0.Op=15 then some true else some (t0.Op==16)) λd=>if d=true then oaa (α:=Bool) (if 0<=t0.N then some (decide (t0.N<=5))else some false) λa=>some a else if t0.Op=34 then oaa (α:=Bool) (if 0<=t0.N then some (decide ((Bab t0.N 8)<=5))else some false) λb=>some b else if t0.Op=6 then some (decide (0<=t0.N))else some true
def Jq(t0:GNode) (t1:GEnv):Option Bool:=if t0.Op=7 then oaa (α:=Bool) (if 0<=t0.N then some (decide (t0.N<(t1.Inputs.length:Int)))else some false) λd=>some d else if t0.Op=8 then oaa (α:=Bool) (if 0<=t0.N then if t0.N<(t1.Defs.length:Int)then (idx t1.Defs t0.N).bind λf=>some (f.Kind !=0)else some false else some false) λe=>some e else if t0.Op=33 then oaa (α:=Bool) (if 0<=t0.N then some (decide (t0.N<(t1.Tables.length:Int)))else some false) λa=>some a else if t0.Op=34 then some (decide ((ca .i64 (cab t0.N 8))<(t1.Tables.length:Int)))else oaa (α:=Bool) (if t0.Op=36 then some true else if t0.Op=37 then some true else if t0.Op=38 then some true else some (t0.Op==39)) λb=>if b=true then oaa (α:=Bool) (if 0<=t0.N then some (decide (t0.N<(t1.MemberTypes.length:Int)))else some false) λc=>some c else some true
def Xb(t0:GValue):Option Bool:=oaa (α:=Bool) (if¬t0.Kind=6 then some (t0.Enum !=0)else some false) λe=>if e=true then some false else if t0.Kind=1 then oaa (α:=Bool) (if¬t0.N=0 then some (t0.N==1)else some true) λf=>some f else if t0.Kind=2 then oaa (α:=Bool) (if(-1000000000000)<=t0.N then some (decide (t0.N<=1000000000000))else some false) λg=>some g else if t0.Kind=3 then oaa (α:=Bool) (if(-1000000000000000)<=t0.N then some (decide (t0.N<=1000000000000000))else some false) λa=>some a else if t0.Kind=4 then oaa (α:=Bool) (if(-1000000000)<=t0.N then some (decide (t0.N<=1000000000))else some false) λb=>some b else if t0.Kind=5 then oaa (α:=Bool) (if 0<=t0.N then some (decide (t0.N<=109572))else some false) λc=>some c else if t0.Kind=6 then oaa (α:=Bool) (if 0<=t0.Enum then if t0.Enum<8 then if 0<=t0.N then some (decide (t0.N<16))else some false else some false else some false) λd=>some d else some false
def Zf(t0:List GValue):Int->Option (Ex Int Unit Bool):=λs1=>if s1<(t0.length:Int)then (idx t0 s1).bind λa=>(Xb a).bind λb=>if b=false then some (Ex.ret false)else some (Ex.go (ca .i64 (s1+1)))else some (Ex.brk ())
def Ai(t0:List GValue):Option Bool:=(ja (Zf t0) 0).bind λy=>match y with |.inr v=>some v |.inl _=>some true
def kn(t0:GValue) (t1:GType):Option Bool:=oaa (α:=Bool) ((Xb t0).bind λb=>if b=true then if t0.Kind=t1.Kind then some (t0.Enum==t1.Enum)else some false else some false) λa=>some a
def Wg(t0:Int):Option Bool:=oaa (α:=Bool) (if¬t0=2 then if¬t0=3 then some (t0==4)else some true else some true) λa=>some a
def Ff(t0:Int) (t1:GType):Option Bool:=if¬t1.Enum=0 then some false else if t0=36 then oaa (α:=Bool) (if¬t1.Kind=2 then some (t1.Kind==3)else some true) λa=>some a else if t0=39 then oaa (α:=Bool) ((Wg t1.Kind).bind λc=>if c=false then some (t1.Kind==5)else some true) λb=>some b else some (t1.Kind==1)
def Yb(t0:Int) (t1:Int):Option Bool:=if t0=10 then(Wg t1).bind λa=>some a else if t0=25 then some (t1==1)else some (t1==5)
def Ge(t0:GValue) (t1:GValue):Option Bool:=oaa (α:=Bool) (if t0.Kind=t1.Kind then some (t0.Enum==t1.Enum)else some false) λa=>some a
def Ra(t0:Int) (t1:GValue) (t2:GValue):Option Bool:=oaa (α:=Bool) (if t0=11 then some true else some (t0==12)) λq=>if q=true then oaa (α:=Bool) ((Ge t1 t2).bind λs=>if s=true then(Wg t1.Kind).bind λt=>some t else some false) λr=>some r else if t0=13 then oaa (α:=Bool) (if t2.Kind=2 then if¬t1.Kind=2 then some (t1.Kind==3)else some true else some false) λa=>some a else if t0=14 then oaa (α:=Bool) (if t2.Kind=4 then if¬t1.Kind=3 then some (t1.Kind==4)else some true else some false) λb=>some b else if t0=15 then if t2.Kind=2 then oaa (α:=Bool) (if¬t1.Kind=2 then some (t1.Kind==3)else some true) λc=>some c else oaa (α:=Bool) (if t1.Kind=3 then some (t2.Kind==3)else some false) λd=>some d else if t0=16 then oaa (α:=Bool) (if t1.Kind=3 then some (t2.Kind==3)else some false) λe=>some e else oaa (α:=Bool) (if t0=17 then some true else if t0=18 then some true else if t0=21 then some true else some (t0==22)) λf=>if f=true then oaa (α:=Bool) ((Ge t1 t2).bind λn=>if n=true then(Wg t1.Kind).bind λo=>if o=false then some (t1.Kind==5)else some true else some false) λg=>some g else oaa (α:=Bool) (if t0=19 then some true else some (t0==20)) λh=>if h=true then(Ge t1 t2).bind λp=>some p else oaa (α:=Bool) (if t0=23 then some true else some (t0==24)) λi=>if i=true then oaa (α:=Bool) (if t1.Kind=1 then some (t2.Kind==1)else some false) λj=>some j else oaa (α:=Bool) (if t0=27 then some true else some (t0==28)) λk=>if k=true then oaa (α:=Bool) (if t1.Kind=5 then some (t2.Kind==2)else some false) λl=>some l else oaa (α:=Bool) (if t1.Kind=5 then some (t2.Kind==5)else some false) λm=>some m
def qa(t0:GNode) (t1:List GValue) (t2:GEnv):Option Bool:=if t0.Op=7 then(idx t2.Inputs t0.N).bind λt=>(Xb t).bind λu=>some u else if t0.Op=8 then(idx t2.Defs t0.N).bind λv=>(Xb v).bind λw=>some w else if t0.Op=33 then(idx t2.Tables t0.N).bind λs=>oaa (α:=Bool) ((idx t1 0).bind λx=>(kn x s.Key).bind λf=>if f=true then if 1<=s.Value.Kind then some (decide (s.Value.Kind<=6))else some false else some false) λb=>some b else if t0.Op=34 then(idx t2.Tables (ca .i64 (cab t0.N 8))).bind λa=>oaa (α:=Bool) ((idx t1 0).bind λg=>if g.Kind=3 then if a.Key.Kind=3/\a.Key.Enum=0 then some ((a.Value.Kind==4)&&(a.Value.Enum==0))else some false else some false) λc=>some c else oaa (α:=Bool) (if t0.Op=36 then some true else if t0.Op=37 then some true else if t0.Op=38 then some true else some (t0.Op==39)) λd=>if d=true then(idx t2.MemberTypes t0.N).bind λh=>(Ff t0.Op h).bind λi=>some i else if(t1.length:Int)=1 then(idx t1 0).bind λj=>(Yb t0.Op j.Kind).bind λk=>some k else if(t1.length:Int)=2 then(idx t1 0).bind λl=>(idx t1 1).bind λm=>(Ra t0.Op l m).bind λn=>some n else if(t1.length:Int)=3 then oaa (α:=Bool) ((idx t1 0).bind λo=>if o.Kind=1 then(idx t1 1).bind λp=>(idx t1 2).bind λq=>(Ge p q).bind λr=>some r else some false) λe=>some e else some true
def pj(t0:GNode) (t1:GEnv) (o:GType):(Int×Int×Int×Int)->Option (Ex (Int×Int×Int×Int) (Int×Int×Int) (GValue×Int)):=λ(d,e,c,b)=>if b<(t1.Members.length:Int)then oaa (α:=((Int×Int×Int)⊕(Ex (Int×Int×Int×Int) (Int×Int×Int) (GValue×Int)))) ((idx t1.Members b).bind λf=>oaa (α:=Bool) (if¬(f.length:Int)<=t0.N then(idx f t0.N).bind λl=>some (l.Kind==0)else some true) λg=>if g=true then some (Sum.inr (Ex.ret ((GValue.mk 0 0 0),6)))else(idx f t0.N).bind λa=>(kn a o).bind λm=>if m=false then some (Sum.inr (Ex.ret ((GValue.mk 0 0 0),8)))else if t0.Op=36 then(Xb (GValue.mk d e (ca .i64 (c+a.N)))).bind λn=>if n=false then some (Sum.inr (Ex.ret ((GValue.mk 0 0 0),3)))else some (Sum.inl (d,e,(ca .i64 (c+a.N))))else if t0.Op=37 then some (Sum.inl (d,e,(min c a.N)))else if t0.Op=38 then some (Sum.inl (d,e,(max c a.N)))else if t0.Op=39 then oaa (α:=Bool) (if¬b=0 then some (decide (c<a.N))else some true) λh=>if h=true then some (Sum.inl (a.Kind,a.Enum,a.N))else some (Sum.inl (d,e,c))else some (Sum.inl (d,e,c))) λz=>match z with |.inr v=>some v |.inl (i,j,k)=>some (Ex.go (i,j,k,(ca .i64 (b+1))))else some (Ex.brk (d,e,c))
def lh(t0:GNode) (t1:GEnv):Option (GValue×Int):=(idx t1.MemberTypes t0.N).bind λd=>oaa (α:=Int) (if t0.Op=37 then some 1 else some 0) λe=>oaa (α:=Bool) (if t0.Op=39 then some ((t1.Members.length:Int)==0)else some false) λf=>if f=true then some ((GValue.mk 0 0 0),6)else(ja (pj t0 t1 d) (d.Kind,d.Enum,e,0)).bind λy=>match y with |.inr v=>some v |.inl (a,b,c)=>some ((GValue.mk a b c),0)
def nf(t0:GRow) (t1:Int) (t2:Int):Option Bool:=oaa (α:=Bool) ((mc t0.Valid t1).bind λb=>if b=true then if t0.Lo<=t2 then some (decide (t2<t0.Hi))else some false else some false) λa=>some a
def xn(t0:GTable) (t1:Int) (t2:Int):Option (Int×Bool):=(Wb t0.Rows (λa=>nf a t1 t2)).bind λb=>some (b.1,b.2)
def Zd(t0 t1:Int):Option (Int×Int):=if 0<=t0/\t0<18446744073709551616/\0<=t1/\t1<18446744073709551616 then some (t0*t1 / 18446744073709551616,t0*t1 % 18446744073709551616)else none
def mf(t0 t1 t2:Int):Option (Int×Int):=if 0<=t0/\t0<t2/\0<=t1/\t1<18446744073709551616/\t2<18446744073709551616 then some ((t0*18446744073709551616+t1) / t2,(t0*18446744073709551616+t1) % t2)else none
def Kh(t0:Int) (t1:Int):Option (Int×Int×Bool):=oaa (α:=Int) (if t1<0 then some (ca .u64 (-(ca .u64 t1)))else some (ca .u64 t1)) λc=>(Zd (ca .u64 t0) c).bind λb=>if 1000000<=b.1 then some (0,0,false)else(mf b.1 b.2 1000000).bind λa=>if 1000000000000000<a.1 then some (0,0,false)else if t1<0 then some ((ca .i64 (-(ca .i64 a.1))),(ca .i64 (-(ca .i64 a.2))),true)else some ((ca .i64 a.1),(ca .i64 a.2),true)
def Cg(t0:Int):Option Bool:=oaa (α:=Bool) (if 0<=t0 then some (decide (t0<=5))else some false) λa=>some a
def Se(t0:Int) (t1:Int):Option Bool:=oaa (α:=Bool) (if¬t1<t0 then some (decide (t0<(ca .i64 (-t1))))else some true) λa=>some a
def ee(t0:Int):Option Int:=if t0<0 then some (ca .u64 (-(ca .u64 t0)))else some (ca .u64 t0)
def De(t0:Int) (t1:Int) (t2:Int) (c:Bool) (a:Int):Option Int:=if t1=0 then some t0 else oaa (α:=Bool) (if a=0 then some c else if a=1 then some (!c)else if a=3 then some true else if a=4 then some (decide ((ca .u64 (t2-t1))<=t1))else if a=5 then if¬(ca .u64 (t2-t1))<t1 then if t1=(ca .u64 (t2-t1))then some ((Bab t0 2)==1)else some false else some true else some false) λd=>oaa (α:=Int) (if d=true then some (ca .u64 (t0+1))else some t0) λb=>some b
def qn(t0:Int) (t1:Bool):Option Int:=if t1=true then some (ca .i64 (-(ca .i64 t0)))else some (ca .i64 t0)
def Re(t0:Int) (t1:Int) (t2:Int):Option (Int×Int):=(Cg t2).bind λh=>if h=false then some (0,1)else if t1=0 then some (0,12)else oaa (α:=Bool) ((Se t0 4611686018427387904).bind λi=>if i=false then(Se t1 4611686018427387904).bind λj=>some j else some true) λg=>if g=true then some (0,3)else(ee t0).bind λf=>(ee t1).bind λa=>(quo .u64 f a).bind λb=>(rem .u64 f a).bind λc=>(De b c a (!((decide (t0<0))==(decide (t1<0)))) t2).bind λd=>(qn d (!((decide (t0<0))==(decide (t1<0))))).bind λe=>some (e,0)
def Mm(t0:Int) (t1:Int) (t2:Int):Option (Int×Int):=oaa (α:=Bool) (if¬(ca .i64 (t0+(ca .i64 (cab t1 1000000))))<(-2000000000000000)then some (decide (2000000000000000<(ca .i64 (t0+(ca .i64 (cab t1 1000000))))))else some true) λd=>if d=true then some (0,3)else oaa (α:=Int) (if 1<(ca .i64 (t0+(ca .i64 (cab t1 1000000))))then some (ca .i64 ((Bab (ca .i64 (t0+(ca .i64 (cab t1 1000000)))) 2)+2))else if(ca .i64 (t0+(ca .i64 (cab t1 1000000))))<(-1)then some (ca .i64 ((Bab (ca .i64 (t0+(ca .i64 (cab t1 1000000)))) 2)-2))else some (Bab (ca .i64 (t0+(ca .i64 (cab t1 1000000)))) 2)) λb=>(Re (ca .i64 ((ca .i64 (b*1000000))+(Bab t1 1000000))) 1000000 t2).bind λa=>if¬a.2=0 then some (0,a.2)else oaa (α:=Bool) (if¬(ca .i64 ((ca .i64 ((ca .i64 (t0+(ca .i64 (cab t1 1000000))))-b))+a.1))<(-1000000000000000)then some (decide (1000000000000000<(ca .i64 ((ca .i64 ((ca .i64 (t0+(ca .i64 (cab t1 1000000))))-b))+a.1))))else some true) λc=>if c=true then some (0,3)else some ((ca .i64 ((ca .i64 ((ca .i64 (t0+(ca .i64 (cab t1 1000000))))-b))+a.1)),0)
def Ti(t0:GTable) (t1:Int) (t2:Int):(Int×Int×Int)->Option (Ex (Int×Int×Int) (Int×Int) (Int×Int)):=λ(b,c,d)=>if d<(t0.Rows.length:Int)then oaa (α:=((Int×Int)⊕(Ex (Int×Int×Int) (Int×Int) (Int×Int)))) ((idx t0.Rows d).bind λa=>oaa (α:=Bool) ((mc a.Valid t1).bind λi=>if i=true then some (decide ((min a.Hi t2)<=(max a.Lo 0)))else some true) λf=>if f=true then some (Sum.inl (b,c))else(Kh (ca .i64 ((min a.Hi t2)-(max a.Lo 0))) a.N).bind λe=>if e.2.2=false then some (Sum.inr (Ex.ret (0,3)))else some (Sum.inl ((ca .i64 (b+e.1)),(ca .i64 (c+e.2.1))))) λz=>match z with |.inr v=>some v |.inl (g,h)=>some (Ex.go (g,h,(ca .i64 (d+1))))else some (Ex.brk (b,c))
def Km(t0:GTable) (t1:Int) (t2:Int) (d:Int):Option (Int×Int):=oaa (α:=Bool) (if¬d<0 then some (decide (5<d))else some true) λe=>if e=true then some (0,1)else oaa (α:=Bool) (if t0.Key.Kind=3/\t0.Key.Enum=0 then some (!((t0.Value.Kind==4)&&(t0.Value.Enum==0)))else some true) λf=>if f=true then some (0,8)else oaa (α:=Bool) (if¬t2<(-1000000000000000)then some (decide (1000000000000000<t2))else some true) λg=>if g=true then some (0,3)else(ja (Ti t0 t1 t2) (0,0,0)).bind λy=>match y with |.inr v=>some v |.inl (b,c)=>(Mm b c d).bind λa=>some (a.1,a.2)
def xg(t0:Bool):Option GValue:=if t0=true then some (GValue.mk 1 0 1)else some (GValue.mk 1 0 0)
def Fq(t0:Int):Option Bool:=oaa (α:=Bool) (if(Bab t0 4)=0 then if(Bab t0 100)=0 then some ((Bab t0 400)==0)else some true else some false) λa=>some a
def Vc(t0:Int) (t1:Int):Option Int:=oaa (α:=Bool) (if¬t1<1 then some (decide (12<t1))else some true) λa=>if a=true then some 0 else oaa (α:=Bool) (if t1=2 then(Fq t0).bind λc=>some c else some false) λb=>if b=true then some 29 else(idx mL (ca .i64 (t1-1))).bind λd=>some d
def rm(t0:Int):Option Int:=some (ca .i64 ((ca .i64 ((ca .i64 (cab t0 4))-(ca .i64 (cab t0 100))))+(ca .i64 (cab t0 400))))
def ph(t0:Int):Option Int:=(rm (ca .i64 (t0-1))).bind λa=>(rm 1899).bind λb=>some (ca .i64 ((ca .i64 ((ca .i64 ((ca .i64 (t0-1900))*365))+a))-b))
def rk(t0:Int):Option Bool:=oaa (α:=Bool) (if 0<=t0 then some (decide (t0<=109572))else some false) λa=>some a
def bl(t0:Int):Int->Option (Ex Int Int Unit):=λa=>(ph (ca .i64 (a+1))).bind λb=>if b<=t0 then some (Ex.go (ca .i64 (a+1)))else some (Ex.brk a)
def Zk(d:Int):(Int×Int)->Option (Ex (Int×Int) Unit (Int×Int×Int)):=λ(c,a)=>if a<12 then(Vc d (ca .i64 (a+1))).bind λb=>if c<b then some (Ex.ret (d,(ca .i64 (a+1)),(ca .i64 (c+1))))else some (Ex.go ((ca .i64 (c-b)),(ca .i64 (a+1))))else some (Ex.brk ())
def qk(t0:Int):Option (Int×Int×Int):=(rk t0).bind λb=>if b=false then some (0,0,0)else(ja (bl t0) (ca .i64 (1900+(ca .i64 (cab t0 366))))).bind λy=>match y with |.inr _=>none |.inl a=>(ph a).bind λc=>(ja (Zk a) ((ca .i64 (t0-c)),0)).bind λy=>match y with |.inr v=>some v |.inl _=>some (0,0,0)
def bo(t0:Int) (t1:GValue):Option GValue:=if t0=10 then some (GValue.mk t1.Kind 0 (ca .i64 (-t1.N)))else if t0=25 then(xg (t1.N==0)).bind λb=>some b else(qk t1.N).bind λa=>if t0=31 then some (GValue.mk 2 0 a.1)else some (GValue.mk 2 0 a.2.1)
def bp(t0:Int) (t1:Int) (t2:Int) (h:Int):Option (Int×Int):=(Cg h).bind λj=>if j=false then some (0,1)else if t2=0 then some (0,12)else oaa (α:=Bool) ((Se t0 1000000000000000).bind λk=>if k=false then(Se t1 1000000000).bind λl=>if l=false then(Se t2 1000000000).bind λm=>some m else some true else some true) λi=>if i=true then some (0,3)else(ee t0).bind λe=>(ee t1).bind λf=>(Zd e f).bind λa=>(ee t2).bind λb=>if b<=a.1 then some (0,3)else(mf a.1 a.2 b).bind λc=>if 1000000000000000<c.1 then some (0,3)else(De c.1 c.2 b (!((!((decide (t0<0))==(decide (t1<0))))==(decide (t2<0)))) h).bind λd=>if 1000000000000000<d then some (0,3)else(qn d (!((!((decide (t0<0))==(decide (t1<0))))==(decide (t2<0))))).bind λg=>some (g,0)
def fo(t0:Int) (t1:Int) (t2:Int):Option (Int×Int):=(bp t0 t1 1000000 t2).bind λa=>some (a.1,a.2)
def Xo(t0:Int) (t1:Int):Option (Int×Int):=(Zd (ca .u64 (max t0 (ca .i64 (-t0)))) (ca .u64 (max t1 (ca .i64 (-t1))))).bind λa=>oaa (α:=Bool) (if a.1=0 then some (decide (1000000000000000<a.2))else some true) λb=>if b=true then some (0,3)else if¬(decide (t0<0))=(decide (t1<0))then some ((ca .i64 (-(ca .i64 a.2))),0)else some ((ca .i64 a.2),0)
def Pj(t0:Int):Option Bool:=oaa (α:=Bool) (if 0<=t0 then some (decide (t0<=5))else some false) λa=>some a
def Li(t0:Int) (t1:Int):Option Bool:=oaa (α:=Bool) (if¬t1<t0 then some (decide (t0<(ca .i64 (-t1))))else some true) λa=>some a
def Vw(t0:Int) (t1:Int) (t2:Int):Option (Int×Int):=(Pj t2).bind λd=>if d=false then some (0,1)else oaa (α:=Bool) ((Li t0 1000000000).bind λe=>if e=false then(Li t1 1000000000).bind λf=>some f else some true) λc=>if c=true then some (0,3)else(Re (ca .i64 (t0*t1)) 1000000 t2).bind λa=>if¬a.2=0 then some (0,a.2)else(Li a.1 1000000000).bind λb=>if b=true then some (0,3)else some (a.1,0)
def Mn(t0:Int) (t1:Int) (t2:Int):Option (Int×Int):=(Cg t2).bind λd=>if d=false then some (0,1)else if t1<1 then some (0,12)else oaa (α:=Bool) ((Se t0 1000000000000000).bind λe=>if e=false then some (decide (1000000000000000<t1))else some true) λc=>if c=true then some (0,3)else(Re t0 t1 t2).bind λa=>if¬a.2=0 then some (0,a.2)else(Se (ca .i64 (a.1*t1)) 1000000000000000).bind λb=>if b=true then some (0,3)else some ((ca .i64 (a.1*t1)),0)
def On(t0:Int) (t1:Int) (t2:Int) (b:Bool) (a:Int):Option Bool:=if t1=0 then some false else if a=0 then some b else if a=1 then some (!b)else if a=3 then some true else if a=4 then some (decide ((ca .u64 (t2-t1))<=t1))else if a=5 then oaa (α:=Bool) (if¬(ca .u64 (t2-t1))<t1 then if t1=(ca .u64 (t2-t1))then some ((Bab t0 2)==1)else some false else some true) λc=>some c else some false
def Em(t0:Int) (t1:Int) (t2:Int):Option (Int×Int):=(Pj t2).bind λg=>if g=false then some (0,1)else if t1=0 then some (0,12)else oaa (α:=Bool) ((Li t0 1000000000000000).bind λh=>if h=false then(Li t1 1000000000000000).bind λi=>some i else some true) λf=>if f=true then some (0,3)else(Zd (ca .u64 (max t0 (ca .i64 (-t0)))) 1000000).bind λe=>if(ca .u64 (max t1 (ca .i64 (-t1))))<=e.1 then some (0,3)else(mf e.1 e.2 (ca .u64 (max t1 (ca .i64 (-t1))))).bind λa=>if 1000000000<a.1 then some (0,3)else oaa (α:=Int) ((On a.1 a.2 (ca .u64 (max t1 (ca .i64 (-t1)))) (!((decide (t0<0))==(decide (t1<0)))) t2).bind λd=>if d=true then some (ca .i64 ((ca .i64 a.1)+1))else some (ca .i64 a.1)) λb=>if 1000000000<b then some (0,3)else oaa (α:=Int) (if¬(decide (t0<0))=(decide (t1<0))then some (ca .i64 (-b))else some b) λc=>some (c,0)
def ag(t0:GNode) (t1:GValue) (t2:GValue):Option (GValue×Int):=oaa (α:=(Int×Int×Int)) (if t0.Op=13 then(Xo t1.N t2.N).bind λg=>some (t1.Kind,g.1,g.2)else oaa (α:=Bool) (if t0.Op=14 then some (t1.Kind==3)else some false) λj=>if j=true then(fo t1.N t2.N t0.N).bind λh=>some (t1.Kind,h.1,h.2)else if t0.Op=14 then(Vw t1.N t2.N t0.N).bind λi=>some (t1.Kind,i.1,i.2)else if t0.Op=16 then(Mn t1.N t2.N t0.N).bind λa=>some (t1.Kind,a.1,a.2)else if t2.Kind=2 then(Re t1.N t2.N t0.N).bind λb=>some (t1.Kind,b.1,b.2)else(Em t1.N t2.N t0.N).bind λc=>some (4,c.1,c.2)) λ(d,e,f)=>some ((GValue.mk d 0 e),f)
def Rc(t0:Int) (t1:Int):(Int×Int)->Option (Ex (Int×Int) Int Unit):=λ(b,a)=>if a<(ca .i64 (t1-1))then (Vc t0 (ca .i64 (a+1))).bind λc=>some (Ex.go ((ca .i64 (b+c)),(ca .i64 (a+1))))else some (Ex.brk b)
def ti(t0:Int) (t1:Int) (t2:Int):Option (Int×Int):=oaa (α:=Bool) (if¬t0<1900 then if¬2199<t0 then if¬t1<1 then if¬12<t1 then if¬t2<1 then(Vc t0 t1).bind λc=>some (decide (c<t2))else some true else some true else some true else some true else some true) λb=>if b=true then some (0,3)else(ph t0).bind λd=>(ja (Rc t0 t1) (d,0)).bind λy=>match y with |.inr _=>none |.inl a=>some ((ca .i64 ((ca .i64 (a+t2))-1)),0)
def Xf(t0:Int) (t1:Int):Option (Int×Int):=oaa (α:=Bool) ((rk t0).bind λf=>if f=true then if¬t1<(-3600)then some (decide (3600<t1))else some true else some true) λd=>if d=true then some (0,3)else(qk t0).bind λa=>oaa (α:=Bool) (if¬(ca .i64 ((ca .i64 ((ca .i64 ((ca .i64 ((ca .i64 (a.1-1900))*12))+a.2.1))-1))+t1))<0 then some (decide (3599<(ca .i64 ((ca .i64 ((ca .i64 ((ca .i64 ((ca .i64 (a.1-1900))*12))+a.2.1))-1))+t1))))else some true) λe=>if e=true then some (0,3)else(Vc (ca .i64 (1900+(ca .i64 (cab (ca .i64 ((ca .i64 ((ca .i64 ((ca .i64 ((ca .i64 (a.1-1900))*12))+a.2.1))-1))+t1)) 12)))) (ca .i64 ((Bab (ca .i64 ((ca .i64 ((ca .i64 ((ca .i64 ((ca .i64 (a.1-1900))*12))+a.2.1))-1))+t1)) 12)+1))).bind λc=>(ti (ca .i64 (1900+(ca .i64 (cab (ca .i64 ((ca .i64 ((ca .i64 ((ca .i64 ((ca .i64 (a.1-1900))*12))+a.2.1))-1))+t1)) 12)))) (ca .i64 ((Bab (ca .i64 ((ca .i64 ((ca .i64 ((ca .i64 ((ca .i64 (a.1-1900))*12))+a.2.1))-1))+t1)) 12)+1)) (min a.2.2 c)).bind λb=>some (b.1,b.2)
def ui(t0:Int) (t1:Int):Option Int:=oaa (α:=Bool) ((rk t0).bind λg=>if g=true then(rk t1).bind λh=>if h=true then some (decide (t1<t0))else some true else some true) λf=>if f=true then some 0 else(qk t0).bind λc=>(qk t1).bind λd=>oaa (α:=Int) ((Xf t0 (ca .i64 (12*(ca .i64 (d.1-c.1))))).bind λe=>oaa (α:=Bool) (if e.2=0 then some (decide (t1<e.1))else some true) λa=>if a=true then some (ca .i64 ((ca .i64 (d.1-c.1))-1))else some (ca .i64 (d.1-c.1))) λb=>some (max b 0)
def cc(t0:GNode) (t1:GValue) (t2:GValue):Option (GValue×Int):=oaa (α:=Bool) (if t0.Op=11 then some true else some (t0.Op==27)) λs=>if s=true then some ((GValue.mk t1.Kind 0 (ca .i64 (t1.N+t2.N))),0)else if t0.Op=12 then some ((GValue.mk t1.Kind 0 (ca .i64 (t1.N-t2.N))),0)else oaa (α:=Bool) (if t0.Op=13 then some true else if t0.Op=14 then some true else if t0.Op=15 then some true else some (t0.Op==16)) λt=>if t=true then(ag t0 t1 t2).bind λe=>some (e.1,e.2)else oaa (α:=Bool) (if t0.Op=17 then some true else some (t0.Op==18)) λg=>if g=true then if(t0.Op==17)=(decide (t2.N<t1.N))then some (t2,0)else some (t1,0)else if t0.Op=19 then(xg (t1.N==t2.N)).bind λn=>some (n,0)else if t0.Op=20 then(xg (t1.N !=t2.N)).bind λo=>some (o,0)else if t0.Op=21 then(xg (decide (t1.N<t2.N))).bind λp=>some (p,0)else if t0.Op=22 then(xg (decide (t1.N<=t2.N))).bind λq=>some (q,0)else if t0.Op=23 then oaa (α:=(Int×Int×Int)) (if t1.N=1 then(xg (t2.N==1)).bind λa=>some (a.Kind,a.Enum,a.N)else(xg false).bind λb=>some (b.Kind,b.Enum,b.N)) λ(h,i,j)=>some ((GValue.mk h i j),0)else if t0.Op=24 then oaa (α:=(Int×Int×Int)) (if¬t1.N=1 then(xg (t2.N==1)).bind λc=>some (c.Kind,c.Enum,c.N)else(xg true).bind λd=>some (d.Kind,d.Enum,d.N)) λ(k,l,m)=>some ((GValue.mk k l m),0)else if t0.Op=28 then(Xf t1.N t2.N).bind λf=>some ((GValue.mk 5 0 f.1),f.2)else if t0.Op=29 then some ((GValue.mk 2 0 (ca .i64 (t2.N-t1.N))),0)else(ui t1.N t2.N).bind λr=>some ((GValue.mk 2 0 r),0)
def Ea(t0:GNode) (t1:List GValue) (t2:GEnv):Option (GValue×Int):=oaa (α:=Bool) (if t0.Op=1 then some true else if t0.Op=2 then some true else if t0.Op=3 then some true else if t0.Op=4 then some true else some (t0.Op==5)) λs=>if s=true then some ((GValue.mk t0.Op 0 t0.N),0)else if t0.Op=6 then some ((GValue.mk 6 (ca .i64 (cab t0.N 16)) (Bab t0.N 16)),0)else if t0.Op=7 then(idx t2.Inputs t0.N).bind λt=>some (t,0)else if t0.Op=8 then(idx t2.Defs t0.N).bind λg=>some (g,0)else if t0.Op=9 then some ((GValue.mk 5 0 t2.Date),0)else if t0.Op=35 then some ((GValue.mk 2 0 (t2.Members.length:Int)),0)else oaa (α:=Bool) (if t0.Op=36 then some true else if t0.Op=37 then some true else if t0.Op=38 then some true else some (t0.Op==39)) λf=>if f=true then(lh t0 t2).bind λb=>some (b.1,b.2)else if t0.Op=33 then(idx t2.Tables t0.N).bind λa=>(idx t1 0).bind λh=>(xn a t2.Date h.N).bind λc=>if c.2=false then some ((GValue.mk 0 0 0),6)else(idx a.Rows c.1).bind λi=>some ((GValue.mk a.Value.Kind a.Value.Enum i.N),0)else if t0.Op=34 then(idx t2.Tables (ca .i64 (cab t0.N 8))).bind λj=>(idx t1 0).bind λk=>(Km j t2.Date k.N (Bab t0.N 8)).bind λd=>some ((GValue.mk 3 0 d.1),d.2)else if(t1.length:Int)=1 then(idx t1 0).bind λl=>(bo t0.Op l).bind λm=>some (m,0)else if(t1.length:Int)=2 then(idx t1 0).bind λn=>(idx t1 1).bind λo=>(cc t0 n o).bind λe=>some (e.1,e.2)else(idx t1 0).bind λp=>if p.N=1 then(idx t1 1).bind λq=>some (q,0)else(idx t1 2).bind λr=>some (r,0)
def Zi(t0:GNode) (t1:List GValue) (t2:GEnv):Option (GValue×Int):=oaa (α:=Bool) ((Uk t0).bind λf=>if f=true then(aj t0.Op).bind λg=>some ((t1.length:Int) !=g)else some true) λe=>if e=true then some ((GValue.mk 0 0 0),2)else(Jq t0 t2).bind λh=>if h=false then some ((GValue.mk 0 0 0),6)else oaa (α:=Bool) ((Ai t1).bind λi=>if i=true then(qa t0 t1 t2).bind λc=>some (!c)else some true) λb=>if b=true then some ((GValue.mk 0 0 0),8)else(Ea t0 t1 t2).bind λa=>if¬a.2=0 then some ((GValue.mk 0 0 0),a.2)else(Xb a.1).bind λd=>if d=false then some ((GValue.mk 0 0 0),3)else some (a.1,0)
def Wc(t0:GEval_evaluator) (g:List Int) (c:(GEval_evaluator->Int->Option (GValue×Int))):((List GValue)×Int)->Option (Ex ((List GValue)×Int) (List GValue) (GValue×Int)):=λ(d,a)=>if a<(g.length:Int)then (idx g a).bind λe=>(c t0 e).bind λb=>if¬b.2=0 then some (Ex.ret ((GValue.mk 0 0 0),b.2))else(idx d a).bind λx15=>(put d a b.1).bind λf=>some (Ex.go (f,(ca .i64 (a+1))))else some (Ex.brk d)
def Bc(a:(GEval_evaluator->Int->Option (GValue×Int))) (b:(GEval_evaluator->GNode->(List Int)->Option (GValue×Int))) (R512:(GEval_evaluator->Int->Option (GValue×Int))) (t0:GEval_evaluator) (t1:Int):Option (GValue×Int):=(idx t0.nodes t1).bind λc=>(we t0 t1).bind λe=>oaa (α:=Bool) (if c.Op=23 then some true else if c.Op=24 then some true else some (c.Op==26)) λh=>if h=true then(b t0 c e).bind λg=>some (g.1,g.2)else(Nw 24 (GValue.mk 0 0 0) (e.length:Int) (e.length:Int)).bind λi=>(ja (Wc t0 e a) (i,0)).bind λy=>match y with |.inr v=>some v |.inl f=>(Zi c f t0.env).bind λd=>some (d.1,d.2)
def vf(a:(GEval_evaluator->Int->Option (GValue×Int))) (R455:(GEval_evaluator->GNode->(List Int)->Option (GValue×Int))) (b:(GEval_evaluator->Int->Option (GValue×Int))) (t0:GEval_evaluator) (t1:GNode) (t2:List Int):Option (GValue×Int):=if¬t1.N=0 then some ((GValue.mk 0 0 0),2)else(idx t2 0).bind λj=>(b t0 j).bind λe=>if¬e.2=0 then some ((GValue.mk 0 0 0),e.2)else oaa (α:=Bool) (if t1.Op=26 then some (e.1.N==1)else some false) λi=>if i=true then(idx t2 1).bind λk=>(a t0 k).bind λh=>some (h.1,h.2)else if t1.Op=26 then(idx t2 2).bind λf=>(a t0 f).bind λc=>some (c.1,c.2)else if(t1.Op==23)=(e.1.N==0)then some (e.1,0)else(idx t2 1).bind λg=>(b t0 g).bind λd=>some (d.1,d.2)
def Ac(a:(GEval_evaluator->Int->Option (GValue×Int))) (R455:(GEval_evaluator->GNode->(List Int)->Option (GValue×Int))) (R512:(GEval_evaluator->Int->Option (GValue×Int))) (t0:GEval_evaluator) (t1:Int):Option (GValue×Int):=(a t0 t1).bind λb=>if¬b.2=0 then some ((GValue.mk 0 0 0),b.2)else oaa (α:=Bool) (if b.1.Kind=1 then(Xb b.1).bind λd=>some (!d)else some true) λc=>if c=true then some ((GValue.mk 0 0 0),8)else some (b.1,0)
def da:Nat->(GEval_evaluator->Int->Option (GValue×Int))×(GEval_evaluator->GNode->(List Int)->Option (GValue×Int))×(GEval_evaluator->Int->Option (GValue×Int)) |0=>(λ_ _=>none,λ_ _ _=>none,λ_ _=>none) |n+1=>(Bc (da n).1 (da n).2.1 (da n).2.2,vf (da n).1 (da n).2.1 (da n).2.2,Ac (da n).1 (da n).2.1 (da n).2.2)
def oj(t0:GEval_evaluator) (t1:Int):Option (GValue×Int):=(da Kt).1 t0 t1
def Ir(t0:GEval_evaluator) (t1:GNode) (t2:List Int):Option (GValue×Int):=(da Kt).2.1 t0 t1 t2
def Wo(t0:GEval_evaluator) (t1:Int):Option (GValue×Int):=(da Kt).2.2 t0 t1
def il(t0:List GNode) (t1:GEnv):Option (GValue×Int):=(Kq t0).bind λa=>if¬a.2=0 then some ((GValue.mk 0 0 0),a.2)else(oj (GEval_evaluator.mk t0 a.1 t1) (ca .i64 ((t0.length:Int)-1))).bind λb=>some (b.1,b.2)
def jg(t0:List Int) (t1:List Int):Int->Option (Ex Int Unit Int):=λa=>if a<(t0.length:Int)then (idx t0 a).bind λc=>oaa (α:=Bool) (if¬c<(-1)then some (decide (a<=c))else some true) λe=>if e=true then some (Ex.ret 9)else oaa (α:=Bool) ((idx t1 a).bind λd=>if¬d<0 then some (decide (9<d))else some true) λb=>if b=true then some (Ex.ret 3)else some (Ex.go (ca .i64 (a+1)))else some (Ex.brk ())
def Ni(t0:List Int) (t1:List Int):Option Int:=if¬(t0.length:Int)=(t1.length:Int)then some 2 else if 8<(t0.length:Int)then some 4 else(ja (jg t0 t1) 0).bind λy=>match y with |.inr v=>some v |.inl _=>some 0
def ig(t0:List Int) (t1:Int):((List Int)×Int)->Option (Ex ((List Int)×Int) (List Int) Unit):=λ(s1,s2)=>if s2<(t0.length:Int)then oaa (α:=(List Int)) ((idx t0 s2).bind λb=>if b=t1 then(app 8 s1 ([s2])).bind λc=>some c else some s1) λa=>some (Ex.go (a,(ca .i64 (s2+1))))else some (Ex.brk s1)
def Mi(t0:List Int) (t1:Int):Option (List Int):=(ja (ig t0 t1) (([]:List Int),0)).bind λy=>match y with |.inr _=>none |.inl a=>some a
def Qh(t0:GRuletree_tree) (n:List Int):((List Int)×Int)->Option (Ex ((List Int)×Int) (List Int) Unit):=λ(s2,f)=>if f<(n.length:Int)then oaa (α:=(List Int)) ((idx n f).bind λb=>(idx t0.outcome b).bind λo=>if o=(-1)then some s2 else oaa (α:=(List Int)) (oaa (α:=Bool) (if 0<(s2.length:Int)then (idx t0.priority b).bind λp=>(idx s2 0).bind λg=>(idx t0.priority g).bind λh=>some (decide (h<p))else some false) λc=>if c=true then(Tr s2 0).bind λi=>some i else some s2) λa=>oaa (α:=Bool) (if¬(a.length:Int)=0 then(idx t0.priority b).bind λj=>(idx a 0).bind λk=>(idx t0.priority k).bind λl=>some (j==l)else some true) λd=>if d=true then(app 8 a ([b])).bind λm=>some m else some a) λe=>some (Ex.go (e,(ca .i64 (f+1))))else some (Ex.brk s2)
def Kk(t0:GRuletree_tree) (t1:Int):Option (List Int):=(Mi t0.parent t1).bind λb=>(ja (Qh t0 b) (([]:List Int),0)).bind λy=>match y with |.inr _=>none |.inl a=>some a
def Nb(t0:GRuletree_tree) (t1:Int):Option Int:=(Kk t0 t1).bind λa=>if(a.length:Int)=0 then some (-1)else if(a.length:Int)=1 then(idx a 0).bind λb=>(idx t0.outcome b).bind λc=>some c else some (-2)
def kg(t0:List Int) (t1:List Int) (t2:List Bool):((List Int)×Int)->Option (Ex ((List Int)×Int) (List Int) Unit):=λ(s2,a)=>if 0<=a then oaa (α:=(List Int)) ((Nb (GRuletree_tree.mk t0 t1 s2) a).bind λg=>(idx s2 a).bind λx6=>(put s2 a g).bind λb=>oaa (α:=Bool) ((idx b a).bind λh=>if h=(-1)then (idx t2 a).bind λe=>some e else some false) λc=>if c=true then(idx b a).bind λx13=>(put b a a).bind λf=>some f else some b) λd=>some (Ex.go (d,(ca .i64 (a-1))))else some (Ex.brk s2)
def Oi(t0:List Int) (t1:List Int) (t2:List Bool):Option (List Int):=(Nw 8 0 (t0.length:Int) (t0.length:Int)).bind λb=>(ja (kg t0 t1 t2) (b,(ca .i64 ((t0.length:Int)-1)))).bind λy=>match y with |.inr _=>none |.inl a=>some a
def Wk(t0:List Int) (t1:List Int) (t2:List Bool):Option Int:=oaa (α:=Bool) ((Ni t0 t1).bind λb=>if b=0 then some ((t2.length:Int) !=(t0.length:Int))else some true) λa=>if a=true then some (-1)else(Oi t0 t1 t2).bind λc=>(Nb (GRuletree_tree.mk t0 t1 c) (-1)).bind λd=>some d
def qe(t0:GLaw) (t1:List GValue) (t2:List GField):Int->Option (Ex Int Unit (Int×Int)):=λa=>if a<(t1.length:Int)then (idx t1 a).bind λc=>(idx t2 a).bind λe=>oaa (α:=Bool) (if c.Kind=e.Type_.Kind then some (c.Enum !=e.Type_.Enum)else some true) λf=>if f=true then some (Ex.ret (a,8))else(kd e.Type_ t0.Enums).bind λb=>oaa (α:=Bool) (if¬c.N<b.1 then some (decide (b.2<c.N))else some true) λd=>if d=true then some (Ex.ret (a,3))else some (Ex.go (ca .i64 (a+1)))else some (Ex.brk ())
def pe(t0:GLaw) (t1:List GValue) (t2:List GField):Option (Int×Int):=if(t1.length:Int)<(t2.length:Int)then some ((t1.length:Int),5)else if(t2.length:Int)<(t1.length:Int)then some ((t2.length:Int),4)else(ja (qe t0 t1 t2) 0).bind λy=>match y with |.inr v=>some v |.inl _=>some (0,0)
def rf(t0:GLaw) (t1:Int):Option ((List GField)×Int):=(idx t0.Scopes t1).bind λa=>oaa (α:=Bool) (if¬a.MemberScope<0 then some (decide ((t0.Scopes.length:Int)<=a.MemberScope))else some true) λb=>if b=true then some ([],0)else(idx t0.Scopes a.MemberScope).bind λc=>some (c.Inputs,8)
def Vf(t0:GLaw) (t2:GCase) (c:((List GField)×Int)):Int->Option (Ex Int Unit (Int×Int×Int)):=λa=>if a<(t2.Members.length:Int)then (idx t2.Members a).bind λd=>(pe t0 d c.1).bind λb=>if¬b.2=0 then some (Ex.ret (a,b.1,b.2))else some (Ex.go (ca .i64 (a+1)))else some (Ex.brk ())
def si(t0:GLaw) (t1:Int) (t2:GCase):Option (Int×Int×Int):=oaa (α:=Bool) (if¬t1<0 then some (decide ((t0.Scopes.length:Int)<=t1))else some true) λc=>if c=true then some ((-1),(-1),6)else oaa (α:=Bool) (if¬t2.Date<0 then some (decide (109572<t2.Date))else some true) λd=>if d=true then some ((-1),(-1),3)else(idx t0.Scopes t1).bind λe=>(pe t0 t2.Inputs e.Inputs).bind λb=>if¬b.2=0 then some ((-1),b.1,b.2)else(rf t0 t1).bind λa=>if a.2<(t2.Members.length:Int)then some (a.2,(-1),4)else(ja (Vf t0 t2 a) 0).bind λy=>match y with |.inr v=>some v |.inl _=>some (0,0,0)
def Cc(t0:GLaw) (t1:Int) (t2:GCase) (d:Bool) (b:Int):Option GEvalError:=(Ik t0).bind λe=>if¬e.Code=0 then some (GEvalError.mk 1 (-1) (-1) (-1))else oaa (α:=Bool) (if¬t1<0 then if¬(t0.Scopes.length:Int)<=t1 then if d=true then if¬b<0 then(idx t0.Scopes t1).bind λf=>some (decide ((f.Defs.length:Int)<=b))else some true else some false else some true else some true) λc=>if c=true then some (GEvalError.mk 6 (-1) (-1) (-1))else(si t0 t1 t2).bind λa=>if¬a.2.2=0 then some (GEvalError.mk a.2.2 a.1 (-1) (-1))else some (GEvalError.mk 0 0 0 0)
def Gk(t0:GScope) (t1:GEnv) (t2:Int) (j:Int) (g:((List Int)×(List Int)×(List Int))):((List Bool)×Int)->Option (Ex ((List Bool)×Int) (List Bool) (Int×GEvalError)):=λ(c,a)=>if a<(g.1.length:Int)then oaa (α:=((List Bool)⊕(Ex ((List Bool)×Int) (List Bool) (Int×GEvalError)))) ((idx g.1 a).bind λh=>(idx t0.Rules h).bind λi=>if(i.Guard.length:Int)=0 then(idx c a).bind λx9=>(put c a true).bind λe=>some (Sum.inl e)else(il i.Guard t1).bind λb=>if¬b.2=0 then some (Sum.inr (Ex.ret (0,(GEvalError.mk b.2 t2 j h))))else(idx c a).bind λx13=>(put c a (b.1.N==1)).bind λf=>some (Sum.inl f)) λz=>match z with |.inr v=>some v |.inl d=>some (Ex.go (d,(ca .i64 (a+1))))else some (Ex.brk c)
def Bg(t0:GScope) (t1:GEnv) (t2:Int) (e:Int):Option (Int×GEvalError):=(kh t0 e t1.Date).bind λb=>(Nw 1 false (b.1.length:Int) (b.1.length:Int)).bind λf=>(ja (Gk t0 t1 t2 e b) (f,0)).bind λy=>match y with |.inr v=>some v |.inl c=>(Wk b.2.1 b.2.2 c).bind λa=>if a<0 then some (a,(GEvalError.mk 0 0 0 0))else(idx b.1 a).bind λd=>some (d,(GEvalError.mk 0 0 0 0))
def ue(t0:GScope):Option ((List Int)×Int):=(tc t0).bind λx=>some (au x)
def Ce(t0:GScope) (t1:GEnv) (t2:Int) (m:List Bool) (l:((List Int)×Int)):((List GValue)×(List Int)×Int)->Option (Ex ((List GValue)×(List Int)×Int) ((List GValue)×(List Int)) (((List Int)×GEvalError)×GEnv)):=λ(b,e,h)=>if h<(l.1.length:Int)then oaa (α:=(((List GValue)×(List Int))⊕(Ex ((List GValue)×(List Int)×Int) ((List GValue)×(List Int)) (((List Int)×GEvalError)×GEnv)))) ((idx l.1 h).bind λc=>(idx m c).bind λn=>if n=false then some (Sum.inl (b,e))else(Bg t0 (GEnv.mk t1.Date t1.Inputs b t1.Members t1.MemberTypes t1.Tables) t2 c).bind λa=>if¬a.2.Code=0 then some (Sum.inr (Ex.ret (([],a.2),(GEnv.mk t1.Date t1.Inputs b t1.Members t1.MemberTypes t1.Tables))))else if a.1=(-1)then some (Sum.inr (Ex.ret (([],(GEvalError.mk 10 t2 c (-1))),(GEnv.mk t1.Date t1.Inputs b t1.Members t1.MemberTypes t1.Tables))))else if a.1=(-2)then some (Sum.inr (Ex.ret (([],(GEvalError.mk 11 t2 c (-1))),(GEnv.mk t1.Date t1.Inputs b t1.Members t1.MemberTypes t1.Tables))))else(idx t0.Rules a.1).bind λi=>(il i.Value (GEnv.mk t1.Date t1.Inputs b t1.Members t1.MemberTypes t1.Tables)).bind λd=>if¬d.2=0 then some (Sum.inr (Ex.ret (([],(GEvalError.mk d.2 t2 c a.1)),(GEnv.mk t1.Date t1.Inputs b t1.Members t1.MemberTypes t1.Tables))))else(idx b c).bind λx18=>(put b c d.1).bind λj=>(idx e c).bind λx20=>(put e c a.1).bind λk=>some (Sum.inl (j,k))) λz=>match z with |.inr v=>some v |.inl (f,g)=>some (Ex.go (f,g,(ca .i64 (h+1))))else some (Ex.brk (b,e))
def Ua(t0:GScope) (t1:GEnv) (t2:Int) (c:List Bool):Option (((List Int)×GEvalError)×GEnv):=(Nw 24 (GValue.mk 0 0 0) (t0.Defs.length:Int) (t0.Defs.length:Int)).bind λd=>(Nw 8 0 (t0.Defs.length:Int) (t0.Defs.length:Int)).bind λe=>(ue t0).bind λf=>(ja (Ce t0 t1 t2 c f) (d,e,0)).bind λy=>match y with |.inr v=>some v |.inl (a,b)=>some ((b,(GEvalError.mk 0 0 0 0)),(GEnv.mk t1.Date t1.Inputs a t1.Members t1.MemberTypes t1.Tables))
def Fk(a:GInterp_needs):((List GType)×Int)->Option (Ex ((List GType)×Int) (List GType) Unit):=λ(s1,s2)=>if s2<(a.memberScope.Defs.length:Int)then (idx a.memberScope.Defs s2).bind λb=>(app 16 s1 ([b.Type_])).bind λc=>some (Ex.go (c,(ca .i64 (s2+1))))else some (Ex.brk s1)
def Ek(t0:GLaw) (t2:GCase) (h:GInterp_needs):((List (List GValue))×(List GMemberResult)×Int)->Option (Ex ((List (List GValue))×(List GMemberResult)×Int) ((List (List GValue))×(List GMemberResult)) (GResult×GEnv×GEvalError)):=λ(g,c,b)=>if b<(t2.Members.length:Int)then (idx t2.Members b).bind λd=>(Ua h.memberScope (GEnv.mk t2.Date d ([]) ([]) ([]) t0.Tables) b h.memberDefs).bind λa=>if¬a.1.2.Code=0 then some (Ex.ret ((GResult.mk ([]) ([]) ([])),(GEnv.mk 0 ([]) ([]) ([]) ([]) ([])),a.1.2))else(app 24 g ([a.2.Defs])).bind λe=>(app 48 c ([(GMemberResult.mk a.2.Defs a.1.1)])).bind λf=>some (Ex.go (e,f,(ca .i64 (b+1))))else some (Ex.brk (g,c))
def Ag(t0:GLaw) (t1:Int) (t2:GCase) (b:GInterp_needs):Option (GResult×GEnv×GEvalError):=(ja (Fk b) (([]:List GType),0)).bind λy=>match y with |.inr _=>none |.inl e=>(ja (Ek t0 t2 b) (([]:List (List GValue)),([]:List GMemberResult),0)).bind λy=>match y with |.inr v=>some v |.inl (c,d)=>(Ua b.scope (GEnv.mk t2.Date t2.Inputs ([]) c e t0.Tables) (-1) b.defs).bind λa=>if¬a.1.2.Code=0 then some ((GResult.mk ([]) ([]) ([])),(GEnv.mk 0 ([]) ([]) ([]) ([]) ([])),a.1.2)else some ((GResult.mk a.2.Defs a.1.1 d),a.2,(GEvalError.mk 0 0 0 0))
def Yn(e:List Int):((List Bool)×Int)->Option (Ex ((List Bool)×Int) (List Bool) Unit):=λ(c,a)=>if a<(e.length:Int)then (idx e a).bind λb=>(idx c b).bind λx13=>(put c b true).bind λd=>some (Ex.go (d,(ca .i64 (a+1))))else some (Ex.brk c)
def qh(t0:GScope) (d:List Bool):((List Int)×Int)->Option (Ex ((List Int)×Int) (List Int) Unit):=λ(b,c)=>if c<(t0.Rules.length:Int)then oaa (α:=(List Int)) ((idx t0.Rules c).bind λa=>oaa (α:=Bool) (if¬a.Def<0 then if¬(t0.Defs.length:Int)<=a.Def then(idx d a.Def).bind λg=>some (!g)else some true else some true) λe=>if e=true then some b else(ef a.Guard).bind λh=>(ef a.Value).bind λi=>(app 8 b h.2.2).bind λj=>(app 8 j i.2.2).bind λk=>some k) λf=>some (Ex.go (f,(ca .i64 (c+1))))else some (Ex.brk b)
def Yh(t0:GScope) (t1:Int):Option (List Int):=oaa (α:=Bool) (if¬t1<0 then some (decide ((t0.Defs.length:Int)<=t1))else some true) λe=>if e=true then some ([])else(Nw 1 false (t0.Defs.length:Int) (t0.Defs.length:Int)).bind λd=>(idx d t1).bind λx5=>(put d t1 true).bind λf=>(tc t0).bind λg=>(wi g t1).bind λh=>(ja (Yn h) (f,0)).bind λy=>match y with |.inr _=>none |.inl a=>(ja (qh t0 a) (([]:List Int),0)).bind λy=>match y with |.inr _=>none |.inl b=>(rh b).bind λc=>some c
def sn(t0:GPayConfig):Option Bool:=some (decide ((t0.Calendar.Holidays.length:Int)<=70))
def Ao(t0:Int):Option Bool:=oaa (α:=Bool) (if 0<=t0 then some (decide (t0<=3599))else some false) λa=>some a
def zv(t0:Int):Option Int:=(Ao t0).bind λa=>if a=false then some 0 else(Vc (ca .i64 (1900+(ca .i64 (cab t0 12)))) (ca .i64 ((Bab t0 12)+1))).bind λb=>some b
def Rq(t0:Int):Option (GDateRange×Int):=(Ao t0).bind λb=>if b=false then some ((GDateRange.mk 0 0),3)else(ti (ca .i64 (1900+(ca .i64 (cab t0 12)))) (ca .i64 ((Bab t0 12)+1)) 1).bind λa=>if¬a.2=0 then some ((GDateRange.mk 0 0),a.2)else(zv t0).bind λc=>some ((GDateRange.mk a.1 (ca .i64 (a.1+c))),0)
def Od(t0:Int):Option Bool:=oaa (α:=Bool) (if 0<=t0 then some (decide (t0<=109572))else some false) λa=>some a
def ld(t0:GCalendar):Int->Option (Ex Int Unit Bool):=λa=>if a<(t0.Holidays.length:Int)then (idx t0.Holidays a).bind λd=>oaa (α:=Bool) ((Od d).bind λe=>if e=true then if 0<a then(idx t0.Holidays (ca .i64 (a-1))).bind λc=>some (decide (d<=c))else some false else some true) λb=>if b=true then some (Ex.ret false)else some (Ex.go (ca .i64 (a+1)))else some (Ex.brk ())
def Vd(t0:GCalendar):Option Bool:=oaa (α:=Bool) (if¬t0.Weekend<0 then if¬126<t0.Weekend then some (decide (64<(t0.Holidays.length:Int)))else some true else some true) λa=>if a=true then some false else(ja (ld t0) 0).bind λy=>match y with |.inr v=>some v |.inl _=>some true
def Ga(t0:GLaw) (t1:Int) (t2:GPayConfig):Option Int:=(Ik t0).bind λb=>if¬(b.Code=0/\b.Section=0/\b.Item=0/\b.Element=0)then some 1 else oaa (α:=Bool) (if¬t1<0 then if¬(t0.Scopes.length:Int)<=t1 then if¬t2.Def<0 then(idx t0.Scopes t1).bind λk=>some (decide ((k.Defs.length:Int)<=t2.Def))else some true else some true else some true) λj=>if j=true then some 6 else(idx t0.Scopes t1).bind λl=>(idx l.Defs t2.Def).bind λa=>if¬(a.Type_.Kind=3/\a.Type_.Enum=0)then some 8 else oaa (α:=Bool) (if¬t2.Rounding<0 then if¬5<t2.Rounding then(Vd t2.Calendar).bind λi=>some (!i)else some true else some true) λc=>if c=true then some 1 else oaa (α:=Bool) (oaa (α:=Bool) (if¬t2.PayDay<1 then some (decide (28<t2.PayDay))else some true) λd=>if d=true then some true else oaa (α:=Bool) (if¬t2.RecoveryCap<0 then some (decide (1000000<t2.RecoveryCap))else some true) λe=>if e=true then some true else oaa (α:=Bool) (if¬t2.RecoveryFloor<0 then some (decide (1000000000000000<t2.RecoveryFloor))else some true) λf=>if f=true then some true else oaa (α:=Bool) (if¬t2.FirstMonth<0 then some (decide (3599<t2.FirstMonth))else some true) λg=>if g=true then some true else if¬t2.AppealDays<0 then some (decide (365<t2.AppealDays))else some true) λh=>if h=true then some 3 else some 0
def Yc(t0:GLaw) (t1:Int):Option ((List GField)×Bool):=(idx t0.Scopes t1).bind λa=>oaa (α:=Bool) (if¬a.MemberScope<0 then some (decide ((t0.Scopes.length:Int)<=a.MemberScope))else some true) λb=>if b=true then some ([],false)else(idx t0.Scopes a.MemberScope).bind λc=>some (c.Inputs,true)
def Hj(t0:GDateRange):Option Bool:=oaa (α:=Bool) ((Sc t0).bind λb=>if b=true then some (decide (t0.From<t0.To))else some false) λa=>some a
def yg(t0:GFact):Option Int:=if t0.Id<0 then some 3 else oaa (α:=Bool) (if¬t0.Member<(-1)then some (decide (8<=t0.Member))else some true) λe=>if e=true then some 3 else oaa (α:=Bool) (if¬t0.Input<(-1)then some (decide (12<=t0.Input))else some true) λf=>if f=true then some 3 else oaa (α:=Bool) (if t0.Member=(-1)then some (t0.Input==(-1))else some false) λg=>if g=true then some 3 else(Hj t0.Valid).bind λd=>if d=false then some 3 else oaa (α:=Bool) (if¬t0.Recorded<0 then some (decide (109572<t0.Recorded))else some true) λa=>if a=true then some 3 else oaa (α:=Bool) (if¬t0.Value.Kind<1 then some (decide (6<t0.Value.Kind))else some true) λb=>if b=true then some 8 else oaa (α:=Bool) (if t0.Input=(-1)then some (t0.Value.Kind !=1)else some false) λc=>if c=true then some 8 else some 0
def Oe:Int->List Int->List GFact->Option (Int×Int) |_,_,[]=>some (0,0) |i,seen,f::l=>(yg f).bind λc=>if¬c=0 then some (i,c)else if seen.contains f.Id then some (i,7)else Oe (i+1) (f.Id::seen) l
def Gj(t0:List GFact):Option (Int×Int):=if 128<(t0.length:Int)then some (0,4)else Oe 0 [] t0
def xf(t0:GLaw) (t1:GHousehold) (l:((List GField)×Bool)):Int->Option (Ex Int Unit (Int×Int)):=λb=>if b<(t1.Facts.length:Int)then (idx t1.Facts b).bind λa=>if t1.Members<=a.Member then some (Ex.ret (b,6))else oaa (α:=(List GField)) (if a.Member=(-1)then (idx t0.Scopes t1.Scope).bind λk=>some k.Inputs else some l.1) λc=>oaa (α:=((Int×Int)⊕(Ex Int Unit (Int×Int)))) (if¬a.Input=(-1)then oaa (α:=Bool) (if¬a.Input<0 then some (decide ((c.length:Int)<=a.Input))else some true) λh=>if h=true then some (Sum.inr (Ex.ret (b,6)))else(idx c a.Input).bind λf=>some (Sum.inl (f.Type_.Kind,f.Type_.Enum))else some (Sum.inl (1,0))) λz=>match z with |.inr v=>some v |.inl (d,e)=>oaa (α:=Bool) (if a.Value.Kind=d then some (a.Value.Enum !=e)else some true) λi=>if i=true then some (Ex.ret (b,8))else(kd (GType.mk d e) t0.Enums).bind λg=>oaa (α:=Bool) (if¬a.Value.N<g.1 then some (decide (g.2<a.Value.N))else some true) λj=>if j=true then some (Ex.ret (b,3))else some (Ex.go (ca .i64 (b+1)))else some (Ex.brk ())
def Oc(t0:GLaw) (t1:GHousehold):Option (Int×Int):=oaa (α:=Bool) (if¬t1.Scope<0 then some (decide ((t0.Scopes.length:Int)<=t1.Scope))else some true) λc=>if c=true then some ((-1),6)else(Yc t0 t1.Scope).bind λb=>oaa (α:=Bool) (if¬t1.Id<0 then if¬t1.Members<0 then if¬8<t1.Members then if¬t1.Members=0 then some (!b.2)else some false else some true else some true else some true) λd=>if d=true then some ((-1),3)else(Gj t1.Facts).bind λa=>if¬a.2=0 then some (a.1,a.2)else(ja (xf t0 t1 b) 0).bind λy=>match y with |.inr v=>some v |.inl _=>some (0,0)
def Ie(t0:GLaw) (t1:GHousehold) (t2:GPayConfig):Option Bool:=(Ga t0 t1.Scope t2).bind λa=>if¬a=0 then some false else(Oc t0 t1).bind λb=>some (b.2==0)
def Ds(t0:GFact) (t1:GFact):Option Bool:=if¬t0.Recorded=t1.Recorded then some (decide (t1.Recorded<t0.Recorded))else some (decide (t1.Id<t0.Id))
def Gn(t0:List GFact) (t1:Int) (t2:Int) (g:Int) (h:Int):(Int×Int)->Option (Ex (Int×Int) Int Unit):=λ(s1,s2)=>if s2<(t0.length:Int)then oaa (α:=Int) ((idx t0 s2).bind λa=>oaa (α:=Bool) (if a.Member=t1 then if a.Input=t2 then if¬h<a.Recorded then(mc a.Valid g).bind λi=>some (!i)else some true else some true else some true) λf=>if f=true then some s1 else oaa (α:=Bool) (if¬s1<0 then(idx t0 s1).bind λd=>(Ds a d).bind λe=>some e else some true) λb=>if b=true then some s2 else some s1) λc=>some (Ex.go (c,(ca .i64 (s2+1))))else some (Ex.brk s1)
def zm(t0:List GFact) (t1:Int) (t2:Int) (c:Int) (d:Int):Option (GValue×Bool):=(ja (Gn t0 t1 t2 c d) ((-1),0)).bind λy=>match y with |.inr _=>none |.inl a=>if a<0 then some ((GValue.mk 0 0 0),false)else(idx t0 a).bind λb=>some (b.Value,true)
def Qd(t0:List GFact) (t1:Int) (c:Int) (d:Int) (e:List GValue):((List GValue)×Int)->Option (Ex ((List GValue)×Int) (List GValue) ((List GValue)×Bool)):=λ(s2,a)=>if a<(e.length:Int)then (zm t0 t1 a c d).bind λb=>if b.2=false then some (Ex.ret ([],false))else(idx s2 a).bind λx7=>(put s2 a b.1).bind λf=>some (Ex.go (f,(ca .i64 (a+1))))else some (Ex.brk s2)
def je(t0:List GFact) (t1:Int) (t2:Int) (c:Int) (d:Int):Option ((List GValue)×Bool):=(Nw 24 (GValue.mk 0 0 0) t2 t2).bind λb=>(ja (Qd t0 t1 c d b) (b,0)).bind λy=>match y with |.inr v=>some v |.inl a=>some (a,true)
def Pe(t0:GHousehold) (t1:Int) (t2:Int):((List Int)×Int)->Option (Ex ((List Int)×Int) (List Int) Unit):=λ(s1,s2)=>if s2<(min (max t0.Members 0) 8)then oaa (α:=(List Int)) ((zm t0.Facts s2 (-1) t1 t2).bind λb=>oaa (α:=Bool) (if b.2=true then if b.1.Kind=1 then some (b.1.N==1)else some false else some false) λc=>if c=true then(app 8 s1 ([s2])).bind λd=>some d else some s1) λa=>some (Ex.go (a,(ca .i64 (s2+1))))else some (Ex.brk s1)
def Kg(t0:GHousehold) (t1:Int) (t2:Int):Option (List Int):=(ja (Pe t0 t1 t2) (([]:List Int),0)).bind λy=>match y with |.inr _=>none |.inl a=>some a
def rj(t1:GHousehold) (t2:Int) (h:Int) (e:((List GField)×Bool)) (c:List Int):((List (List GValue))×Int)->Option (Ex ((List (List GValue))×Int) (List (List GValue)) (GCase×Int)):=λ(b,a)=>if a<(c.length:Int)then (idx c a).bind λf=>(je t1.Facts f (e.1.length:Int) t2 h).bind λd=>if d.2=false then some (Ex.ret ((GCase.mk 0 ([]) ([])),6))else(app 24 b ([d.1])).bind λg=>some (Ex.go (g,(ca .i64 (a+1))))else some (Ex.brk b)
def mh(t0:GLaw) (t1:GHousehold) (t2:Int) (c:Int):Option (GCase×Int):=(Ik t0).bind λa=>if¬(a.Code=0/\a.Section=0/\a.Item=0/\a.Element=0)then some ((GCase.mk 0 ([]) ([])),1)else(Oc t0 t1).bind λh=>if¬h.2=0 then some ((GCase.mk 0 ([]) ([])),1)else oaa (α:=Bool) (if¬t2<0 then some (decide (109572<t2))else some true) λg=>if g=true then some ((GCase.mk 0 ([]) ([])),3)else(idx t0.Scopes t1.Scope).bind λi=>(je t1.Facts (-1) (i.Inputs.length:Int) t2 c).bind λf=>if f.2=false then some ((GCase.mk 0 ([]) ([])),6)else(Yc t0 t1.Scope).bind λd=>(Kg t1 t2 c).bind λe=>(ja (rj t1 t2 c d e) (([]:List (List GValue)),0)).bind λy=>match y with |.inr v=>some v |.inl b=>some ((GCase.mk t2 f.1 b),0)
def Ql(t0:GLaw) (t1:Int):Option (ByteArray×Int×(List GField)×(List GField)×(List GRule)×ByteArray×Int×(List GField)×(List GField)×(List GRule)×(List Bool)×(List Bool)):=(idx t0.Scopes t1).bind λa=>(Nw 1 false (a.Defs.length:Int) (a.Defs.length:Int)).bind λi=>oaa (α:=(ByteArray×Int×(List GField)×(List GField)×(List GRule)×(List Bool))) (if 0<=a.MemberScope then(idx t0.Scopes a.MemberScope).bind λb=>(Nw 1 false (b.Defs.length:Int) (b.Defs.length:Int)).bind λj=>some (b.Name,b.MemberScope,b.Inputs,b.Defs,b.Rules,j)else some ((yaa #[]),0,([]:List GField),([]:List GField),([]:List GRule),([]:List Bool))) λ(g,h,c,d,e,f)=>some (a.Name,a.MemberScope,a.Inputs,a.Defs,a.Rules,g,h,c,d,e,i,f)
def Dk(c:List Int):((List Bool)×Int)->Option (Ex ((List Bool)×Int) (List Bool) Unit):=λ(a,b)=>if b<(c.length:Int)then (idx c b).bind λd=>(idx a d).bind λx33=>(put a d true).bind λe=>some (Ex.go (e,(ca .i64 (b+1))))else some (Ex.brk a)
def zk(c:List Int):((List Bool)×Int)->Option (Ex ((List Bool)×Int) (List Bool) Unit):=λ(a,b)=>if b<(c.length:Int)then (idx c b).bind λd=>(idx a d).bind λx50=>(put a d true).bind λe=>some (Ex.go (e,(ca .i64 (b+1))))else some (Ex.brk a)
def uh(d:ByteArray) (e:Int) (f:List GField) (g:List GField) (h:List GRule) (b:List Bool) (a:Int):Option (List Bool):=(idx b a).bind λx43=>(put b a true).bind λi=>(Tc (GScope.mk d e f g h) a).bind λj=>(ja (zk j) (i,0)).bind λy=>match y with |.inr _=>none |.inl c=>some c
def Ak(d:ByteArray) (e:Int) (f:List GField) (g:List GField) (h:List GRule) (c:List Int):((List Bool)×Int)->Option (Ex ((List Bool)×Int) (List Bool) Unit):=λ(b,a)=>if a<(c.length:Int)then (idx c a).bind λj=>(uh d e f g h b j).bind λi=>some (Ex.go (i,(ca .i64 (a+1))))else some (Ex.brk b)
def xk(g:Int) (a:ByteArray) (b:Int) (c:List GField) (d:List GField) (e:List GRule) (j:ByteArray) (k:Int) (l:List GField) (m:List GField) (n:List GRule) (f:List Bool) (o:List Bool):Option ((List Bool)×(List Bool)):=(idx f g).bind λx26=>(put f g true).bind λp=>(Tc (GScope.mk a b c d e) g).bind λq=>(ja (Dk q) (p,0)).bind λy=>match y with |.inr _=>none |.inl h=>(Yh (GScope.mk a b c d e) g).bind λr=>(ja (Ak j k l m n r) (o,0)).bind λy=>match y with |.inr _=>none |.inl i=>some (h,i)
def Ud(t0:GLaw) (t1:Int) (t2:GCase) (l:Int):Option (GValue×Int×GEvalError):=(Cc t0 t1 t2 true l).bind λs=>if¬s.Code=0 then some ((GValue.mk 0 0 0),0,s)else(Ql t0 t1).bind λ(b,c,d,e,f,g,h,i,j,k,m,n)=>(xk l b c d e f g h i j k m n).bind λ(o,p)=>(Ag t0 t1 t2 (GInterp_needs.mk (GScope.mk b c d e f) (GScope.mk g h i j k) o p)).bind λa=>if¬a.2.2.Code=0 then some ((GValue.mk 0 0 0),0,a.2.2)else(idx a.1.Values l).bind λq=>(idx a.1.Rules l).bind λr=>some (q,r,(GEvalError.mk 0 0 0 0))
def Xh(t0:GLaw) (t1:GHousehold) (t2:GPayConfig) (e:List GDateRange) (f:Int):(Int×Int×Int)->Option (Ex (Int×Int×Int) (Int×Int) (Int×Int)):=λ(s1,s2,b)=>if b<(e.length:Int)then (idx e b).bind λa=>(mh t0 t1 a.From f).bind λc=>if¬c.2=0 then some (Ex.ret (0,c.2))else(Ud t0 t1.Scope c.1 t2.Def).bind λd=>if¬d.2.2.Code=0 then some (Ex.ret (0,d.2.2.Code))else some (Ex.go ((ca .i64 (s1+(ca .i64 (d.1.N*(ca .i64 (a.To-a.From)))))),(ca .i64 (s2+(ca .i64 (a.To-a.From)))),(ca .i64 (b+1))))else some (Ex.brk (s1,s2))
def Zm(t0:GLaw) (t1:GHousehold) (t2:GPayConfig) (d:List GDateRange) (e:Int):Option (Int×Int):=(ja (Xh t0 t1 t2 d e) (0,0,0)).bind λy=>match y with |.inr v=>some v |.inl (b,c)=>(Re b c t2.Rounding).bind λa=>if¬a.2=0 then some (0,a.2)else some ((max a.1 0),0)
def cmp_isNaN_int(t0:Int):Option Bool:=some false
def cmp_Less_int(t0:Int) (t1:Int):Option Bool:=oaa (α:=Bool) ((cmp_isNaN_int t0).bind λb=>if b=true then(cmp_isNaN_int t1).bind λc=>if c=true then some (decide (t0<t1))else some true else some (decide (t0<t1))) λa=>some a
def oh(t0:Int):Option Bool:=some false
def yb(t0:List Int) (t1:Int):(Int×Int)->Option (Ex (Int×Int) Int Unit):=λ(s1,s2)=>if s1<s2 then(idx t0 (ca .i64 (wae (ca .u64 (ca .i64 (s1+s2))) 2))).bind λa=>(cmp_Less_int a t1).bind λb=>if b=true then some (Ex.go ((ca .i64 ((ca .i64 (wae (ca .u64 (ca .i64 (s1+s2))) 2))+1)),s2))else some (Ex.go (s1,(ca .i64 (wae (ca .u64 (ca .i64 (s1+s2))) 2))))else some (Ex.brk s1)
def Va(t0:List Int) (t1:Int):Option (Int×Bool):=(ja (yb t0 t1) (0,(t0.length:Int))).bind λy=>match y with |.inr _=>none |.inl b=>oaa (α:=Bool) (if b<(t0.length:Int)then (idx t0 b).bind λa=>if¬a=t1 then(oh a).bind λd=>if d=true then(oh t1).bind λe=>some e else some false else some true else some false) λc=>some (b,c)
def Rn(t0:GDateRange) (t1:List Int):(Int×(List GDateRange)×Int)->Option (Ex (Int×(List GDateRange)×Int) (Int×(List GDateRange)) Unit):=λ(s2,c,a)=>oaa (α:=Bool) (if a<(t1.length:Int)then (idx t1 a).bind λf=>some (decide (f<t0.To))else some false) λe=>if e=true then(idx t1 a).bind λd=>(app 16 c ([(GDateRange.mk s2 d)])).bind λb=>some (Ex.go (d,b,(ca .i64 (a+1))))else some (Ex.brk (s2,c))
def bn(t0:GDateRange) (t1:List Int):Option (List GDateRange):=(Va t1 (ca .i64 (t0.From+1))).bind λd=>(ja (Rn t0 t1) (t0.From,([]:List GDateRange),d.1)).bind λy=>match y with |.inr _=>none |.inl (a,b)=>(app 16 b ([(GDateRange.mk a t0.To)])).bind λc=>some c
def re(t0:List GDateRange):((List Int)×Int)->Option (Ex ((List Int)×Int) (List Int) Unit):=λ(s1,s2)=>if s2<(t0.length:Int)then oaa (α:=(List Int)) ((idx t0 s2).bind λa=>(Ec a).bind λc=>if c=true then(app 8 s1 ([a.From,a.To])).bind λd=>some d else some s1) λb=>some (Ex.go (b,(ca .i64 (s2+1))))else some (Ex.brk s1)
def Yf(t0:List GDateRange):Option (List Int):=(ja (re t0) (([]:List Int),0)).bind λy=>match y with |.inr _=>none |.inl a=>(Ta a).bind λb=>(Fa b).bind λc=>some c
def Be(t0:List GFact) (t1:Int):((List GDateRange)×Int)->Option (Ex ((List GDateRange)×Int) (List GDateRange) Unit):=λ(s1,s2)=>if s2<(t0.length:Int)then oaa (α:=(List GDateRange)) ((idx t0 s2).bind λb=>oaa (α:=Bool) (if b.Recorded<=t1 then(Hj b.Valid).bind λd=>some d else some false) λc=>if c=true then(app 16 s1 ([b.Valid])).bind λe=>some e else some s1) λa=>some (Ex.go (a,(ca .i64 (s2+1))))else some (Ex.brk s1)
def Ae(d:List Int):((List Int)×Int)->Option (Ex ((List Int)×Int) (List Int) Unit):=λ(a,b)=>if b<(d.length:Int)then oaa (α:=(List Int)) ((idx d b).bind λc=>oaa (α:=Bool) (if 1<=c then some (decide (c<=109572))else some false) λe=>if e=true then(app 8 a ([c])).bind λg=>some g else some a) λf=>some (Ex.go (f,(ca .i64 (b+1))))else some (Ex.brk a)
def Fc(t0:List GFact) (t1:Int):Option (List Int):=(ja (Be t0 t1) (([]:List GDateRange),0)).bind λy=>match y with |.inr _=>none |.inl a=>(Yf a).bind λc=>(ja (Ae c) (([]:List Int),0)).bind λy=>match y with |.inr _=>none |.inl b=>some b
def zc(t0:Int):Option Bool:=oaa (α:=Bool) (if¬t0<1 then some (decide (109572<t0))else some true) λa=>some a
def Of(c:GTable):((List GDateRange)×Int)->Option (Ex ((List GDateRange)×Int) (List GDateRange) Unit):=λ(b,a)=>if a<(c.Rows.length:Int)then (idx c.Rows a).bind λd=>(app 16 b ([d.Valid])).bind λe=>some (Ex.go (e,(ca .i64 (a+1))))else some (Ex.brk b)
def jc(t0:GLaw):((List GDateRange)×Int)->Option (Ex ((List GDateRange)×Int) (List GDateRange) Unit):=λ(s1,s2)=>if s2<(t0.Tables.length:Int)then (idx t0.Tables s2).bind λb=>(ja (Of b) (s1,0)).bind λy=>match y with |.inr _=>none |.inl a=>some (Ex.go (a,(ca .i64 (s2+1))))else some (Ex.brk s1)
def qf(c:GScope):((List GDateRange)×Int)->Option (Ex ((List GDateRange)×Int) (List GDateRange) Unit):=λ(b,a)=>if a<(c.Rules.length:Int)then (idx c.Rules a).bind λd=>(app 16 b ([d.Valid])).bind λe=>some (Ex.go (e,(ca .i64 (a+1))))else some (Ex.brk b)
def fc(t0:GLaw):((List GDateRange)×Int)->Option (Ex ((List GDateRange)×Int) (List GDateRange) Unit):=λ(b,a)=>if a<(t0.Scopes.length:Int)then (idx t0.Scopes a).bind λd=>(ja (qf d) (b,0)).bind λy=>match y with |.inr _=>none |.inl c=>some (Ex.go (c,(ca .i64 (a+1))))else some (Ex.brk b)
def od(d:List GDateRange):((List Int)×Int)->Option (Ex ((List Int)×Int) (List Int) Unit):=λ(a,b)=>if b<(d.length:Int)then oaa (α:=(List Int)) ((idx d b).bind λc=>(Ec c).bind λf=>if f=true then(app 8 a ([c.From,c.To])).bind λg=>some g else some a) λe=>some (Ex.go (e,(ca .i64 (b+1))))else some (Ex.brk a)
def Mf(a:List GDateRange):Option (List Int):=(ja (od a) (([]:List Int),0)).bind λy=>match y with |.inr _=>none |.inl b=>(Ta b).bind λc=>(Fa c).bind λd=>some d
def pd(b:List Int):Int->Option (Ex Int Unit Int):=λa=>if a<(b.length:Int)then (idx b a).bind λc=>(zc c).bind λd=>if d=true then some (Ex.ret a)else some (Ex.go (ca .i64 (a+1)))else some (Ex.brk ())
def Xi(a:List Int):Option Int:=(ja (pd a) 0).bind λy=>match y with |.inr v=>some v |.inl _=>some (-1)
def qd  : ((List Int)×Int×Int)->Option (Ex ((List Int)×Int×Int) ((List Int)×Int) Unit):=λ(a,b,c)=>if c<(a.length:Int)then oaa (α:=((List Int)×Int)) ((idx a c).bind λd=>(zc d).bind λg=>if g=false then(idx a b).bind λx60=>(put a b d).bind λh=>some (h,(ca .i64 (b+1)))else some (a,b)) λ(e,f)=>some (Ex.go (e,f,(ca .i64 (c+1))))else some (Ex.brk (a,b))
def Nf(a:List Int):Option ((List Int)×(List Int)):=(Xi a).bind λc=>if c=(-1)then some (a,a)else(ja qd (a,c,(ca .i64 (c+1)))).bind λy=>match y with |.inr _=>none |.inl (d,b)=>(Zy d b).bind λf=>(tY d b f 0).bind λe=>(Tr e b).bind λg=>some (e,g)
def uf(t0:GLaw):Option (List Int):=(ja (jc t0) (([]:List GDateRange),0)).bind λy=>match y with |.inr _=>none |.inl a=>(ja (fc t0) (a,0)).bind λy=>match y with |.inr _=>none |.inl b=>(Mf b).bind λc=>(Nf c).bind λ(i72,d)=>some d
def Uf(c:(List (List Int))):(Int×Int)->Option (Ex (Int×Int) Int Unit):=λ(a,b)=>if b<(c.length:Int)then (idx c b).bind λd=>if(ca .i64 (a+(d.length:Int)))<0 then none else some (Ex.go ((ca .i64 (a+(d.length:Int))),(ca .i64 (b+1))))else some (Ex.brk a)
def Rf(a:Int):Option (List Int):=if a<0 then none else oaa (α:=(List Int)) (if 0<(ca .i64 (a-(ca .i64 (0-0))))then (mka 8 0 (ca .i64 (a-(ca .i64 (0-0))))).bind λc=>(Tr c 0).bind λd=>some d else some ([]:List Int)) λb=>some b
def Tf(e:(List (List Int))):((List Int)×Int)->Option (Ex ((List Int)×Int) (List Int) Unit):=λ(b,a)=>if a<(e.length:Int)then (idx e a).bind λc=>(app 8 b c).bind λd=>some (Ex.go (d,(ca .i64 (a+1))))else some (Ex.brk b)
def Sf(d:(List (List Int))):Option (List Int):=(ja (Uf d) (0,0)).bind λy=>match y with |.inr _=>none |.inl a=>(Rf a).bind λc=>(ja (Tf d) (c,0)).bind λy=>match y with |.inr _=>none |.inl b=>some b
def Hb(t0:GLaw) (t1:GHousehold) (t2:Int):Option (List Int):=(Fc t1.Facts t2).bind λd=>(uf t0).bind λe=>(lst [d,e]).bind λf=>(Sf f).bind λa=>(Ta a).bind λb=>(Fa b).bind λc=>some c
def Sr(t0:List GNode):Option GLaw:=some (GLaw.mk ([]) ([]) ([(GScope.mk (yaa #[104,111,117,115,101]) (-1) ([(GField.mk (yaa #[97]) (GType.mk 3 0))]) ([(GField.mk (yaa #[100]) (GType.mk 3 0))]) ([(GRule.mk (yaa #[98,97,115,101]) 0 (-1) 0 (GDateRange.mk 0 109573) ([]) t0 (yaa #[]))]))]))
def sj(t0:GHousehold):Option Bool:=some (decide ((t0.Facts.length:Int)<=40))
def Df(t0:GLaw) (t1:GHousehold) (t2:GPayConfig) (l:Int) (m:Int) (f:List Int):((List GAward)×Bool×Int)->Option (Ex ((List GAward)×Bool×Int) (List GAward) Unit):=λ(b,c,a)=>if a<l then oaa (α:=(Bool×Int×Int)) ((Rq a).bind λd=>if¬d.2=0 then some (c,0,3)else if c=true then(bn d.1 f).bind λj=>(Zm t0 t1 t2 j m).bind λe=>some (true,e.1,e.2)else some (false,0,1)) λ(g,h,i)=>(app 24 b ([(GAward.mk a h i)])).bind λk=>some (Ex.go (k,g,(ca .i64 (a+1))))else some (Ex.brk b)
def Wd(t0:GLaw) (t1:GHousehold) (t2:GPayConfig) (a:Int) (b:Int) (f:Int):Option (List GAward):=oaa (α:=Bool) (if¬a<0 then if¬b<a then if¬3600<b then some (decide (120<(ca .i64 (b-a))))else some true else some true else some true) λg=>if g=true then some ([])else(Nw 24 (GAward.mk 0 0 0) 0 (ca .i64 (b-a))).bind λx6=>(Ie t0 t1 t2).bind λh=>oaa (α:=(Bool×(List Int))) (if h=true then(Hb t0 t1 f).bind λi=>some (true,i)else some (false,([]:List Int))) λ(d,e)=>(ja (Df t0 t1 t2 b f e) (([]:List GAward),d,a)).bind λy=>match y with |.inr _=>none |.inl c=>some c
def Sl(t0:GAccount):Option Bool:=oaa (α:=Bool) ((sj t0.Household).bind λb=>if b=true then if(t0.Postings.length:Int)<=200 then some (decide ((t0.Appeals.length:Int)<=20))else some false else some false) λa=>some a
def lG(p:GPosting):Int:=if p.Kind=1 then p.Cents else if p.Kind=2 then ca .i64 (-p.Cents)else if p.Kind=3 then ca .i64 (-p.Cents)else 0
def OC(m:Int) (l:List GPosting) (ks:List Int):Int:=ks.foldl (λs k=>(l.filter λp=>p.Kind==k).foldl (λs p=>if p.Month==m then ca .i64 (s+lG p)else s) s) 0
def lf(t0:List GPosting) (t1:Int):Option Int:=if t0.length<=1099511627776 then some (OC t1 t0 [1,2,3])else none
def Xg(t0:List GPosting) (t1:Int):Option Int:=if t0.length<=1099511627776 then some ((t0.filter λp=>p.Kind==4).foldl (λs p=>if p.Month==t1 then ca .i64 (s+p.Cents)else s) 0)else none
def RN(m:Int) (l:List GPosting):Int:=(l.filter λp=>p.Kind==4).foldl (λs p=>if p.Month==m then ca .i64 (s+p.Cents)else s) 0
def Kp(l:List GPosting) (w:GAward):GMonthBalance:=GMonthBalance.mk w.Month (if w.Code=0 then w.Cents else OC w.Month (l.filter λp=>p.Month==w.Month) [1,2,3]) (OC w.Month (l.filter λp=>p.Month==w.Month) [1,2,3]) (RN w.Month (l.filter λp=>p.Month==w.Month))
def qm(t0:List GAward) (t1:List GPosting):Option (List GMonthBalance):=if t0.length<=1048576/\t1.length<=1048576/\(t0.map λw=>w.Month).Nodup then some (t0.map (Kp t1))else none
def sg(t0:List GAppeal) (t1:Int):Int->Option (Ex Int Unit (Int×Bool)):=λs1=>if 0<=s1 then(idx t0 s1).bind λa=>oaa (α:=Bool) (if a.State=3 then if a.From<=t1 then some (decide (t1<a.To))else some false else some false) λb=>if b=true then some (Ex.ret (a.Cents,true))else some (Ex.go (ca .i64 (s1-1)))else some (Ex.brk ())
def Gm(t0:List GAppeal) (t1:Int):Option (Int×Bool):=(ja (sg t0 t1) (ca .i64 ((t0.length:Int)-1))).bind λy=>match y with |.inr v=>some v |.inl _=>some (0,false)
def fi(t0:List GAward) (t1:List GAppeal):((List GAward)×Int)->Option (Ex ((List GAward)×Int) (List GAward) Unit):=λ(s1,s2)=>if s2<(t0.length:Int)then (idx t0 s2).bind λa=>oaa (α:=(Int×Int)) ((Gm t1 a.Month).bind λb=>if b.2=true then some (b.1,0)else some (a.Cents,a.Code)) λ(c,d)=>(app 24 s1 ([(GAward.mk a.Month c d)])).bind λe=>some (Ex.go (e,(ca .i64 (s2+1))))else some (Ex.brk s1)
def Sg(t0:List GAward) (t1:List GAppeal):Option (List GAward):=(ja (fi t0 t1) (([]:List GAward),0)).bind λy=>match y with |.inr _=>none |.inl a=>some a
def Wa(t0:GLaw) (t1:GPayConfig) (t2:GAccount) (a:Int) (d:Int):Option (List GMonthBalance):=oaa (α:=Bool) (if¬a<t1.FirstMonth then some (decide (3599<a))else some true) λc=>if c=true then some ([])else(Wd t0 t2.Household t1 t1.FirstMonth (ca .i64 (a+1)) d).bind λb=>if(b.length:Int)=0 then some ([])else(Sg b t2.Appeals).bind λe=>(qm e t2.Postings).bind λf=>some f
def Sk(t0:GMonthBalance):Option Int:=some (max (ca .i64 (t0.Due-t0.Received)) 0)
def Cd(t0:GMonthBalance):Option Int:=some (max (ca .i64 ((ca .i64 (t0.Received-t0.Due))-t0.Waived)) 0)
def Mj(t0:List GPosting):((List Int)×Int)->Option (Ex ((List Int)×Int) (List Int) Unit):=λ(s1,s2)=>if s2<(t0.length:Int)then (idx t0 s2).bind λa=>(app 8 s1 ([a.Month])).bind λb=>some (Ex.go (b,(ca .i64 (s2+1))))else some (Ex.brk s1)
def Jn(t0:List GPosting):Option (List Int):=(ja (Mj t0) (([]:List Int),0)).bind λy=>match y with |.inr _=>none |.inl b=>(Ta b).bind λc=>(Fa c).bind λa=>some a
def wj(t0:Int):Option Bool:=oaa (α:=Bool) (if 0<=t0 then some (decide (t0<=109572))else some false) λa=>some a
def Vh(t0:GPayConfig) (t1:Int):Option Bool:=oaa (α:=Bool) (if t0.FirstMonth<=t1 then some (decide (t1<=(min 3599 (ca .i64 ((ca .i64 (t0.FirstMonth+120))-1)))))else some false) λa=>some a
def Kn(t0:GPosting):Option Int:=if t0.Kind=1 then some t0.Cents else oaa (α:=Bool) (if t0.Kind=2 then some true else some (t0.Kind==3)) λa=>if a=true then some (ca .i64 (-t0.Cents))else some 0
def Bh(t0:List GPosting):((List (Int×Int))×Int)->Option (Ex ((List (Int×Int))×Int) Unit (Int×Int)):=λ(s2,b)=>if b<(t0.length:Int)then (idx t0 b).bind λa=>oaa (α:=Bool) (oaa (α:=Bool) (if¬a.Date<0 then some (decide (109572<a.Date))else some true) λi=>if i=true then some true else oaa (α:=Bool) (if¬a.Month<0 then some (decide (3599<a.Month))else some true) λd=>if d=true then some true else if¬a.Cents<1 then some (decide (1000000000000000<a.Cents))else some true) λe=>if e=true then some (Ex.ret (b,3))else oaa (α:=Bool) (if¬a.Kind<1 then some (decide (4<a.Kind))else some true) λf=>if f=true then some (Ex.ret (b,1))else oaa (α:=Bool) (if 0<b then(idx t0 (ca .i64 (b-1))).bind λh=>some (decide (a.Date<h.Date))else some false) λg=>if g=true then some (Ex.ret (b,9))else(Kn a).bind λc=>if((wy (CG a.Month (ca .i64 (((wy s2 a.Month).getD 0)+c)) s2) a.Month).getD 0)<0 then some (Ex.ret (b,13))else some (Ex.go ((CG a.Month (ca .i64 (((wy s2 a.Month).getD 0)+c)) s2),(ca .i64 (b+1))))else some (Ex.brk ())
def Vk(t0:List GPosting):Option (Int×Int):=if 4096<(t0.length:Int)then some (4096,4)else(ja (Bh t0) (([]:List (Int×Int)),0)).bind λy=>match y with |.inr v=>some v |.inl _=>some (0,0)
def fe(t0:Int) (t1:Int):Option Bool:=oaa (α:=Bool) (if 0<=t0 then if t0<t1 then if t1<=3600 then some (decide ((ca .i64 (t1-t0))<=120))else some false else some false else some false) λa=>some a
def No(t0:GAppeal):Option Bool:=oaa (α:=Bool) (if¬t0.Id<0 then(fe t0.From t0.To).bind λe=>some (!e)else some true) λc=>if c=true then some false else oaa (α:=Bool) (if¬t0.Filed<0 then if¬t0.Deadline<t0.Filed then some (decide (109572<t0.Deadline))else some true else some true) λd=>if d=true then some false else oaa (α:=Bool) (if¬t0.State<1 then some (decide (6<t0.State))else some true) λa=>if a=true then some false else oaa (α:=Bool) (if 0<=t0.Cents then if t0.Cents<=1000000000000000 then if¬t0.Cents=0 then some (t0.State==3)else some true else some false else some false) λb=>some b
def Ll(t0:GAccount):Int->Option (Ex Int Unit Bool):=λs1=>if s1<(t0.Household.Facts.length:Int)then (idx t0.Household.Facts s1).bind λa=>if t0.Date<a.Recorded then some (Ex.ret false)else some (Ex.go (ca .i64 (s1+1)))else some (Ex.brk ())
def Kl(t0:GAccount):Int->Option (Ex Int Unit Bool):=λa=>if a<(t0.Postings.length:Int)then (idx t0.Postings a).bind λb=>if t0.Date<b.Date then some (Ex.ret false)else some (Ex.go (ca .i64 (a+1)))else some (Ex.brk ())
def Jl(t0:GAccount):Int->Option (Ex Int Unit Bool):=λa=>if a<(t0.Appeals.length:Int)then (idx t0.Appeals a).bind λb=>if t0.Date<b.Filed then some (Ex.ret false)else some (Ex.go (ca .i64 (a+1)))else some (Ex.brk ())
def km(t0:GAccount):Option Bool:=(ja (Ll t0) 0).bind λy=>match y with |.inr v=>some v |.inl _=>(ja (Kl t0) 0).bind λy=>match y with |.inr v=>some v |.inl _=>(ja (Jl t0) 0).bind λy=>match y with |.inr v=>some v |.inl _=>some true
def Hg(t1:GPayConfig) (t2:GAccount) (c:List Int):Int->Option (Ex Int Unit Int):=λb=>if b<(c.length:Int)then (idx c b).bind λa=>oaa (α:=Bool) (if¬a<t1.FirstMonth then some (decide (t2.LastMonth<a))else some true) λd=>if d=true then some (Ex.ret 3)else oaa (α:=Bool) ((lf t2.Postings a).bind λf=>if¬1000000000000000<f then(Xg t2.Postings a).bind λg=>some (decide (1000000000000000<g))else some true) λe=>if e=true then some (Ex.ret 3)else some (Ex.go (ca .i64 (b+1)))else some (Ex.brk ())
def Gg(t2:GAccount):Int->Option (Ex Int Unit Int):=λa=>if a<(t2.Appeals.length:Int)then (idx t2.Appeals a).bind λb=>oaa (α:=Bool) ((No b).bind λd=>if d=true then some (b.Id !=a)else some true) λc=>if c=true then some (Ex.ret 13)else some (Ex.go (ca .i64 (a+1)))else some (Ex.brk ())
def me(t0:GLaw) (t1:GPayConfig) (t2:GAccount):Option Int:=(Ga t0 t2.Household.Scope t1).bind λf=>if¬f=0 then some 1 else(Oc t0 t2.Household).bind λd=>if¬d.2=0 then some d.2 else oaa (α:=Bool) ((wj t2.Date).bind λg=>if g=true then if¬t2.LastMonth=(-1)then (Vh t1 t2.LastMonth).bind λh=>some (!h)else some false else some true) λe=>if e=true then some 3 else(Vk t2.Postings).bind λa=>if¬a.2=0 then some a.2 else(Jn t2.Postings).bind λb=>(ja (Hg t1 t2 b) 0).bind λy=>match y with |.inr v=>some v |.inl _=>if 16<(t2.Appeals.length:Int)then some 4 else(ja (Gg t2) 0).bind λy=>match y with |.inr v=>some v |.inl _=>(km t2).bind λc=>if c=false then some 9 else some 0
def wa(t0:List GFact):Option (List GFact):=if t0.length<=1099511627776 then some t0 else none
def Kb(t0:List GFact):Option (List GFact):=wa t0
def Sa(t0:List GPosting):Option (List GPosting):=if t0.length<=1099511627776 then some t0 else none
def ab(t0:List GPosting):Option (List GPosting):=Sa t0
def Xa(t0:List GAppeal):Option (List GAppeal):=if t0.length<=1099511627776 then some t0 else none
def jb(t0:List GAppeal):Option (List GAppeal):=Xa t0
def Sj(t0:List GPosting) (t1:List GPosting):Int->Option (Ex Int Unit Bool):=λs2=>oaa (α:=Bool) (if s2<(t0.length:Int)then some (decide (s2<(t1.length:Int)))else some false) λc=>if c=true then(idx t0 s2).bind λa=>(idx t1 s2).bind λb=>if¬(a.Date=b.Date/\a.Month=b.Month/\a.Kind=b.Kind/\a.Cents=b.Cents)then some (Ex.ret false)else some (Ex.go (ca .i64 (s2+1)))else some (Ex.brk ())
def xl(t0:List GPosting) (t1:List GPosting):Option Bool:=if¬(t0.length:Int)=(t1.length:Int)then some false else(ja (Sj t0 t1) 0).bind λy=>match y with |.inr v=>some v |.inl _=>some true
def ql(t0:List GFact) (t1:List GFact):Int->Option (Ex Int Unit Bool):=λs2=>oaa (α:=Bool) (if s2<(t0.length:Int)then some (decide (s2<(t1.length:Int)))else some false) λc=>if c=true then(idx t0 s2).bind λa=>(idx t1 s2).bind λb=>if¬(a.Id=b.Id/\a.Member=b.Member/\a.Input=b.Input/\a.Value.Kind=b.Value.Kind/\a.Value.Enum=b.Value.Enum/\a.Value.N=b.Value.N/\a.Valid.From=b.Valid.From/\a.Valid.To=b.Valid.To/\a.Recorded=b.Recorded)then some (Ex.ret false)else some (Ex.go (ca .i64 (s2+1)))else some (Ex.brk ())
def Qs(t0:List GFact) (t1:List GFact):Option Bool:=if¬(t0.length:Int)=(t1.length:Int)then some false else(ja (ql t0 t1) 0).bind λy=>match y with |.inr v=>some v |.inl _=>some true
def np(t0:GHousehold) (t1:GHousehold):Option Bool:=oaa (α:=Bool) (if t0.Id=t1.Id then if t0.Scope=t1.Scope then if t0.Members=t1.Members then(Qs t0.Facts t1.Facts).bind λb=>some b else some false else some false else some false) λa=>some a
def Yk(t0:List GAppeal) (t1:List GAppeal):Int->Option (Ex Int Unit Bool):=λs2=>oaa (α:=Bool) (if s2<(t0.length:Int)then some (decide (s2<(t1.length:Int)))else some false) λc=>if c=true then(idx t0 s2).bind λa=>(idx t1 s2).bind λb=>if¬(a.Id=b.Id/\a.From=b.From/\a.To=b.To/\a.Filed=b.Filed/\a.Deadline=b.Deadline/\a.State=b.State/\a.Cents=b.Cents)then some (Ex.ret false)else some (Ex.go (ca .i64 (s2+1)))else some (Ex.brk ())
def lp(t0:List GAppeal) (t1:List GAppeal):Option Bool:=if¬(t0.length:Int)=(t1.length:Int)then some false else(ja (Yk t0 t1) 0).bind λy=>match y with |.inr v=>some v |.inl _=>some true
def kp(t0:GAccount) (t1:GAccount):Option Bool:=oaa (α:=Bool) ((np t0.Household t1.Household).bind λb=>if b=true then(xl t0.Postings t1.Postings).bind λc=>if c=true then(lp t0.Appeals t1.Appeals).bind λd=>if d=true then if t0.Date=t1.Date then some (t0.LastMonth==t1.LastMonth)else some false else some false else some false else some false) λa=>some a
def ts(b:List GFact):(Int×Int)->Option (Ex (Int×Int) Int Unit):=λ(s2,a)=>if a<(b.length:Int)then (idx b a).bind λc=>some (Ex.go ((max s2 c.Recorded),(ca .i64 (a+1))))else some (Ex.brk s2)
def mi(t0:GHousehold):Option GAccount:=(wa t0.Facts).bind λa=>(ja (ts a) (0,0)).bind λy=>match y with |.inr _=>none |.inl b=>some (GAccount.mk (GHousehold.mk t0.Id t0.Scope t0.Members a) ([]) ([]) b (-1))
def We(t0:List GAppeal):((List Int)×Int)->Option (Ex ((List Int)×Int) (List Int) Unit):=λ(s2,d)=>if d<(t0.length:Int)then oaa (α:=(List Int)) ((idx t0 d).bind λa=>oaa (α:=Bool) (if¬a.State=1 then some (a.State !=2)else some false) λh=>if h=true then some s2 else if(max a.From 0)<(min a.To 3600)then (idx s2 (max a.From 0)).bind λe=>(put s2 (max a.From 0) (ca .i64 (e+1))).bind λb=>(idx b (min a.To 3600)).bind λf=>(put b (min a.To 3600) (ca .i64 (f-1))).bind λg=>some g else some s2) λc=>some (Ex.go (c,(ca .i64 (d+1))))else some (Ex.brk s2)
def Ve(e:List Int):((List Int)×Int×Int)->Option (Ex ((List Int)×Int×Int) (List Int) Unit):=λ(b,c,a)=>if a<3600 then oaa (α:=((List Int)×Int)) ((idx e a).bind λd=>if 0<(ca .i64 (c+d))then (app 8 b ([a])).bind λh=>some (h,(ca .i64 (c+d)))else some (b,(ca .i64 (c+d)))) λ(f,g)=>some (Ex.go (f,g,(ca .i64 (a+1))))else some (Ex.brk b)
def ib(t0:List GAppeal):Option (List Int):=(Nw 8 0 3601 3601).bind λc=>(ja (We t0) (c,0)).bind λy=>match y with |.inr _=>none |.inl a=>(ja (Ve a) (([]:List Int),0,0)).bind λy=>match y with |.inr _=>none |.inl b=>some b
def fg(t0:Int) (t1:GPayConfig):Option Int:=if t0<1 then some 0 else(fo t0 t1.RecoveryCap 0).bind λa=>if¬a.2=0 then some 0 else some (max (min (ca .i64 (t0-(max t1.RecoveryFloor 0))) a.1) 0)
def Qj(a:List Int):((List (Int×Bool))×Int)->Option (Ex ((List (Int×Bool))×Int) (List (Int×Bool)) Unit):=λ(s1,s2)=>if s2<(a.length:Int)then (idx a s2).bind λb=>some (Ex.go ((CG b true s1),(ca .i64 (s2+1))))else some (Ex.brk s1)
def Hf(m:Int) (l:(List (Int×Bool))):(Int×(List GPosting)×(List GMonthBalance))->Option (Ex (Int×(List GPosting)×(List GMonthBalance)) (Int×(List GPosting)) Unit):=λ(e,a,b)=>oaa (α:=Bool) (if 0<(b.length:Int)then some (decide (0<e))else some false) λf=>if f=true then oaa (α:=(Int×(List GPosting))) ((idx b 0).bind λc=>(Cd c).bind λd=>oaa (α:=Bool) (if¬d<=0 then some ((wy l c.Month).getD false)else some true) λg=>if g=true then some (e,a)else(app 32 a ([(GPosting.mk m c.Month 2 (min d e))])).bind λj=>some ((ca .i64 (e-(min d e))),j)) λ(h,i)=>(Zy b 1).bind λk=>some (Ex.go (h,i,k))else some (Ex.brk (e,a))
def iq(t0:List GMonthBalance) (d:Int) (c:(List (Int×Bool))) (e:Int):Option ((List GPosting)×Int):=(ja (Hf d c) (e,([]:List GPosting),t0)).bind λy=>match y with |.inr _=>none |.inl (a,b)=>some (b,a)
def vq(t0:List GMonthBalance) (t1:Int) (t2:GPayConfig) (c:Int) (d:List Int):Option (List GPosting):=(ja (Qj d) (([]:List (Int×Bool)),0)).bind λy=>match y with |.inr _=>none |.inl b=>(fg t1 t2).bind λe=>(iq t0 c b e).bind λ(a,i30)=>some a
def Dm(t0:List GMonthBalance) (t1:Int) (h:Int):((List GPosting)×Int×Int)->Option (Ex ((List GPosting)×Int×Int) ((List GPosting)×Int) Unit):=λ(s1,s2,c)=>if c<(t0.length:Int)then oaa (α:=((List GPosting)×Int)) ((idx t0 c).bind λe=>(Sk e).bind λf=>oaa (α:=Bool) (if¬t1<e.Month then some (decide (f<=0))else some true) λg=>if g=true then some (s1,s2)else(app 32 s1 ([(GPosting.mk h e.Month 1 f)])).bind λd=>some (d,(ca .i64 (s2+f)))) λ(a,b)=>some (Ex.go (a,b,(ca .i64 (c+1))))else some (Ex.brk (s1,s2))
def Vq(t0:List GMonthBalance) (t1:Int) (t2:GPayConfig) (e:Int) (f:List Int):Option (List GPosting):=(ja (Dm t0 t1 e) (([]:List GPosting),0,0)).bind λy=>match y with |.inr _=>none |.inl (a,b)=>(vq t0 b t2 e f).bind λc=>(app 32 a c).bind λd=>some d
def Tg(t0:Int):Option Bool:=oaa (α:=Bool) (if 0<=t0 then some (decide (t0<=109572))else some false) λa=>some a
def Mr(t0:Int):Option Int:=(rk t0).bind λa=>if a=false then some (-1)else some (Bab t0 7)
def Qn(t0:GCalendar) (t1:Int):Option Bool:=(Mr t1).bind λa=>(B3 t0.Weekend a).bind λb=>if¬(WU b 1)=0 then some false else(Va t0.Holidays t1).bind λc=>some (!c.2)
def yp(t0:GCalendar):(Int×Int)->Option (Ex (Int×Int) Unit (Int×Int)):=λ(s1,s2)=>if s1<=109572 then oaa (α:=(Int⊕(Ex (Int×Int) Unit (Int×Int)))) ((Qn t0 s1).bind λb=>if b=false then some (Sum.inl s2)else if(ca .i64 (s2-1))=0 then some (Sum.inr (Ex.ret (s1,0)))else some (Sum.inl (ca .i64 (s2-1)))) λz=>match z with |.inr v=>some v |.inl a=>some (Ex.go ((ca .i64 (s1+1)),a))else some (Ex.brk ())
def Co(t0:GCalendar) (t1:Int) (t2:Int):Option (Int×Int):=(ja (yp t0) (t1,t2)).bind λy=>match y with |.inr v=>some v |.inl _=>some (0,6)
def Vr(t0:GCalendar) (t1:Int):Option (Int×Int):=(Vd t0).bind λb=>if b=false then some (0,1)else(Od t1).bind λc=>if c=false then some (0,3)else(Co t0 t1 1).bind λa=>some (a.1,a.2)
def ir(t0:GCalendar) (t1:Int) (t2:Int):Option (Int×Int):=(Vd t0).bind λd=>if d=false then some (0,1)else oaa (α:=Bool) ((Od t1).bind λe=>if e=true then if¬t2<0 then some (decide (365<t2))else some true else some true) λc=>if c=true then some (0,3)else if t2=0 then(Vr t0 t1).bind λb=>some (b.1,b.2)else(Co t0 (ca .i64 (t1+1)) t2).bind λa=>some (a.1,a.2)
def xj(t0:GCalendar) (t1:Int) (t2:Int):Option Int:=(ir t0 t1 t2).bind λa=>if¬a.2=0 then some 109572 else some a.1
def Dq(t0:Int) (t1:Int) (t2:Int) (a:Int) (f:Int) (b:GPayConfig):Option (GAppeal×Int):=oaa (α:=Bool) (if¬t0<0 then(Tg a).bind λk=>if k=true then(Tg f).bind λl=>if l=true then(fe t1 t2).bind λm=>some (!m)else some true else some true else some true) λj=>if j=true then some ((GAppeal.mk 0 0 0 0 0 0 0),3)else if a<f then some ((GAppeal.mk 0 0 0 0 0 0 0),14)else oaa (α:=Bool) ((Vd b.Calendar).bind λg=>if g=true then if¬b.AppealDays<0 then some (decide (365<b.AppealDays))else some true else some true) λc=>if c=true then some ((GAppeal.mk 0 0 0 0 0 0 0),1)else oaa (α:=(Int×Int)) ((xj b.Calendar f b.AppealDays).bind λh=>if h<a then some (a,6)else(xj b.Calendar a 60).bind λi=>some (i,1)) λ(d,e)=>some ((GAppeal.mk t0 t1 t2 a d e 0),0)
def zj(t0:Int) (t1:Int):Option Bool:=if t0=1 then oaa (α:=Bool) (if¬t1=2 then if¬t1=4 then some (t1==5)else some true else some true) λa=>some a else if t0=2 then oaa (α:=Bool) (if¬t1=3 then if¬t1=4 then some (t1==5)else some true else some true) λb=>some b else some false
def oi(t0:GAppeal) (t1:Int) (t2:Int) (b:Int):Option (GAppeal×Int):=(zj t0.State t1).bind λd=>if d=false then some ((GAppeal.mk 0 0 0 0 0 0 0),13)else if b<t0.Filed then some ((GAppeal.mk 0 0 0 0 0 0 0),9)else oaa (α:=Bool) (if t0.Deadline<b then if¬t1=2 then some (t1==3)else some true else some false) λc=>if c=true then some ((GAppeal.mk 0 0 0 0 0 0 0),14)else oaa (α:=Bool) (if¬t2<0 then if¬1000000000000000<t2 then if¬t2=0 then some (t1 !=3)else some false else some true else some true) λa=>if a=true then some ((GAppeal.mk 0 0 0 0 0 0 0),3)else some ((GAppeal.mk t0.Id t0.From t0.To t0.Filed t0.Deadline t1 t2),0)
def Te(t2:Int):(Int×(List GPosting)×(List GMonthBalance))->Option (Ex (Int×(List GPosting)×(List GMonthBalance)) (Int×(List GPosting)) Unit):=λ(s2,d,e)=>oaa (α:=Bool) (if 0<(e.length:Int)then some (decide (0<s2))else some false) λj=>if j=true then oaa (α:=(Int×(List GPosting))) ((idx e 0).bind λi=>(Cd i).bind λh=>oaa (α:=Bool) (if¬h<=0 then some false else some true) λa=>if a=true then some (s2,d)else(app 32 d ([(GPosting.mk t2 i.Month 3 (min h s2))])).bind λf=>some ((ca .i64 (s2-(min h s2))),f)) λ(b,c)=>(Zy e 1).bind λg=>some (Ex.go (b,c,g))else some (Ex.brk (s2,d))
def gp(t0:List GMonthBalance) (t1:Int) (t2:Int):Option ((List GPosting)×Int):=(ja (Te t2) (t1,([]:List GPosting),t0)).bind λy=>match y with |.inr _=>none |.inl (a,b)=>some (b,a)
def Fm(t0:List GMonthBalance) (t1:Int) (t2:Int):Option ((List GPosting)×Int):=if t1<1 then some ([],0)else(gp t0 t1 t2).bind λ(a,b)=>some (a,b)
def ob(t0:List GMonthBalance) (t1:(GMonthBalance->Option Bool)):Int->Option (Ex Int Unit Int):=λs1=>if s1<(t0.length:Int)then (idx t0 s1).bind λa=>(t1 a).bind λb=>if b=true then some (Ex.ret s1)else some (Ex.go (ca .i64 (s1+1)))else some (Ex.brk ())
def xa(t0:List GMonthBalance) (t1:(GMonthBalance->Option Bool)):Option Int:=(ja (ob t0 t1) 0).bind λy=>match y with |.inr v=>some v |.inl _=>some (-1)
def Rb(t0:GMonthBalance) (t1:GEvent):Option Bool:=some (t0.Month==t1.Month)
def Rm(t2:GAccount):Option ((List GFact)×(List GPosting)×(List GAppeal)):=(Kb t2.Household.Facts).bind λa=>(ab t2.Postings).bind λb=>(jb t2.Appeals).bind λc=>some (a,b,c)
def Um(t0:GLaw) (t2:GAccount) (b:GEvent) (d:List GFact):Option ((List GFact)×Int):=if¬b.Fact.Recorded=b.Date then some (d,1)else(app 72 d ([b.Fact])).bind λa=>(Oc t0 (GHousehold.mk t2.Household.Id t2.Household.Scope t2.Household.Members a)).bind λc=>some (a,c.2)
def Vm(a:List GPosting) (b:List GPosting):Option ((List GPosting)×Int):=if 4096<(ca .i64 ((a.length:Int)+(b.length:Int)))then some (a,4)else(app 32 a b).bind λc=>some (c,0)
def vj(t0:GLaw) (t1:GPayConfig) (t2:GAccount) (b:GEvent) (j:List GFact) (a:List GPosting) (c:List GAppeal):Option ((List GPosting)×Int×Int):=(Vh t1 b.Month).bind λf=>if f=false then some (a,t2.LastMonth,3)else if b.Month<t2.LastMonth then some (a,t2.LastMonth,9)else(Wa t0 t1 (GAccount.mk (GHousehold.mk t2.Household.Id t2.Household.Scope t2.Household.Members j) a c t2.Date t2.LastMonth) b.Month b.Date).bind λg=>(ib c).bind λh=>(Vq g b.Month t1 b.Date h).bind λi=>(Vm a i).bind λ(d,e)=>some (d,b.Month,e)
def Wm(t1:GPayConfig) (c:GEvent) (a:List GAppeal):Option ((List GAppeal)×Int):=if 16<=(a.length:Int)then some (a,4)else(Dq (a.length:Int) c.Month c.ToMonth c.Date c.Notice t1).bind λb=>if¬b.2=0 then some (a,b.2)else(app 56 a ([b.1])).bind λd=>some (d,0)
def Xm(b:GEvent) (a:List GAppeal):Option ((List GAppeal)×Int):=oaa (α:=Bool) (if¬b.Appeal<0 then some (decide ((a.length:Int)<=b.Appeal))else some true) λd=>if d=true then some (a,6)else(idx a b.Appeal).bind λe=>(oi e b.State b.Cents b.Date).bind λc=>if¬c.2=0 then some (a,c.2)else(put a b.Appeal c.1).bind λf=>some (f,0)
def Ym(a:List GPosting) (b:((List GPosting)×Int)):Option ((List GPosting)×Int):=if 4096<(ca .i64 ((a.length:Int)+(b.1.length:Int)))then some (a,4)else(app 32 a b.1).bind λc=>some (c,0)
def Gl(t0:GLaw) (t1:GPayConfig) (t2:GAccount) (b:GEvent) (i:List GFact) (a:List GPosting) (d:List GAppeal):Option ((List GPosting)×Int):=oaa (α:=Bool) (if¬b.Cents<1 then some (decide (1000000000000000<b.Cents))else some true) λg=>if g=true then some (a,3)else(Wa t0 t1 (GAccount.mk (GHousehold.mk t2.Household.Id t2.Household.Scope t2.Household.Members i) a d t2.Date t2.LastMonth) t2.LastMonth b.Date).bind λh=>(Fm h b.Cents b.Date).bind λc=>if 0<c.2 then some (a,3)else(Ym a c).bind λ(e,f)=>some (e,f)
def Hl(b:GEvent) (a:List GPosting):Option ((List GPosting)×Int):=if 4096<(ca .i64 ((a.length:Int)+1))then some (a,4)else(app 32 a ([(GPosting.mk b.Date b.Month 4 b.Cents)])).bind λc=>some (c,0)
def Il(t0:GLaw) (t1:GPayConfig) (t2:GAccount) (b:GEvent) (l:List GFact) (a:List GPosting) (f:List GAppeal):Option ((List GPosting)×Int):=oaa (α:=Bool) (if¬b.Cents<1 then some (decide (1000000000000000<b.Cents))else some true) λi=>if i=true then some (a,3)else(Wa t0 t1 (GAccount.mk (GHousehold.mk t2.Household.Id t2.Household.Scope t2.Household.Members l) a f t2.Date t2.LastMonth) t2.LastMonth b.Date).bind λc=>(xa c (λe=>Rb e b)).bind λd=>if d<0 then some (a,6)else(idx c d).bind λj=>(Cd j).bind λk=>if k<b.Cents then some (a,3)else(Hl b a).bind λ(g,h)=>some (g,h)
def Qc(t0:GLaw) (t1:GPayConfig) (t2:GAccount) (c:GEvent):Option (GAccount×Int):=(me t0 t1 t2).bind λw=>if¬w=0 then some (t2,1)else(wj c.Date).bind λx=>if x=false then some (t2,3)else if c.Date<t2.Date then some (t2,9)else(Rm t2).bind λ(d,b,a)=>oaa (α:=((List GFact)×(List GPosting)×(List GAppeal)×Int×Int)) (if c.Kind=1 then(Um t0 t2 c d).bind λ(f,g)=>some (f,b,a,t2.LastMonth,g)else if c.Kind=2 then(vj t0 t1 t2 c d b a).bind λ(h,i,j)=>some (d,h,a,i,j)else if c.Kind=3 then(Wm t1 c a).bind λ(k,l)=>some (d,b,k,t2.LastMonth,l)else if c.Kind=4 then(Xm c a).bind λ(m,n)=>some (d,b,m,t2.LastMonth,n)else if c.Kind=5 then(Gl t0 t1 t2 c d b a).bind λ(o,p)=>some (d,o,a,t2.LastMonth,p)else if c.Kind=6 then(Il t0 t1 t2 c d b a).bind λ(q,r)=>some (d,q,a,t2.LastMonth,r)else some (d,b,a,t2.LastMonth,1)) λ(s,t,u,v,e)=>if¬e=0 then some (t2,e)else some ((GAccount.mk (GHousehold.mk t2.Household.Id t2.Household.Scope t2.Household.Members s) t u c.Date v),0)
def ck  : Option Bool:=(Sr ([(GNode.mk 7 0)])).bind λb=>(mi (GHousehold.mk 0 0 0 ([(GFact.mk 0 (-1) 0 (GValue.mk 3 0 500) (GDateRange.mk 0 109573) 0)]))).bind λc=>(Qc b (GPayConfig.mk 0 0 1 0 0 0 0 (GCalendar.mk 0 ([]))) c (GEvent.mk 2 9 0 0 0 0 0 0 (GFact.mk 0 0 0 (GValue.mk 0 0 0) (GDateRange.mk 0 0) 0))).bind λa=>(Qc b (GPayConfig.mk 0 0 1 0 0 0 0 (GCalendar.mk 0 ([]))) c (GEvent.mk 0 9 0 0 0 0 0 0 (GFact.mk 0 0 0 (GValue.mk 0 0 0) (GDateRange.mk 0 0) 0))).bind λe=>oaa (α:=Bool) (if a.2=0 then if e.2=1 then if a.1.LastMonth=0 then(xl a.1.Postings ([(GPosting.mk 9 0 1 500)])).bind λf=>some f else some false else some false else some false) λd=>some d
def Oq(t0:GLaw) (t1:GPayConfig) (t2:GAccount):Option Bool:=oaa (α:=Bool) ((Pn t0).bind λb=>if b=true then(sn t1).bind λc=>if c=true then(Sl t2).bind λd=>some d else some false else some false) λa=>some a
def fk(t0:GPayConfig) (t1:Int):Option Bool:=oaa (α:=Bool) (if¬t1<t0.FirstMonth then if 0<=t1 then some (decide ((ca .i64 (t1-t0.FirstMonth))<8))else some false else some true) λa=>some a
def Qe(t0:GLaw) (t1:GPayConfig) (t2:GAccount) (b:GEvent):Option Bool:=oaa (α:=Bool) ((Oq t0 t1 t2).bind λm=>if m=true then(me t0 t1 t2).bind λn=>if n=0 then(fk t1 b.Month).bind λo=>if o=false then if b.Kind=2 then if¬b.Month<=3599 then(fk t1 t2.LastMonth).bind λp=>some (!p)else some true else(fk t1 t2.LastMonth).bind λf=>some (!f)else(fk t1 t2.LastMonth).bind λg=>some (!g)else some true else some true) λc=>if c=true then(ck).bind λh=>some h else(Qc t0 t1 t2 b).bind λa=>if¬a.2=0 then oaa (α:=Bool) ((kp a.1 t2).bind λi=>if i=true then(ck).bind λj=>some j else some false) λd=>some d else oaa (α:=Bool) ((me t0 t1 a.1).bind λk=>if k=0 then if a.1.Date=b.Date then(ck).bind λl=>some l else some false else some false) λe=>some e
def zX(t0:GAccount):Option GAccount:=(wa t0.Household.Facts).bind λa=>(Sa t0.Postings).bind λb=>(Xa t0.Appeals).bind λc=>some (GAccount.mk (GHousehold.mk t0.Household.Id t0.Household.Scope t0.Household.Members a) b c t0.Date t0.LastMonth)
end
end Go.Proofs.Dev
