/-
  The functions as plain partial functions, and plain lemmas about them: no condition.
-/
import Derived.Test.YtjiaejcpmcknnaaGreatDoorEC
import Derived.Lib.SlicesCompact
open Bool renaming and_self->zaa,and_true->taa
open ByteArray renaming mk->iaa
open Eq renaming trans->gaa
open Int renaming tdiv->Faa,tmod->Qaa
open List renaming range->yaa
open Option renaming bind->eaa
set_option linter.all false
namespace Go.Tm
def Ii:List Int->Int->List Int
 |[],n=>[n]
 |x::l,n=>if n<=x then(if n<x then n::x::l else x::l)else x::Ii l n
def Sd(l:List Int):List Int:=l.foldl Ii []
inductive ReachL (g:List (List Int)):Int->Int->Prop
 |one {a b:Int} {l:List Int} (h:g[a.toNat]?=some l) (hb:b∈l):ReachL g a b
 |step {a b c:Int} {l:List Int} (h:ReachL g a b) (hl:g[b.toNat]?=some l) (hc:c∈l):ReachL g a c
open Classical in
noncomputable def QD(g:List (List Int)) (a:Int):List Int:=((yaa g.length).map λ(k:Nat)=>(k:Int)).filter λb=>decide (ReachL g a b)
@[irreducible] def vd:Nat:=1000000
end Go.Tm
set_option maxHeartbeats 1000000
set_option maxRecDepth 10000
namespace Go.Proofs.Dev
open Go Go.Tm
def df(x:ByteArray):D:=.v (.string x)
instance:Fr df:=⟨λx=>by simp only[df,na,la,Fr.l,zaa,taa]⟩
theorem HS{x}:df x=.v (.string x):=gaa rfl rfl
def Vs(x:List ByteArray):D:=.sl 1 (x.map df)
instance:Fr Vs:=⟨λx=>Fr.s _ x⟩
theorem BM{x}:Vs x=.sl 1 (x.map df):=gaa rfl rfl
structure GEnum where
 Name:ByteArray
 Members:(List ByteArray)
def bf(x:GEnum):D:=.agg [.v (.string x.Name),.sl 1 (x.Members.map df)]
instance:Fr bf:=⟨λx=>by simp only[bf,na,la,Fr.l,zaa,taa]⟩
theorem tM{x}:bf x=.agg [.v (.string x.Name),.sl 1 (x.Members.map df)]:=gaa rfl rfl
def Jb(x:List GEnum):D:=.sl 2 (x.map bf)
instance:Fr Jb:=⟨λx=>Fr.s _ x⟩
theorem VH{x}:Jb x=.sl 2 (x.map bf):=gaa rfl rfl
def aa(x:Int):D:=.v (.int .i64 x)
instance:Fr aa:=⟨λx=>by simp only[aa,na,la,Fr.l,zaa,taa]⟩
theorem GS{x}:aa x=.v (.int .i64 x):=gaa rfl rfl
structure GType where
 Kind:Int
 Enum:Int
def qa(x:GType):D:=.agg [.v (.int .i64 x.Kind),.v (.int .i64 x.Enum)]
instance:Fr qa:=⟨λx=>by simp only[qa,na,la,Fr.l,zaa,taa]⟩
theorem xM{x}:qa x=.agg [.v (.int .i64 x.Kind),.v (.int .i64 x.Enum)]:=gaa rfl rfl
structure GDateRange where
 From:Int
 To:Int
def ub(x:GDateRange):D:=.agg [.v (.int .i64 x.From),.v (.int .i64 x.To)]
instance:Fr ub:=⟨λx=>by simp only[ub,na,la,Fr.l,zaa,taa]⟩
theorem QC{x}:ub x=.agg [.v (.int .i64 x.From),.v (.int .i64 x.To)]:=gaa rfl rfl
structure GRow where
 Valid:GDateRange
 Lo:Int
 Hi:Int
 N:Int
def jg(x:GRow):D:=.agg [.v (.int .i64 x.Valid.From),.v (.int .i64 x.Valid.To),.v (.int .i64 x.Lo),.v (.int .i64 x.Hi),.v (.int .i64 x.N)]
instance:Fr jg:=⟨λx=>by simp only[jg,na,la,Fr.l,zaa,taa]⟩
theorem ZO{x}:jg x=.agg [.v (.int .i64 x.Valid.From),.v (.int .i64 x.Valid.To),.v (.int .i64 x.Lo),.v (.int .i64 x.Hi),.v (.int .i64 x.N)]:=gaa rfl rfl
def Dr(x:List GRow):D:=.sl 5 (x.map jg)
instance:Fr Dr:=⟨λx=>Fr.s _ x⟩
theorem OJ{x}:Dr x=.sl 5 (x.map jg):=gaa rfl rfl
structure GTable where
 Name:ByteArray
 Key:GType
 Value:GType
 Rows:(List GRow)
def eb(x:GTable):D:=.agg [.v (.string x.Name),.v (.int .i64 x.Key.Kind),.v (.int .i64 x.Key.Enum),.v (.int .i64 x.Value.Kind),.v (.int .i64 x.Value.Enum),.sl 5 (x.Rows.map jg)]
instance:Fr eb:=⟨λx=>by simp only[eb,na,la,Fr.l,zaa,taa]⟩
theorem JJ{x}:eb x=.agg [.v (.string x.Name),.v (.int .i64 x.Key.Kind),.v (.int .i64 x.Key.Enum),.v (.int .i64 x.Value.Kind),.v (.int .i64 x.Value.Enum),.sl 5 (x.Rows.map jg)]:=gaa rfl rfl
def kg(x:List GTable):D:=.sl 6 (x.map eb)
instance:Fr kg:=⟨λx=>Fr.s _ x⟩
theorem HG{x}:kg x=.sl 6 (x.map eb):=gaa rfl rfl
structure GField where
 Name:ByteArray
 Type_:GType
def Ya(x:GField):D:=.agg [.v (.string x.Name),.v (.int .i64 x.Type_.Kind),.v (.int .i64 x.Type_.Enum)]
instance:Fr Ya:=⟨λx=>by simp only[Ya,na,la,Fr.l,zaa,taa]⟩
theorem HJ{x}:Ya x=.agg [.v (.string x.Name),.v (.int .i64 x.Type_.Kind),.v (.int .i64 x.Type_.Enum)]:=gaa rfl rfl
def Gd(x:List GField):D:=.sl 3 (x.map Ya)
instance:Fr Gd:=⟨λx=>Fr.s _ x⟩
theorem FG{x}:Gd x=.sl 3 (x.map Ya):=gaa rfl rfl
structure GNode where
 Op:Int
 N:Int
def Ea(x:GNode):D:=.agg [.v (.int .i64 x.Op),.v (.int .i64 x.N)]
instance:Fr Ea:=⟨λx=>by simp only[Ea,na,la,Fr.l,zaa,taa]⟩
theorem vM{x}:Ea x=.agg [.v (.int .i64 x.Op),.v (.int .i64 x.N)]:=gaa rfl rfl
def xa(x:List GNode):D:=.sl 2 (x.map Ea)
instance:Fr xa:=⟨λx=>Fr.s _ x⟩
theorem XH{x}:xa x=.sl 2 (x.map Ea):=gaa rfl rfl
structure GRule where
 Name:ByteArray
 Def:Int
 Parent:Int
 Priority:Int
 Valid:GDateRange
 Guard:(List GNode)
 Value:(List GNode)
 Source:ByteArray
def Xa(x:GRule):D:=.agg [.v (.string x.Name),.v (.int .i64 x.Def),.v (.int .i64 x.Parent),.v (.int .i64 x.Priority),.v (.int .i64 x.Valid.From),.v (.int .i64 x.Valid.To),.sl 2 (x.Guard.map Ea),.sl 2 (x.Value.map Ea),.v (.string x.Source)]
instance:Fr Xa:=⟨λx=>by simp only[Xa,na,la,Fr.l,zaa,taa]⟩
theorem wM{x}:Xa x=.agg [.v (.string x.Name),.v (.int .i64 x.Def),.v (.int .i64 x.Parent),.v (.int .i64 x.Priority),.v (.int .i64 x.Valid.From),.v (.int .i64 x.Valid.To),.sl 2 (x.Guard.map Ea),.sl 2 (x.Value.map Ea),.v (.string x.Source)]:=gaa rfl rfl
def cf(x:List GRule):D:=.sl 9 (x.map Xa)
instance:Fr cf:=⟨λx=>Fr.s _ x⟩
theorem YH{x}:cf x=.sl 9 (x.map Xa):=gaa rfl rfl
structure GScope where
 Name:ByteArray
 MemberScope:Int
 Inputs:(List GField)
 Defs:(List GField)
 Rules:(List GRule)
def Ca(x:GScope):D:=.agg [.v (.string x.Name),.v (.int .i64 x.MemberScope),.sl 3 (x.Inputs.map Ya),.sl 3 (x.Defs.map Ya),.sl 9 (x.Rules.map Xa)]
instance:Fr Ca:=⟨λx=>by simp only[Ca,na,la,Fr.l,zaa,taa]⟩
theorem IJ{x}:Ca x=.agg [.v (.string x.Name),.v (.int .i64 x.MemberScope),.sl 3 (x.Inputs.map Ya),.sl 3 (x.Defs.map Ya),.sl 9 (x.Rules.map Xa)]:=gaa rfl rfl
def Zm(x:List GScope):D:=.sl 5 (x.map Ca)
instance:Fr Zm:=⟨λx=>Fr.s _ x⟩
theorem GG{x}:Zm x=.sl 5 (x.map Ca):=gaa rfl rfl
structure GLaw where
 Enums:(List GEnum)
 Tables:(List GTable)
 Scopes:(List GScope)
def Ib(x:GLaw):D:=.agg [.sl 2 (x.Enums.map bf),.sl 6 (x.Tables.map eb),.sl 5 (x.Scopes.map Ca)]
instance:Fr Ib:=⟨λx=>by simp only[Ib,na,la,Fr.l,zaa,taa]⟩
theorem YO{x}:Ib x=.agg [.sl 2 (x.Enums.map bf),.sl 6 (x.Tables.map eb),.sl 5 (x.Scopes.map Ca)]:=gaa rfl rfl
def ba(x:Bool):D:=.v (.bool x)
instance:Fr ba:=⟨λx=>by simp only[ba,na,la,Fr.l,zaa,taa]⟩
theorem aP{x}:ba x=.v (.bool x):=gaa rfl rfl
def ea(x:List Int):D:=.sl 1 (x.map aa)
instance:Fr ea:=⟨λx=>Fr.s _ x⟩
theorem AM{x}:ea x=.sl 1 (x.map aa):=gaa rfl rfl
def Uc(x:List (List Int)):D:=.sl 1 (x.map ea)
instance:Fr Uc:=⟨λx=>Fr.s _ x⟩
theorem aI{x}:Uc x=.sl 1 (x.map ea):=gaa rfl rfl
structure GLawError where
 Code:Int
 Section:Int
 Item:Int
 Element:Int
def pd(x:GLawError):D:=.agg [.v (.int .i64 x.Code),.v (.int .i64 x.Section),.v (.int .i64 x.Item),.v (.int .i64 x.Element)]
instance:Fr pd:=⟨λx=>by simp only[pd,na,la,Fr.l,zaa,taa]⟩
theorem ME{x}:pd x=.agg [.v (.int .i64 x.Code),.v (.int .i64 x.Section),.v (.int .i64 x.Item),.v (.int .i64 x.Element)]:=gaa rfl rfl
def Ci(x:List GType):D:=.sl 2 (x.map qa)
instance:Fr Ci:=⟨λx=>Fr.s _ x⟩
theorem ZH{x}:Ci x=.sl 2 (x.map qa):=gaa rfl rfl
structure GSignature where
 Enums:(List GEnum)
 Tables:(List GTable)
 Inputs:(List GType)
 Defs:(List GType)
 MemberDefs:(List GType)
 HasMembers:Bool
def ta(x:GSignature):D:=.agg [.sl 2 (x.Enums.map bf),.sl 6 (x.Tables.map eb),.sl 2 (x.Inputs.map qa),.sl 2 (x.Defs.map qa),.sl 2 (x.MemberDefs.map qa),.v (.bool x.HasMembers)]
instance:Fr ta:=⟨λx=>by simp only[ta,na,la,Fr.l,zaa,taa]⟩
theorem UC{x}:ta x=.agg [.sl 2 (x.Enums.map bf),.sl 6 (x.Tables.map eb),.sl 2 (x.Inputs.map qa),.sl 2 (x.Defs.map qa),.sl 2 (x.MemberDefs.map qa),.v (.bool x.HasMembers)]:=gaa rfl rfl
def rh(x:List (List GNode)):D:=.sl 1 (x.map xa)
instance:Fr rh:=⟨λx=>Fr.s _ x⟩
theorem PE{x}:rh x=.sl 1 (x.map xa):=gaa rfl rfl
def cI(x:Int):D:=.v (.int .u8 x)
instance:Fr cI:=⟨λx=>by simp only[cI,na,la,Fr.l,zaa,taa]⟩
theorem PX{x}:cI x=.v (.int .u8 x):=gaa rfl rfl
def Sg(x:Int):D:=.pt (aa x)
instance:Fr Sg:=⟨λx=>Fr.h (e:=aa) x⟩
theorem yM{x}:Sg x=.pt (aa x):=gaa rfl rfl
def Vo(x:GScope):D:=.pt (Ca x)
instance:Fr Vo:=⟨λx=>Fr.h (e:=Ca) x⟩
theorem DG{x}:Vo x=.pt (Ca x):=gaa rfl rfl
def cu(x:GRule):D:=.pt (Xa x)
instance:Fr cu:=⟨λx=>Fr.h (e:=Xa) x⟩
theorem UH{x}:cu x=.pt (Xa x):=gaa rfl rfl
def Uo(x:GField):D:=.pt (Ya x)
instance:Fr Uo:=⟨λx=>Fr.h (e:=Ya) x⟩
theorem CG{x}:Uo x=.pt (Ya x):=gaa rfl rfl
def Dp(x:ByteArray):D:=.pt (df x)
instance:Fr Dp:=⟨λx=>Fr.h (e:=df) x⟩
theorem zM{x}:Dp x=.pt (df x):=gaa rfl rfl
def bu(x:GRow):D:=.pt (jg x)
instance:Fr bu:=⟨λx=>Fr.h (e:=jg) x⟩
theorem NJ{x}:bu x=.pt (jg x):=gaa rfl rfl
structure GValue where
 Kind:Int
 Enum:Int
 N:Int
def ka(x:GValue):D:=.agg [.v (.int .i64 x.Kind),.v (.int .i64 x.Enum),.v (.int .i64 x.N)]
instance:Fr ka:=⟨λx=>by simp only[ka,na,la,Fr.l,zaa,taa]⟩
theorem LJ{x}:ka x=.agg [.v (.int .i64 x.Kind),.v (.int .i64 x.Enum),.v (.int .i64 x.N)]:=gaa rfl rfl
def ob(x:List GValue):D:=.sl 3 (x.map ka)
instance:Fr ob:=⟨λx=>Fr.s _ x⟩
theorem IG{x}:ob x=.sl 3 (x.map ka):=gaa rfl rfl
structure GCoverageHole where
 Outcome:Int
 RuleA:Int
 RuleB:Int
 Inputs:(List GValue)
def Zc(x:GCoverageHole):D:=.agg [.v (.int .i64 x.Outcome),.v (.int .i64 x.RuleA),.v (.int .i64 x.RuleB),.sl 3 (x.Inputs.map ka)]
instance:Fr Zc:=⟨λx=>by simp only[Zc,na,la,Fr.l,zaa,taa]⟩
theorem dz{x}:Zc x=.agg [.v (.int .i64 x.Outcome),.v (.int .i64 x.RuleA),.v (.int .i64 x.RuleB),.sl 3 (x.Inputs.map ka)]:=gaa rfl rfl
def On(x:List GCoverageHole):D:=.sl 4 (x.map Zc)
instance:Fr On:=⟨λx=>Fr.s _ x⟩
theorem Yw{x}:On x=.sl 4 (x.map Zc):=gaa rfl rfl
def Ts(x:GCoverageHole):D:=.pt (Zc x)
instance:Fr Ts:=⟨λx=>Fr.h (e:=Zc) x⟩
theorem Ww{x}:Ts x=.pt (Zc x):=gaa rfl rfl
structure GRuletree_tree where
 parent:(List Int)
 priority:(List Int)
 outcome:(List Int)
def Tf(x:GRuletree_tree):D:=.agg [.sl 1 (x.parent.map aa),.sl 1 (x.priority.map aa),.sl 1 (x.outcome.map aa)]
instance:Fr Tf:=⟨λx=>by simp only[Tf,na,la,Fr.l,zaa,taa]⟩
theorem Tx{x}:Tf x=.agg [.sl 1 (x.parent.map aa),.sl 1 (x.priority.map aa),.sl 1 (x.outcome.map aa)]:=gaa rfl rfl
def nb(x:List Bool):D:=.sl 1 (x.map ba)
instance:Fr nb:=⟨λx=>Fr.s _ x⟩
theorem PJ{x}:nb x=.sl 1 (x.map ba):=gaa rfl rfl
def Lu(x:List (List GValue)):D:=.sl 1 (x.map ob)
instance:Fr Lu:=⟨λx=>Fr.s _ x⟩
theorem WC{x}:Lu x=.sl 1 (x.map ob):=gaa rfl rfl
structure GEnv where
 Date:Int
 Inputs:(List GValue)
 Defs:(List GValue)
 Members:(List (List GValue))
 MemberTypes:(List GType)
 Tables:(List GTable)
def Kc(x:GEnv):D:=.agg [.v (.int .i64 x.Date),.sl 3 (x.Inputs.map ka),.sl 3 (x.Defs.map ka),.sl 1 (x.Members.map ob),.sl 2 (x.MemberTypes.map qa),.sl 6 (x.Tables.map eb)]
instance:Fr Kc:=⟨λx=>by simp only[Kc,na,la,Fr.l,zaa,taa]⟩
theorem XO{x}:Kc x=.agg [.v (.int .i64 x.Date),.sl 3 (x.Inputs.map ka),.sl 3 (x.Defs.map ka),.sl 1 (x.Members.map ob),.sl 2 (x.MemberTypes.map qa),.sl 6 (x.Tables.map eb)]:=gaa rfl rfl
structure GEval_evaluator where
 nodes:(List GNode)
 starts:(List Int)
 env:GEnv
def oa(x:GEval_evaluator):D:=.agg [.sl 2 (x.nodes.map Ea),.sl 1 (x.starts.map aa),.v (.int .i64 x.env.Date),.sl 3 (x.env.Inputs.map ka),.sl 3 (x.env.Defs.map ka),.sl 1 (x.env.Members.map ob),.sl 2 (x.env.MemberTypes.map qa),.sl 6 (x.env.Tables.map eb)]
instance:Fr oa:=⟨λx=>by simp only[oa,na,la,Fr.l,zaa,taa]⟩
theorem Vw{x}:oa x=.agg [.sl 2 (x.nodes.map Ea),.sl 1 (x.starts.map aa),.v (.int .i64 x.env.Date),.sl 3 (x.env.Inputs.map ka),.sl 3 (x.env.Defs.map ka),.sl 1 (x.env.Members.map ob),.sl 2 (x.env.MemberTypes.map qa),.sl 6 (x.env.Tables.map eb)]:=gaa rfl rfl
def Bm(x:Int):D:=.v (.int .u64 x)
instance:Fr Bm:=⟨λx=>by simp only[Bm,na,la,Fr.l,zaa,taa]⟩
theorem IS{x}:Bm x=.v (.int .u64 x):=gaa rfl rfl
structure GA3 where
 I0:Int
 I1:Int
 I2:Int
def PC(x:GA3):D:=.agg [.v (.int .i64 x.I0),.v (.int .i64 x.I1),.v (.int .i64 x.I2)]
instance:Fr PC:=⟨λx=>by simp only[PC,na,la,Fr.l,zaa,taa]⟩
theorem ES{x}:PC x=.agg [.v (.int .i64 x.I0),.v (.int .i64 x.I1),.v (.int .i64 x.I2)]:=gaa rfl rfl
structure GDeadrules_tree where
 scope:GScope
 tables:(List GTable)
 date:Int
 rules:(List Int)
 parents:(List Int)
 priorities:(List Int)
def Dd(x:GDeadrules_tree):D:=.agg [.v (.string x.scope.Name),.v (.int .i64 x.scope.MemberScope),.sl 3 (x.scope.Inputs.map Ya),.sl 3 (x.scope.Defs.map Ya),.sl 9 (x.scope.Rules.map Xa),.sl 6 (x.tables.map eb),.v (.int .i64 x.date),.sl 1 (x.rules.map aa),.sl 1 (x.parents.map aa),.sl 1 (x.priorities.map aa)]
instance:Fr Dd:=⟨λx=>by simp only[Dd,na,la,Fr.l,zaa,taa]⟩
theorem Uw{x}:Dd x=.agg [.v (.string x.scope.Name),.v (.int .i64 x.scope.MemberScope),.sl 3 (x.scope.Inputs.map Ya),.sl 3 (x.scope.Defs.map Ya),.sl 9 (x.scope.Rules.map Xa),.sl 6 (x.tables.map eb),.v (.int .i64 x.date),.sl 1 (x.rules.map aa),.sl 1 (x.parents.map aa),.sl 1 (x.priorities.map aa)]:=gaa rfl rfl
def vi(x:GDeadrules_tree):D:=.pt (Dd x)
instance:Fr vi:=⟨λx=>Fr.h (e:=Dd) x⟩
theorem Bv{x}:vi x=.pt (Dd x):=gaa rfl rfl
structure GCase where
 Date:Int
 Inputs:(List GValue)
 Members:(List (List GValue))
def lC(x:GCase):D:=.agg [.v (.int .i64 x.Date),.sl 3 (x.Inputs.map ka),.sl 1 (x.Members.map ob)]
instance:Fr lC:=⟨λx=>by simp only[lC,na,la,Fr.l,zaa,taa]⟩
theorem sM{x}:lC x=.agg [.v (.int .i64 x.Date),.sl 3 (x.Inputs.map ka),.sl 1 (x.Members.map ob)]:=gaa rfl rfl
structure GEvalError where
 Code:Int
 Member:Int
 Def:Int
 Rule:Int
def Vq(x:GEvalError):D:=.agg [.v (.int .i64 x.Code),.v (.int .i64 x.Member),.v (.int .i64 x.Def),.v (.int .i64 x.Rule)]
instance:Fr Vq:=⟨λx=>by simp only[Vq,na,la,Fr.l,zaa,taa]⟩
theorem RC{x}:Vq x=.agg [.v (.int .i64 x.Code),.v (.int .i64 x.Member),.v (.int .i64 x.Def),.v (.int .i64 x.Rule)]:=gaa rfl rfl
structure GInterp_needs where
 scope:GScope
 memberScope:GScope
 defs:(List Bool)
 memberDefs:(List Bool)
def qf(x:GInterp_needs):D:=.agg [.v (.string x.scope.Name),.v (.int .i64 x.scope.MemberScope),.sl 3 (x.scope.Inputs.map Ya),.sl 3 (x.scope.Defs.map Ya),.sl 9 (x.scope.Rules.map Xa),.v (.string x.memberScope.Name),.v (.int .i64 x.memberScope.MemberScope),.sl 3 (x.memberScope.Inputs.map Ya),.sl 3 (x.memberScope.Defs.map Ya),.sl 9 (x.memberScope.Rules.map Xa),.sl 1 (x.defs.map ba),.sl 1 (x.memberDefs.map ba)]
instance:Fr qf:=⟨λx=>by simp only[qf,na,la,Fr.l,zaa,taa]⟩
theorem gz{x}:qf x=.agg [.v (.string x.scope.Name),.v (.int .i64 x.scope.MemberScope),.sl 3 (x.scope.Inputs.map Ya),.sl 3 (x.scope.Defs.map Ya),.sl 9 (x.scope.Rules.map Xa),.v (.string x.memberScope.Name),.v (.int .i64 x.memberScope.MemberScope),.sl 3 (x.memberScope.Inputs.map Ya),.sl 3 (x.memberScope.Defs.map Ya),.sl 9 (x.memberScope.Rules.map Xa),.sl 1 (x.defs.map ba),.sl 1 (x.memberDefs.map ba)]:=gaa rfl rfl
structure GMemberResult where
 Values:(List GValue)
 Rules:(List Int)
def Td(x:GMemberResult):D:=.agg [.sl 3 (x.Values.map ka),.sl 1 (x.Rules.map aa)]
instance:Fr Td:=⟨λx=>by simp only[Td,na,la,Fr.l,zaa,taa]⟩
theorem iz{x}:Td x=.agg [.sl 3 (x.Values.map ka),.sl 1 (x.Rules.map aa)]:=gaa rfl rfl
def Pn(x:List GMemberResult):D:=.sl 2 (x.map Td)
instance:Fr Pn:=⟨λx=>Fr.s _ x⟩
theorem Zw{x}:Pn x=.sl 2 (x.map Td):=gaa rfl rfl
structure GResult where
 Values:(List GValue)
 Rules:(List Int)
 Members:(List GMemberResult)
def Iw(x:GResult):D:=.agg [.sl 3 (x.Values.map ka),.sl 1 (x.Rules.map aa),.sl 2 (x.Members.map Td)]
instance:Fr Iw:=⟨λx=>by simp only[Iw,na,la,Fr.l,zaa,taa]⟩
theorem SH{x}:Iw x=.agg [.sl 3 (x.Values.map ka),.sl 1 (x.Rules.map aa),.sl 2 (x.Members.map Td)]:=gaa rfl rfl
def Us(x:GInterp_needs):D:=.pt (qf x)
instance:Fr Us:=⟨λx=>Fr.h (e:=qf) x⟩
theorem Xw{x}:Us x=.pt (qf x):=gaa rfl rfl
def TH(x:GEnv):D:=.pt (Kc x)
instance:Fr TH:=⟨λx=>Fr.h (e:=Kc) x⟩
theorem MJ{x}:TH x=.pt (Kc x):=gaa rfl rfl
structure GA2 where
 I0:Int
 I1:Int
def UK(x:GA2):D:=.agg [.v (.int .i64 x.I0),.v (.int .i64 x.I1)]
instance:Fr UK:=⟨λx=>by simp only[UK,na,la,Fr.l,zaa,taa]⟩
theorem DS{x}:UK x=.agg [.v (.int .i64 x.I0),.v (.int .i64 x.I1)]:=gaa rfl rfl
structure GCalendar where
 Weekend:Int
 Holidays:(List Int)
def Ss(x:GCalendar):D:=.agg [.v (.int .i64 x.Weekend),.sl 1 (x.Holidays.map aa)]
instance:Fr Ss:=⟨λx=>by simp only[Ss,na,la,Fr.l,zaa,taa]⟩
theorem KE{x}:Ss x=.agg [.v (.int .i64 x.Weekend),.sl 1 (x.Holidays.map aa)]:=gaa rfl rfl
structure GPayConfig where
 Def:Int
 Rounding:Int
 PayDay:Int
 RecoveryCap:Int
 RecoveryFloor:Int
 FirstMonth:Int
 AppealDays:Int
 Calendar:GCalendar
def Xq(x:GPayConfig):D:=.agg [.v (.int .i64 x.Def),.v (.int .i64 x.Rounding),.v (.int .i64 x.PayDay),.v (.int .i64 x.RecoveryCap),.v (.int .i64 x.RecoveryFloor),.v (.int .i64 x.FirstMonth),.v (.int .i64 x.AppealDays),.v (.int .i64 x.Calendar.Weekend),.sl 1 (x.Calendar.Holidays.map aa)]
instance:Fr Xq:=⟨λx=>by simp only[Xq,na,la,Fr.l,zaa,taa]⟩
theorem TC{x}:Xq x=.agg [.v (.int .i64 x.Def),.v (.int .i64 x.Rounding),.v (.int .i64 x.PayDay),.v (.int .i64 x.RecoveryCap),.v (.int .i64 x.RecoveryFloor),.v (.int .i64 x.FirstMonth),.v (.int .i64 x.AppealDays),.v (.int .i64 x.Calendar.Weekend),.sl 1 (x.Calendar.Holidays.map aa)]:=gaa rfl rfl
structure GFact where
 Id:Int
 Member:Int
 Input:Int
 Value:GValue
 Valid:GDateRange
 Recorded:Int
def Cp(x:GFact):D:=.agg [.v (.int .i64 x.Id),.v (.int .i64 x.Member),.v (.int .i64 x.Input),.v (.int .i64 x.Value.Kind),.v (.int .i64 x.Value.Enum),.v (.int .i64 x.Value.N),.v (.int .i64 x.Valid.From),.v (.int .i64 x.Valid.To),.v (.int .i64 x.Recorded)]
instance:Fr Cp:=⟨λx=>by simp only[Cp,na,la,Fr.l,zaa,taa]⟩
theorem uM{x}:Cp x=.agg [.v (.int .i64 x.Id),.v (.int .i64 x.Member),.v (.int .i64 x.Input),.v (.int .i64 x.Value.Kind),.v (.int .i64 x.Value.Enum),.v (.int .i64 x.Value.N),.v (.int .i64 x.Valid.From),.v (.int .i64 x.Valid.To),.v (.int .i64 x.Recorded)]:=gaa rfl rfl
def uA(x:List GFact):D:=.sl 9 (x.map Cp)
instance:Fr uA:=⟨λx=>Fr.s _ x⟩
theorem WH{x}:uA x=.sl 9 (x.map Cp):=gaa rfl rfl
structure GHousehold where
 Id:Int
 Scope:Int
 Members:Int
 Facts:(List GFact)
def Wq(x:GHousehold):D:=.agg [.v (.int .i64 x.Id),.v (.int .i64 x.Scope),.v (.int .i64 x.Members),.sl 9 (x.Facts.map Cp)]
instance:Fr Wq:=⟨λx=>by simp only[Wq,na,la,Fr.l,zaa,taa]⟩
theorem SC{x}:Wq x=.agg [.v (.int .i64 x.Id),.v (.int .i64 x.Scope),.v (.int .i64 x.Members),.sl 9 (x.Facts.map Cp)]:=gaa rfl rfl
structure GAward where
 Month:Int
 Cents:Int
 Code:Int
def Zt(x:GAward):D:=.agg [.v (.int .i64 x.Month),.v (.int .i64 x.Cents),.v (.int .i64 x.Code)]
instance:Fr Zt:=⟨λx=>by simp only[Zt,na,la,Fr.l,zaa,taa]⟩
theorem GJ{x}:Zt x=.agg [.v (.int .i64 x.Month),.v (.int .i64 x.Cents),.v (.int .i64 x.Code)]:=gaa rfl rfl
def Cr(x:List GDateRange):D:=.sl 2 (x.map ub)
instance:Fr Cr:=⟨λx=>Fr.s _ x⟩
theorem tA{x}:Cr x=.sl 2 (x.map ub):=gaa rfl rfl
structure GGuerdonlaw36_Query where
 Month:Int
 Recorded:Int
 Day:Int
def Rg(x:GGuerdonlaw36_Query):D:=.agg [.v (.int .i64 x.Month),.v (.int .i64 x.Recorded),.v (.int .i64 x.Day)]
instance:Fr Rg:=⟨λx=>by simp only[Rg,na,la,Fr.l,zaa,taa]⟩
theorem au{x}:Rg x=.agg [.v (.int .i64 x.Month),.v (.int .i64 x.Recorded),.v (.int .i64 x.Day)]:=gaa rfl rfl
def Ux(x:List GAward):D:=.sl 3 (x.map Zt)
instance:Fr Ux:=⟨λx=>Fr.s _ x⟩
theorem EG{x}:Ux x=.sl 3 (x.map Zt):=gaa rfl rfl
structure GPosting where
 Date:Int
 Month:Int
 Kind:Int
 Cents:Int
def Uk(x:GPosting):D:=.agg [.v (.int .i64 x.Date),.v (.int .i64 x.Month),.v (.int .i64 x.Kind),.v (.int .i64 x.Cents)]
instance:Fr Uk:=⟨λx=>by simp only[Uk,na,la,Fr.l,zaa,taa]⟩
theorem BG{x}:Uk x=.agg [.v (.int .i64 x.Date),.v (.int .i64 x.Month),.v (.int .i64 x.Kind),.v (.int .i64 x.Cents)]:=gaa rfl rfl
def Ku(x:List GPosting):D:=.sl 4 (x.map Uk)
instance:Fr Ku:=⟨λx=>Fr.s _ x⟩
theorem VC{x}:Ku x=.sl 4 (x.map Uk):=gaa rfl rfl
structure GAppeal where
 Id:Int
 From:Int
 To:Int
 Filed:Int
 Deadline:Int
 State:Int
 Cents:Int
def sn(x:GAppeal):D:=.agg [.v (.int .i64 x.Id),.v (.int .i64 x.From),.v (.int .i64 x.To),.v (.int .i64 x.Filed),.v (.int .i64 x.Deadline),.v (.int .i64 x.State),.v (.int .i64 x.Cents)]
instance:Fr sn:=⟨λx=>by simp only[sn,na,la,Fr.l,zaa,taa]⟩
theorem RH{x}:sn x=.agg [.v (.int .i64 x.Id),.v (.int .i64 x.From),.v (.int .i64 x.To),.v (.int .i64 x.Filed),.v (.int .i64 x.Deadline),.v (.int .i64 x.State),.v (.int .i64 x.Cents)]:=gaa rfl rfl
def Pv(x:List GAppeal):D:=.sl 7 (x.map sn)
instance:Fr Pv:=⟨λx=>Fr.s _ x⟩
theorem OE{x}:Pv x=.sl 7 (x.map sn):=gaa rfl rfl
structure GAccount where
 Household:GHousehold
 Postings:(List GPosting)
 Appeals:(List GAppeal)
 Date:Int
 LastMonth:Int
def Ju(x:GAccount):D:=.agg [.v (.int .i64 x.Household.Id),.v (.int .i64 x.Household.Scope),.v (.int .i64 x.Household.Members),.sl 9 (x.Household.Facts.map Cp),.sl 4 (x.Postings.map Uk),.sl 7 (x.Appeals.map sn),.v (.int .i64 x.Date),.v (.int .i64 x.LastMonth)]
instance:Fr Ju:=⟨λx=>by simp only[Ju,na,la,Fr.l,zaa,taa]⟩
theorem AG{x}:Ju x=.agg [.v (.int .i64 x.Household.Id),.v (.int .i64 x.Household.Scope),.v (.int .i64 x.Household.Members),.sl 9 (x.Household.Facts.map Cp),.sl 4 (x.Postings.map Uk),.sl 7 (x.Appeals.map sn),.v (.int .i64 x.Date),.v (.int .i64 x.LastMonth)]:=gaa rfl rfl
def ze:=(And.intro (And.intro (And.intro (And.intro (And.intro (And.intro (And.intro @HS @BM) (And.intro @tM @VH)) (And.intro (And.intro @GS @xM) (And.intro @QC @ZO))) (And.intro (And.intro (And.intro @OJ @JJ) (And.intro @HG @HJ)) (And.intro (And.intro @FG @vM) (And.intro @XH @wM)))) (And.intro (And.intro (And.intro (And.intro @YH @IJ) (And.intro @GG @YO)) (And.intro (And.intro @aP @AM) (And.intro @aI @ME))) (And.intro (And.intro (And.intro @ZH @UC) (And.intro @PE @PX)) (And.intro (And.intro @yM @DG) (And.intro @UH @CG))))) (And.intro (And.intro (And.intro (And.intro (And.intro @zM @NJ) (And.intro @LJ @IG)) (And.intro (And.intro @dz @Yw) (And.intro @Ww @Tx))) (And.intro (And.intro (And.intro @PJ @WC) (And.intro @XO @Vw)) (And.intro (And.intro @IS @ES) (And.intro @Uw @Bv)))) (And.intro (And.intro (And.intro (And.intro @sM @RC) (And.intro @gz @iz)) (And.intro (And.intro @Zw @SH) (And.intro @Xw @MJ))) (And.intro (And.intro (And.intro @DS @KE) (And.intro @TC @uM)) (And.intro (And.intro @WH @SC) (And.intro @GJ @tA)))))) (And.intro (And.intro (And.intro @au @EG) (And.intro @BG @VC)) (And.intro (And.intro @RH @OE) @AG)))
theorem zz:type_of% (And.intro @zx @ze):=And.intro @zx @ze
theorem zg:type_of% (And.intro @zq @ze):=And.intro @zq @ze
theorem tz{N:Nat}{s S:St}(ρ:Io) (h:aB (Sq ρ s.m 9) s.t S.t/\ZA ρ s.m ρ S.m:=by first|(simp only[zg];done)|(simp only[zg, *];done)) (hk:Zv ρ N=true:=by rfl) (h3:(ρ.filterMap (·.1)).Nodup:=by decide):Tells N s S:=Tells.q ρ hk h3 h
theorem ez{rs:List RV}{o:D}{s:St}(h:fI (qb s rs) s.m o:=by simp only[zz,zr];exact fq (by first|(simp only[zg];done)|(simp only[zg, *];done)|(simp only[zg, *,List.drop_zero,Nat.zero_add,List.length_map];done))):DE rs o .ret s:=er h
instance:Enc (List (List GNode)) rh:=⟨trivial⟩
instance:Enc (List (List GValue)) Lu:=⟨trivial⟩
instance:Enc (List (List Int)) Uc:=⟨trivial⟩
instance:Enc (List Bool) nb:=⟨trivial⟩
instance:Enc (List ByteArray) Vs:=⟨trivial⟩
instance:Enc (List GAppeal) Pv:=⟨trivial⟩
instance:Enc (List GAward) Ux:=⟨trivial⟩
instance:Enc (List GCoverageHole) On:=⟨trivial⟩
instance:Enc (List GDateRange) Cr:=⟨trivial⟩
instance:Enc (List GEnum) Jb:=⟨trivial⟩
instance:Enc (List GFact) uA:=⟨trivial⟩
instance:Enc (List GField) Gd:=⟨trivial⟩
instance:Enc (List GMemberResult) Pn:=⟨trivial⟩
instance:Enc (List GNode) xa:=⟨trivial⟩
instance:Enc (List GPosting) Ku:=⟨trivial⟩
instance:Enc (List GRow) Dr:=⟨trivial⟩
instance:Enc (List GRule) cf:=⟨trivial⟩
instance:Enc (List GScope) Zm:=⟨trivial⟩
instance:Enc (List GTable) kg:=⟨trivial⟩
instance:Enc (List GType) Ci:=⟨trivial⟩
instance:Enc (List GValue) ob:=⟨trivial⟩
instance:Enc (List Int) ea:=⟨trivial⟩
instance:Enc Bool ba:=⟨trivial⟩
instance:Enc ByteArray df:=⟨trivial⟩
instance:Enc GA2 UK:=⟨trivial⟩
instance:Enc GA3 PC:=⟨trivial⟩
instance:Enc GAccount Ju:=⟨trivial⟩
instance:Enc GAppeal sn:=⟨trivial⟩
instance:Enc GAward Zt:=⟨trivial⟩
instance:Enc GCalendar Ss:=⟨trivial⟩
instance:Enc GCase lC:=⟨trivial⟩
instance:Enc GCoverageHole Zc:=⟨trivial⟩
instance:Enc GDateRange ub:=⟨trivial⟩
instance:Enc GDeadrules_tree Dd:=⟨trivial⟩
instance:Enc GEnum bf:=⟨trivial⟩
instance:Enc GEnv Kc:=⟨trivial⟩
instance:Enc GEvalError Vq:=⟨trivial⟩
instance:Enc GEval_evaluator oa:=⟨trivial⟩
instance:Enc GFact Cp:=⟨trivial⟩
instance:Enc GField Ya:=⟨trivial⟩
instance:Enc GGuerdonlaw36_Query Rg:=⟨trivial⟩
instance:Enc GHousehold Wq:=⟨trivial⟩
instance:Enc GInterp_needs qf:=⟨trivial⟩
instance:Enc GLaw Ib:=⟨trivial⟩
instance:Enc GLawError pd:=⟨trivial⟩
instance:Enc GMemberResult Td:=⟨trivial⟩
instance:Enc GNode Ea:=⟨trivial⟩
instance:Enc GPayConfig Xq:=⟨trivial⟩
instance:Enc GPosting Uk:=⟨trivial⟩
instance:Enc GResult Iw:=⟨trivial⟩
instance:Enc GRow jg:=⟨trivial⟩
instance:Enc GRule Xa:=⟨trivial⟩
instance:Enc GRuletree_tree Tf:=⟨trivial⟩
instance:Enc GScope Ca:=⟨trivial⟩
instance:Enc GSignature ta:=⟨trivial⟩
instance:Enc GTable eb:=⟨trivial⟩
instance:Enc GType qa:=⟨trivial⟩
instance:Enc GValue ka:=⟨trivial⟩
instance:Enc Int aa:=⟨trivial⟩
noncomputable section
def Mg(t0:GScope):Int->Option (Ex Int Unit Bool):=λs6=>
 if s6<(t0.Inputs.length:Int)then
  (idx t0.Inputs s6).bind λx8=>
  if 80<(x8.Name.size:Int)then
   some (Ex.ret false)
  else
  some (Ex.go (da .i64 (s6+1)))
 else
 some (Ex.brk ())
def Lg(t0:GScope):Int->Option (Ex Int Unit Bool):=λs11=>
 if s11<(t0.Defs.length:Int)then
  (idx t0.Defs s11).bind λx13=>
  if 80<(x13.Name.size:Int)then
   some (Ex.ret false)
  else
  some (Ex.go (da .i64 (s11+1)))
 else
 some (Ex.brk ())
def Kg(t0:GScope):Int->Option (Ex Int Unit Bool):=λs16=>
 if s16<(t0.Rules.length:Int)then
  (idx t0.Rules s16).bind λx18=>
  eaa (α:=Bool) (
   if¬80<(x18.Name.size:Int)then
    if¬80<(x18.Source.size:Int)then
     if¬50<(x18.Guard.length:Int)then
      some (decide (50<(x18.Value.length:Int)))
     else
     some true
    else
    some true
   else
   some true) λj22=>
  if j22=true then
   some (Ex.ret false)
  else
  some (Ex.go (da .i64 (s16+1)))
 else
 some (Ex.brk ())
def uf(t0:GScope):Option Bool:=
 eaa (α:=Bool) (
  if¬80<(t0.Name.size:Int)then
   if¬14<(t0.Inputs.length:Int)then
    if¬14<(t0.Defs.length:Int)then
     some (decide (60<(t0.Rules.length:Int)))
    else
    some true
   else
   some true
  else
  some true) λj4=>
 if j4=true then
  some false
 else
 (fa (Mg t0) 0).bind λy=>match y with
 |.inr v=>some v
 |.inl _=>
 (fa (Lg t0) 0).bind λy=>match y with
 |.inr v=>some v
 |.inl _=>
 (fa (Kg t0) 0).bind λy=>match y with
 |.inr v=>some v
 |.inl _=>
 some true
def Zf(t0:GLaw) (s5:Int):Int->Option (Ex Int Unit (Ex Int Unit Bool)):=λs11=>
 (idx t0.Enums s5).bind λx12=>
 if s11<(x12.Members.length:Int)then
  (idx x12.Members s11).bind λx14=>
  if 80<(x14.size:Int)then
   some (Ex.ret (Ex.ret false))
  else
  some (Ex.go (da .i64 (s11+1)))
 else
 some (Ex.brk ())
def Yh(t0:GLaw):Int->Option (Ex Int Unit Bool):=λs5=>
 if s5<(t0.Enums.length:Int)then
  eaa (α:=Bool) (
   (idx t0.Enums s5).bind λx7=>
   if¬80<(x7.Name.size:Int)then
    some (decide (20<(x7.Members.length:Int)))
   else
   some true) λj9=>
  if j9=true then
   some (Ex.ret false)
  else
  (fa (Zf t0 s5) 0).bind λy=>match y with
  |.inr v=>some v
  |.inl _=>
  some (Ex.go (da .i64 (s5+1)))
 else
 some (Ex.brk ())
def Xh(t0:GLaw):(Int×Int)->Option (Ex (Int×Int) Unit Bool):=λ(s18,s19)=>
 if s19<(t0.Tables.length:Int)then
  (idx t0.Tables s19).bind λx21=>
  eaa (α:=Bool) (
   if¬80<(x21.Name.size:Int)then
    some (decide (150<(da .i64 (s18+(x21.Rows.length:Int)))))
   else
   some true) λj23=>
  if j23=true then
   some (Ex.ret false)
  else
  some (Ex.go ((da .i64 (s18+(x21.Rows.length:Int))),(da .i64 (s19+1))))
 else
 some (Ex.brk ())
def Vh(t0:GLaw):(Int×Int)->Option (Ex (Int×Int) Unit Bool):=λ(s27,s28)=>
 if s28<(t0.Scopes.length:Int)then
  (idx t0.Scopes s28).bind λx30=>
  eaa (α:=Bool) (
   if¬60<(da .i64 (s27+(x30.Rules.length:Int)))then
    (uf x30).bind λx32=>
    some (!x32)
   else
   some true) λj33=>
  if j33=true then
   some (Ex.ret false)
  else
  some (Ex.go ((da .i64 (s27+(x30.Rules.length:Int))),(da .i64 (s28+1))))
 else
 some (Ex.brk ())
def Om(t0:GLaw):Option Bool:=
 eaa (α:=Bool) (
  if¬9<(t0.Enums.length:Int)then
   if¬9<(t0.Tables.length:Int)then
    some (decide (5<(t0.Scopes.length:Int)))
   else
   some true
  else
  some true) λj3=>
 if j3=true then
  some false
 else
 (fa (Yh t0) 0).bind λy=>match y with
 |.inr v=>some v
 |.inl _=>
 (fa (Xh t0) (0,0)).bind λy=>match y with
 |.inr v=>some v
 |.inl _=>
 (fa (Vh t0) (0,0)).bind λy=>match y with
 |.inr v=>some v
 |.inl _=>
 some true
def Gm(t0:Int):Option Bool:=
 eaa (α:=Bool) (
  if 97<=t0 then
   some (decide (t0<=122))
  else
  some false) λj2=>
 some j2
def Fp(t0:Int):Option Bool:=
 eaa (α:=Bool) (
  if 48<=t0 then
   some (decide (t0<=57))
  else
  some false) λj2=>
 some j2
def Mc(t0:ByteArray):Int->Option (Ex Int Int Unit):=λs1=>
 eaa (α:=Bool) (
  if s1<(t0.size:Int)then
   (Cs t0 s1).bind λx3=>
   (Gm x3).bind λx4=>
   if x4=false then
    (Fp x3).bind λx6=>
    if x6=false then
     some (x3==95)
    else
    some true
   else
   some true
  else
  some false) λj8=>
 if j8=true then
  some (Ex.go (da .i64 (s1+1)))
 else
 some (Ex.brk s1)
def Ni(t0:ByteArray):Option Int:=
 (fa (Mc t0) 0).bind λy=>match y with
 |.inr _=>none
 |.inl b11=>
 some b11
def Kd(t0:ByteArray):Option Bool:=
 eaa (α:=Bool) (
  if t0=(iaa #[105,102])then
   some true
  else
  if t0=(iaa #[116,104,101,110])then
   some true
  else
  if t0=(iaa #[101,108,115,101])then
   some true
  else
  if t0=(iaa #[111,114])then
   some true
  else
  if t0=(iaa #[97,110,100])then
   some true
  else
  if t0=(iaa #[110,111,116])then
   some true
  else
  if t0=(iaa #[116,114,117,101])then
   some true
  else
  if t0=(iaa #[102,97,108,115,101])then
   some true
  else
  if t0=(iaa #[116,111,100,97,121])then
   some true
  else
  if t0=(iaa #[115,104,97,114,101])then
   some true
  else
  if t0=(iaa #[100,105,118])then
   some true
  else
  if t0=(iaa #[114,111,117,110,100])then
   some true
  else
  if t0=(iaa #[109,105,110])then
   some true
  else
  if t0=(iaa #[109,97,120])then
   some true
  else
  if t0=(iaa #[112,108,117,115])then
   some true
  else
  if t0=(iaa #[109,111,110,116,104,115])then
   some true
  else
  if t0=(iaa #[100,97,121,115])then
   some true
  else
  if t0=(iaa #[121,101,97,114,115])then
   some true
  else
  if t0=(iaa #[121,101,97,114])then
   some true
  else
  if t0=(iaa #[109,111,110,116,104])then
   some true
  else
  if t0=(iaa #[116,97,98])then
   some true
  else
  if t0=(iaa #[98,97,110,100])then
   some true
  else
  if t0=(iaa #[99,111,117,110,116])then
   some true
  else
  if t0=(iaa #[115,117,109])then
   some true
  else
  if t0=(iaa #[97,108,108])then
   some true
  else
  if t0=(iaa #[97,110,121])then
   some true
  else
  if t0=(iaa #[109,111,115,116])then
   some true
  else
  if t0=(iaa #[101,110,117,109])then
   some true
  else
  if t0=(iaa #[116,97,98,108,101])then
   some true
  else
  if t0=(iaa #[114,111,119])then
   some true
  else
  if t0=(iaa #[115,99,111,112,101])then
   some true
  else
  if t0=(iaa #[109,101,109,98,101,114,115])then
   some true
  else
  if t0=(iaa #[105,110,112,117,116])then
   some true
  else
  if t0=(iaa #[100,101,102])then
   some true
  else
  if t0=(iaa #[114,117,108,101])then
   some true
  else
  if t0=(iaa #[111,102])then
   some true
  else
  if t0=(iaa #[111,118,101,114])then
   some true
  else
  if t0=(iaa #[112,114,105,111])then
   some true
  else
  if t0=(iaa #[102,114,111,109])then
   some true
  else
  if t0=(iaa #[116,111])then
   some true
  else
  if t0=(iaa #[101,110,100])then
   some true
  else
  if t0=(iaa #[119,104,101,110])then
   some true
  else
  if t0=(iaa #[105,115])then
   some true
  else
  if t0=(iaa #[115,114,99])then
   some true
  else
  if t0=(iaa #[98,111,111,108])then
   some true
  else
  if t0=(iaa #[105,110,116])then
   some true
  else
  if t0=(iaa #[109,111,110,101,121])then
   some true
  else
  if t0=(iaa #[114,97,116,101])then
   some true
  else
  if t0=(iaa #[100,97,116,101])then
   some true
  else
  if t0=(iaa #[100,111,119,110])then
   some true
  else
  if t0=(iaa #[117,112])then
   some true
  else
  if t0=(iaa #[122,101,114,111])then
   some true
  else
  if t0=(iaa #[97,119,97,121])then
   some true
  else
  if t0=(iaa #[104,97,108,102])then
   some true
  else
  some (decide (t0=(iaa #[101,118,101,110])))) λj55=>
 if j55=true then
  some true
 else
 some false
def ib(t0:ByteArray):Option Bool:=
 eaa (α:=Bool) (
  if¬t0=(iaa #[])then
   (Cs t0 0).bind λx2=>
   (Gm x2).bind λx3=>
   if x3=true then
    (Ni t0).bind λx5=>
    if x5=(t0.size:Int)then
     if(t0.size:Int)<=16 then
      (Kd t0).bind λx8=>
      some (!x8)
     else
     some false
    else
    some false
   else
   some false
  else
  some false) λj9=>
 some j9
def Gc(t0:List GEnum) (t1:(GEnum->Option Bool)):Int->Option (Ex Int Unit Int):=λs1=>
 if s1<(t0.length:Int)then
  (idx t0 s1).bind λx3=>
  (t1 x3).bind λx4=>
  if x4=true then
   some (Ex.ret s1)
  else
  some (Ex.go (da .i64 (s1+1)))
 else
 some (Ex.brk ())
def Ub(t0:List GEnum) (t1:(GEnum->Option Bool)):Option Int:=
 (fa (Gc t0 t1) 0).bind λy=>match y with
 |.inr v=>some v
 |.inl _=>
 some (-1)
def ab(t0:List GEnum) (t1:(GEnum->Option Bool)):Option Bool:=
 (Ub t0 t1).bind λx1=>
 some (decide (0<=x1))
def Oe(t0:GEnum) (t1:ByteArray):Option Bool:=
 some (decide (t0.Name=t1))
def jj(t0:List GEnum) (t1:ByteArray):Option Bool:=
 (ab t0 (λx900=>Oe x900 t1)).bind λx1=>
 some x1
def Rc(t0:List ByteArray) (t1:ByteArray):Int->Option (Ex Int Unit Int):=λs1=>
 if s1<(t0.length:Int)then
  (idx t0 s1).bind λx3=>
  if t1=x3 then
   some (Ex.ret s1)
  else
  some (Ex.go (da .i64 (s1+1)))
 else
 some (Ex.brk ())
def Ng(t0:List ByteArray) (t1:ByteArray):Option Int:=
 (fa (Rc t0 t1) 0).bind λy=>match y with
 |.inr v=>some v
 |.inl _=>
 some (-1)
def Qc(t0:List ByteArray) (t1:ByteArray):Option Bool:=
 (Ng t0 t1).bind λx1=>
 some (decide (0<=x1))
def Ki(t2:GEnum):Int->Option (Ex Int Unit (Int×Int)):=λs8=>
 if s8<(t2.Members.length:Int)then
  (idx t2.Members s8).bind λx10=>
  (ib x10).bind λx11=>
  if x11=false then
   some (Ex.ret (2,(da .i64 (100+s8))))
  else
  (Fs t2.Members s8).bind λx13=>
  (Qc x13 x10).bind λx14=>
  if x14=true then
   some (Ex.ret (7,(da .i64 (100+s8))))
  else
  some (Ex.go (da .i64 (s8+1)))
 else
 some (Ex.brk ())
def Fm(t0:GLaw) (t1:Int) (t2:GEnum):Option (Int×Int):=
 (ib t2.Name).bind λx1=>
 if x1=false then
  some (2,0)
 else
 (Fs t0.Enums t1).bind λx3=>
 (jj x3 t2.Name).bind λx4=>
 if x4=true then
  some (7,0)
 else
 if(t2.Members.length:Int)=0 then
  some (5,0)
 else
 if 16<(t2.Members.length:Int)then
  some (4,116)
 else
 (fa (Ki t2) 0).bind λy=>match y with
 |.inr v=>some v
 |.inl _=>
 some (0,0)
def uh(t0:GLaw):Int->Option (Ex Int Unit GLawError):=λs2=>
 if s2<(t0.Enums.length:Int)then
  (idx t0.Enums s2).bind λx4=>
  (Fm t0 s2 x4).bind λx5=>
  if¬x5.1=0 then
   some (Ex.ret (GLawError.mk x5.1 1 s2 x5.2))
  else
  some (Ex.go (da .i64 (s2+1)))
 else
 some (Ex.brk ())
def Yn(t0:GLaw):Option GLawError:=
 if 8<(t0.Enums.length:Int)then
  some (GLawError.mk 4 1 8 0)
 else
 (fa (uh t0) 0).bind λy=>match y with
 |.inr v=>some v
 |.inl _=>
 some (GLawError.mk 0 0 0 0)
def Hb(t0:GType) (t1:List GEnum):Option Bool:=
 eaa (α:=Bool) (
  if t0.Kind=1 then
   some true
  else
  if t0.Kind=2 then
   some true
  else
  if t0.Kind=3 then
   some true
  else
  if t0.Kind=4 then
   some true
  else
  some (t0.Kind==5)) λj5=>
 if j5=true then
  some (t0.Enum==0)
 else
 if t0.Kind=6 then
  eaa (α:=Bool) (
   if 0<=t0.Enum then
    some (decide (t0.Enum<(t1.length:Int)))
   else
   some false) λj9=>
  some j9
 else
 some false
def kd(t0:GType) (t1:List GEnum):Option (Int×Int):=
 (Hb t0 t1).bind λx1=>
 if x1=false then
  some (0,(-1))
 else
 if t0.Kind=1 then
  some (0,1)
 else
 if t0.Kind=2 then
  some ((-1000000000000),1000000000000)
 else
 if t0.Kind=3 then
  some ((-1000000000000000),1000000000000000)
 else
 if t0.Kind=4 then
  some ((-1000000000),1000000000)
 else
 if t0.Kind=5 then
  some (0,109572)
 else
 (idx t1 t0.Enum).bind λx8=>
 some (0,(da .i64 ((x8.Members.length:Int)-1)))
def pf(t0:GDateRange):Option Bool:=
 eaa (α:=Bool) (
  if 0<=t0.From then
   if t0.From<=t0.To then
    some (decide (t0.To<=109573))
   else
   some false
  else
  some false) λj3=>
 some j3
def Nd(t0:List GRow) (t1:(GRow->Option Bool)):Int->Option (Ex Int Unit (Int×Bool)):=λs1=>
 if s1<(t0.length:Int)then
  (idx t0 s1).bind λx3=>
  (t1 x3).bind λx4=>
  if x4=true then
   some (Ex.ret (s1,true))
  else
  some (Ex.go (da .i64 (s1+1)))
 else
 some (Ex.brk ())
def Qd(t0:List GRow) (t1:(GRow->Option Bool)):Option (Int×Bool):=
 (fa (Nd t0 t1) 0).bind λy=>match y with
 |.inr v=>some v
 |.inl _=>
 some (0,false)
def qh(t0:GDateRange):Option Bool:=
 eaa (α:=Bool) (
  (pf t0).bind λx1=>
  if x1=true then
   some (decide (t0.From<t0.To))
  else
  some false) λj3=>
 some j3
def ui(t0:GDateRange) (t1:GDateRange):Option (GDateRange×Bool):=
 eaa (α:=Bool) (
  (qh t0).bind λx1=>
  if x1=true then
   (qh t1).bind λx3=>
   some (!x3)
  else
  some true) λj4=>
 if j4=true then
  some ((GDateRange.mk 0 0),false)
 else
 if(min t0.To t1.To)<=(max t0.From t1.From)then
  some ((GDateRange.mk 0 0),false)
 else
 some ((GDateRange.mk (max t0.From t1.From) (min t0.To t1.To)),true)
def Ml(t0:GRow) (t1:GRow):Option Bool:=
 (ui t0.Valid t1.Valid).bind λx1=>
 eaa (α:=Bool) (
  if x1.2=true then
   some (decide ((max t0.Lo t1.Lo)<(min t0.Hi t1.Hi)))
  else
  some false) λj3=>
 some j3
def Sc(t0:GRow) (t1:GRow):Option Bool:=
 (Ml t0 t1).bind λx1=>
 some x1
def ai(t0:GTable) (x7:(Int×Int)) (x8:(Int×Int)):Int->Option (Ex Int Unit (Int×Int)):=λs9=>
 if s9<(t0.Rows.length:Int)then
  (idx t0.Rows s9).bind λx11=>
  eaa (α:=Bool) (
   (pf x11.Valid).bind λx12=>
   if x12=true then
    if¬x11.Valid.From=x11.Valid.To then
     some (decide (x11.Hi<=x11.Lo))
    else
    some true
   else
   some true) λj15=>
  if j15=true then
   some (Ex.ret (s9,3))
  else
  eaa (α:=Bool) (
   if¬x11.Lo<x7.1 then
    if¬x7.2<x11.Lo then
     if¬(da .i64 (x11.Hi-1))<x7.1 then
      some (decide (x7.2<(da .i64 (x11.Hi-1))))
     else
     some true
    else
    some true
   else
   some true) λj20=>
  if j20=true then
   some (Ex.ret (s9,3))
  else
  eaa (α:=Bool) (
   if¬x11.N<x8.1 then
    some (decide (x8.2<x11.N))
   else
   some true) λj23=>
  if j23=true then
   some (Ex.ret (s9,3))
  else
  (Fs t0.Rows s9).bind λx25=>
  (Qd x25 (λx900=>Sc x900 x11)).bind λx26=>
  if x26.2=true then
   some (Ex.ret (s9,11))
  else
  some (Ex.go (da .i64 (s9+1)))
 else
 some (Ex.brk ())
def dj(t0:GTable) (t1:List GEnum):Option (Int×Int):=
 if 64<(t0.Rows.length:Int)then
  some (64,4)
 else
 eaa (α:=Bool) (
  (Hb t0.Key t1).bind λx2=>
  if x2=true then
   (Hb t0.Value t1).bind λx4=>
   some (!x4)
  else
  some true) λj5=>
 if j5=true then
  some ((-1),8)
 else
 (kd t0.Key t1).bind λx7=>
 (kd t0.Value t1).bind λx8=>
 (fa (ai t0 x7 x8) 0).bind λy=>match y with
 |.inr v=>some v
 |.inl _=>
 some (0,0)
def vc(t0:List GTable) (t1:(GTable->Option Bool)):Int->Option (Ex Int Unit Int):=λs1=>
 if s1<(t0.length:Int)then
  (idx t0 s1).bind λx3=>
  (t1 x3).bind λx4=>
  if x4=true then
   some (Ex.ret s1)
  else
  some (Ex.go (da .i64 (s1+1)))
 else
 some (Ex.brk ())
def Cb(t0:List GTable) (t1:(GTable->Option Bool)):Option Int:=
 (fa (vc t0 t1) 0).bind λy=>match y with
 |.inr v=>some v
 |.inl _=>
 some (-1)
def Ua(t0:List GTable) (t1:(GTable->Option Bool)):Option Bool:=
 (Cb t0 t1).bind λx1=>
 some (decide (0<=x1))
def Ud(t0:GTable) (t1:ByteArray):Option Bool:=
 some (decide (t0.Name=t1))
def qj(t0:List GTable) (t1:ByteArray):Option Bool:=
 (Ua t0 (λx900=>Ud x900 t1)).bind λx1=>
 some x1
def ug(t0:GLaw):Int->Option (Ex Int Unit GLawError):=λs2=>
 if s2<(t0.Tables.length:Int)then
  (idx t0.Tables s2).bind λx4=>
  (dj x4 t0.Enums).bind λx5=>
  eaa (α:=(Int×Int)) (
   (ib x4.Name).bind λx6=>
   if x6=false then
    some (2,0)
   else
   eaa (α:=Bool) (
    (jj t0.Enums x4.Name).bind λx8=>
    if x8=false then
     (Fs t0.Tables s2).bind λx10=>
     (qj x10 x4.Name).bind λx11=>
     some x11
    else
    some true) λj12=>
   if j12=true then
    some (7,0)
   else
   if¬x5.2=0 then
    if¬x5.1=(-1)then
     some (x5.2,(da .i64 (100+x5.1)))
    else
    some (x5.2,0)
   else
   some (0,0)) λ(j16,j17)=>
  if¬j16=0 then
   some (Ex.ret (GLawError.mk j16 2 s2 j17))
  else
  some (Ex.go (da .i64 (s2+1)))
 else
 some (Ex.brk ())
def Vm(t0:GLaw):Option GLawError:=
 if 8<(t0.Tables.length:Int)then
  some (GLawError.mk 4 2 8 0)
 else
 (fa (ug t0) 0).bind λy=>match y with
 |.inr v=>some v
 |.inl _=>
 some (GLawError.mk 0 0 0 0)
def Bh(t0:List GField):((List GType)×Int)->Option (Ex ((List GType)×Int) (List GType) Unit):=λ(s1,s2)=>
 if s2<(t0.length:Int)then
  (idx t0 s2).bind λx4=>
  (app 16 s1 ([x4.Type_])).bind λx5=>
  some (Ex.go (x5,(da .i64 (s2+1))))
 else
 some (Ex.brk s1)
def wg(t0:List GField):Option (List GType):=
 (fa (Bh t0) (([]:List GType),0)).bind λy=>match y with
 |.inr _=>none
 |.inl b8=>
 some b8
def Lc(t0:GLaw) (t1:Int):Option GSignature:=
 (idx t0.Scopes t1).bind λx1=>
 (wg x1.Inputs).bind λx2=>
 (wg x1.Defs).bind λx3=>
 eaa (α:=((List GType)×Bool)) (
  eaa (α:=Bool) (
   if 0<=x1.MemberScope then
    some (decide (x1.MemberScope<(t0.Scopes.length:Int)))
   else
   some false) λj5=>
  if j5=true then
   (idx t0.Scopes x1.MemberScope).bind λx7=>
   (wg x7.Defs).bind λx8=>
   some (x8,true)
  else
  some (([]:List GType),false)) λ(j9,j10)=>
 some (GSignature.mk t0.Enums t0.Tables x2 x3 j9 j10)
def Vl(t0:List (List Int)) (t1:Int):Option (List Int):=
 if t0.length<=1048576/\(∀l∈t0,l.length<=1048576/\∀e∈l,0<=e/\e<t0.length)/\0<=t1/\t1<t0.length then
  some (QD t0 t1)
 else none
def fb(t0:List Int):Option (List Int):=if t0.length<=8796093022208 then some (t0.mergeSort λx y=>decide (x<=y))else none
def Ma(t0:List Int):Option (List Int):=if t0.length<=8796093022208 then some (Go.Lib.compact t0)else none
def ei(t0:List Int):Option (List Int):=
 (fb t0).bind λx1=>
 (Ma x1).bind λx2=>
 some x2
def ng(t0:List GNode):((List Int)×(List Int)×(List Int)×Int)->Option (Ex ((List Int)×(List Int)×(List Int)×Int) ((List Int)×(List Int)×(List Int)) Unit):=λ(s1,s2,s3,s4)=>
 if s4<(t0.length:Int)then
  eaa (α:=((List Int)×(List Int)×(List Int))) (
   (idx t0 s4).bind λx6=>
   if x6.Op=7 then
    (app 8 s1 ([x6.N])).bind λx8=>
    some (x8,s2,s3)
   else
   if x6.Op=8 then
    (app 8 s2 ([x6.N])).bind λx10=>
    some (s1,x10,s3)
   else
   eaa (α:=Bool) (
    if x6.Op=36 then
     some true
    else
    if x6.Op=37 then
     some true
    else
    if x6.Op=38 then
     some true
    else
    some (x6.Op==39)) λj14=>
   if j14=true then
    (app 8 s3 ([x6.N])).bind λx16=>
    some (s1,s2,x16)
   else
   some (s1,s2,s3)) λ(j17,j18,j19)=>
  some (Ex.go (j17,j18,j19,(da .i64 (s4+1))))
 else
 some (Ex.brk (s1,s2,s3))
def Yg(t0:List GNode):Option ((List Int)×(List Int)×(List Int)):=
 (fa (ng t0) (([]:List Int),([]:List Int),([]:List Int),0)).bind λy=>match y with
 |.inr _=>none
 |.inl (b24,b25,b26)=>
 (ei b24).bind λx27=>
 (ei b25).bind λx28=>
 (ei b26).bind λx29=>
 some (x27,x28,x29)
def ee(t1:Int) (x1:((List Int)×(List Int)×(List Int))):((List Int)×Int)->Option (Ex ((List Int)×Int) (List Int) Unit):=λ(s3,s4)=>
 if s4<(x1.2.1.length:Int)then
  eaa (α:=(List Int)) (
   (idx x1.2.1 s4).bind λx6=>
   eaa (α:=Bool) (
    if 0<=x6 then
     some (decide (x6<t1))
    else
    some false) λj8=>
   if j8=true then
    (app 8 s3 ([x6])).bind λx10=>
    some x10
   else
   some s3) λj11=>
  some (Ex.go (j11,(da .i64 (s4+1))))
 else
 some (Ex.brk s3)
def Zd(t1:Int) (x2:((List Int)×(List Int)×(List Int))):((List Int)×Int)->Option (Ex ((List Int)×Int) (List Int) Unit):=λ(s15,s16)=>
 if s16<(x2.2.1.length:Int)then
  eaa (α:=(List Int)) (
   (idx x2.2.1 s16).bind λx18=>
   eaa (α:=Bool) (
    if 0<=x18 then
     some (decide (x18<t1))
    else
    some false) λj20=>
   if j20=true then
    (app 8 s15 ([x18])).bind λx22=>
    some x22
   else
   some s15) λj23=>
  some (Ex.go (j23,(da .i64 (s16+1))))
 else
 some (Ex.brk s15)
def od(t0:GRule) (t1:Int):Option (List Int):=
 (Yg t0.Guard).bind λx1=>
 (Yg t0.Value).bind λx2=>
 (fa (ee t1 x1) (([]:List Int),0)).bind λy=>match y with
 |.inr _=>none
 |.inl b14=>
 (fa (Zd t1 x2) (b14,0)).bind λy=>match y with
 |.inr _=>none
 |.inl b26=>
 some b26
def Bi(t0:List Int):Option (List Int):=
 (fb t0).bind λx1=>
 (Ma x1).bind λx2=>
 some x2
def Ai(t0:GScope):Option (List (List Int)):=
 if t0.Defs.length<=1048576/\t0.Rules.length<=1048576/\(∀r∈t0.Rules,r.Guard.length<=1048576/\r.Value.length<=1048576)then
  ((yaa t0.Defs.length).mapM λ(d:Nat)=>((t0.Rules.filter λ(r:GRule)=>r.Def==(d:Int)).mapM λr=>od r t0.Defs.length).bind λls=>some (Sd ls.flatten))
 else none
def Fj(t0:GScope) (t1:Int):Option (List Int):=
 eaa (α:=Bool) (
  if¬t1<0 then
   some (decide ((t0.Defs.length:Int)<=t1))
  else
  some true) λj2=>
 if j2=true then
  some ([])
 else
 (Ai t0).bind λx4=>
 (Vl x4 t1).bind λx5=>
 some x5
def tc(t0:List GScope) (t1:(GScope->Option Bool)):Int->Option (Ex Int Unit Int):=λs1=>
 if s1<(t0.length:Int)then
  (idx t0 s1).bind λx3=>
  (t1 x3).bind λx4=>
  if x4=true then
   some (Ex.ret s1)
  else
  some (Ex.go (da .i64 (s1+1)))
 else
 some (Ex.brk ())
def Bb(t0:List GScope) (t1:(GScope->Option Bool)):Option Int:=
 (fa (tc t0 t1) 0).bind λy=>match y with
 |.inr v=>some v
 |.inl _=>
 some (-1)
def Ta(t0:List GScope) (t1:(GScope->Option Bool)):Option Bool:=
 (Bb t0 t1).bind λx1=>
 some (decide (0<=x1))
def Oc(t0:GScope) (t1:GScope):Option Bool:=
 some (decide (t0.Name=t1.Name))
def nc(t0:GField) (t1:GField):Option Bool:=
 some (decide (t0.Name=t1.Name))
def qc(t0:List GField) (t1:(GField->Option Bool)):Int->Option (Ex Int Unit Int):=λs1=>
 if s1<(t0.length:Int)then
  (idx t0 s1).bind λx3=>
  (t1 x3).bind λx4=>
  if x4=true then
   some (Ex.ret s1)
  else
  some (Ex.go (da .i64 (s1+1)))
 else
 some (Ex.brk ())
def Ab(t0:List GField) (t1:(GField->Option Bool)):Option Int:=
 (fa (qc t0 t1) 0).bind λy=>match y with
 |.inr v=>some v
 |.inl _=>
 some (-1)
def Ha(t0:List GField) (t1:(GField->Option Bool)):Option Bool:=
 (Ab t0 t1).bind λx1=>
 some (decide (0<=x1))
def sg(t0:GLaw) (t1:GField) (t2:List GField) (t3:List GField):Option Int:=
 (ib t1.Name).bind λx1=>
 if x1=false then
  some 2
 else
 eaa (α:=Bool) (
  (Ha t2 (λx900=>nc x900 t1)).bind λx3=>
  if x3=false then
   (Ha t3 (λx900=>nc x900 t1)).bind λx5=>
   some x5
  else
  some true) λj6=>
 if j6=true then
  some 7
 else
 (Hb t1.Type_ t0.Enums).bind λx8=>
 if x8=false then
  some 8
 else
 some 0
def Hc(t0:List GRule) (t1:(GRule->Option Bool)):Int->Option (Ex Int Unit Int):=λs1=>
 if s1<(t0.length:Int)then
  (idx t0 s1).bind λx3=>
  (t1 x3).bind λx4=>
  if x4=true then
   some (Ex.ret s1)
  else
  some (Ex.go (da .i64 (s1+1)))
 else
 some (Ex.brk ())
def Vb(t0:List GRule) (t1:(GRule->Option Bool)):Option Int:=
 (fa (Hc t0 t1) 0).bind λy=>match y with
 |.inr v=>some v
 |.inl _=>
 some (-1)
def zb(t0:List GRule) (t1:(GRule->Option Bool)):Option Bool:=
 (Vb t0 t1).bind λx1=>
 some (decide (0<=x1))
def ue(t0:GRule) (t1:GRule):Option Bool:=
 some (decide (t0.Name=t1.Name))
def strings_Contains(t0:ByteArray) (t1:ByteArray):Option Bool:=
 if t1.size=1 then some (t0.data.toList.contains (t1.data.toList.headD 0))else none
def xg(t0:ByteArray):Int->Option (Ex Int Unit Bool):=λs5=>
 if s5<(t0.size:Int)then
  eaa (α:=Bool) (
   (Cs t0 s5).bind λx7=>
   if¬x7<32 then
    some (decide (126<x7))
   else
   some true) λj9=>
  if j9=true then
   some (Ex.ret false)
  else
  some (Ex.go (da .i64 (s5+1)))
 else
 some (Ex.brk ())
def ah(t0:ByteArray):Option Bool:=
 eaa (α:=Bool) (
  if¬64<(t0.size:Int)then
   (strings_Contains t0 (iaa #[34])).bind λx2=>
   some x2
  else
  some true) λj3=>
 if j3=true then
  some false
 else
 (fa (xg t0) 0).bind λy=>match y with
 |.inr v=>some v
 |.inl _=>
 some true
def mg(t0:Int):Option Int:=
 eaa (α:=Bool) (
  if t0=1 then
   some true
  else
  if t0=2 then
   some true
  else
  if t0=3 then
   some true
  else
  if t0=4 then
   some true
  else
  if t0=5 then
   some true
  else
  if t0=6 then
   some true
  else
  if t0=7 then
   some true
  else
  if t0=8 then
   some true
  else
  if t0=9 then
   some true
  else
  if t0=35 then
   some true
  else
  if t0=36 then
   some true
  else
  if t0=37 then
   some true
  else
  if t0=38 then
   some true
  else
  some (t0==39)) λj14=>
 if j14=true then
  some 0
 else
 eaa (α:=Bool) (
  if t0=10 then
   some true
  else
  if t0=25 then
   some true
  else
  if t0=31 then
   some true
  else
  if t0=32 then
   some true
  else
  if t0=33 then
   some true
  else
  some (t0==34)) λj21=>
 if j21=true then
  some 1
 else
 eaa (α:=Bool) (
  if t0=11 then
   some true
  else
  if t0=12 then
   some true
  else
  if t0=13 then
   some true
  else
  if t0=14 then
   some true
  else
  if t0=15 then
   some true
  else
  if t0=16 then
   some true
  else
  if t0=17 then
   some true
  else
  if t0=18 then
   some true
  else
  if t0=19 then
   some true
  else
  if t0=20 then
   some true
  else
  if t0=21 then
   some true
  else
  if t0=22 then
   some true
  else
  if t0=23 then
   some true
  else
  if t0=24 then
   some true
  else
  if t0=27 then
   some true
  else
  if t0=28 then
   some true
  else
  if t0=29 then
   some true
  else
  some (t0==30)) λj40=>
 if j40=true then
  some 2
 else
 if t0=26 then
  some 3
 else
 some (-1)
def th(t0:List GNode):((List Int)×(List Int)×Int)->Option (Ex ((List Int)×(List Int)×Int) ((List Int)×(List Int)) ((List Int)×Int×Int)):=λ(s4,s5,s6)=>
 if s6<(t0.length:Int)then
  (idx t0 s6).bind λx8=>
  (mg x8.Op).bind λx9=>
  if x9<0 then
   some (Ex.ret ([],s6,2))
  else
  if(s5.length:Int)<x9 then
   some (Ex.ret ([],s6,5))
  else
  (idx s4 s6).bind λx12=>
  (put s4 s6 s6).bind λx13=>
  eaa (α:=(List Int)) (
   if 0<x9 then
    (idx s5 (da .i64 ((s5.length:Int)-x9))).bind λx15=>
    (idx x13 s6).bind λx16=>
    (put x13 s6 x15).bind λx17=>
    some x17
   else
   some x13) λj18=>
  (Fs s5 (da .i64 ((s5.length:Int)-x9))).bind λx19=>
  (idx j18 s6).bind λx20=>
  (app 8 x19 ([x20])).bind λx21=>
  if 12<(x21.length:Int)then
   some (Ex.ret ([],s6,16))
  else
  some (Ex.go (j18,x21,(da .i64 (s6+1))))
 else
 some (Ex.brk (s4,s5))
def Ei(t0:List GNode):Option ((List Int)×Int×Int):=
 if 48<(t0.length:Int)then
  some ([],0,4)
 else
 if(t0.length:Int)=0 then
  some ([],0,5)
 else
 (GD 8 0 (t0.length:Int) (t0.length:Int)).bind λx3=>
 (fa (th t0) (x3,([]:List Int),0)).bind λy=>match y with
 |.inr v=>some v
 |.inl (b26,b27)=>
 if 1<(b27.length:Int)then
  some ([],(t0.length:Int),4)
 else
 some (b26,0,0)
def Wk(t0:Int):Option Bool:=
 eaa (α:=Bool) (
  if t0=1 then
   some true
  else
  if t0=2 then
   some true
  else
  if t0=3 then
   some true
  else
  if t0=4 then
   some true
  else
  if t0=5 then
   some true
  else
  if t0=6 then
   some true
  else
  if t0=7 then
   some true
  else
  if t0=8 then
   some true
  else
  if t0=14 then
   some true
  else
  if t0=15 then
   some true
  else
  if t0=16 then
   some true
  else
  if t0=33 then
   some true
  else
  if t0=34 then
   some true
  else
  if t0=36 then
   some true
  else
  if t0=37 then
   some true
  else
  if t0=38 then
   some true
  else
  some (t0==39)) λj17=>
 if j17=true then
  some true
 else
 some false
def Ec(t0:Int) (t1:Int) (t2:GSignature):Option (GType×Int):=
 (kd (GType.mk t1 0) t2.Enums).bind λx1=>
 eaa (α:=Bool) (
  if¬t0<x1.1 then
   some (decide (x1.2<t0))
  else
  some true) λj3=>
 if j3=true then
  some ((GType.mk 0 0),3)
 else
 some ((GType.mk t1 0),0)
def Dm(t0:Int) (t1:GSignature):Option (GType×Int):=
 if t0<0 then
  some ((GType.mk 0 0),3)
 else
 eaa (α:=Bool) (
  if¬(t1.Enums.length:Int)<=(da .i64 (Faa t0 16))then
   (idx t1.Enums (da .i64 (Faa t0 16))).bind λx3=>
   some (decide ((x3.Members.length:Int)<=(Qaa t0 16)))
  else
  some true) λj4=>
 if j4=true then
  some ((GType.mk 0 0),6)
 else
 some ((GType.mk 6 (da .i64 (Faa t0 16))),0)
def Db(t0:Int) (t1:List GType) (t2:GSignature):Option (GType×Int):=
 eaa (α:=Bool) (
  if¬t0<0 then
   some (decide ((t1.length:Int)<=t0))
  else
  some true) λj2=>
 if j2=true then
  some ((GType.mk 0 0),6)
 else
 (idx t1 t0).bind λx4=>
 (Hb x4 t2.Enums).bind λx5=>
 if x5=false then
  some ((GType.mk 0 0),8)
 else
 some (x4,0)
def Me(t0:Int):Option Bool:=
 eaa (α:=Bool) (
  if 0<=t0 then
   some (decide (t0<=5))
  else
  some false) λj2=>
 some j2
def og(t0:GNode) (t1:GType) (t2:GSignature):Option (GType×Int):=
 eaa (α:=(Int⊕(GType×Int))) (
  if t0.Op=34 then
   eaa (α:=Bool) (
    if¬t0.N<0 then
     (Me (Qaa t0.N 8)).bind λx3=>
     some (!x3)
    else
    some true) λj4=>
   if j4=true then
    some (Sum.inr ((GType.mk 0 0),3))
   else
   some (Sum.inl (da .i64 (Faa t0.N 8)))
  else
  some (Sum.inl t0.N)) λz=>match z with
 |.inr v=>some v
 |.inl j6=>
 eaa (α:=Bool) (
  if¬j6<0 then
   some (decide ((t2.Tables.length:Int)<=j6))
  else
  some true) λj8=>
 if j8=true then
  some ((GType.mk 0 0),6)
 else
 (idx t2.Tables j6).bind λx10=>
 eaa (α:=Bool) (
  (Hb x10.Key t2.Enums).bind λx11=>
  if x11=true then
   (Hb x10.Value t2.Enums).bind λx13=>
   if x13=true then
    some (!((t1.Kind==x10.Key.Kind)&&(t1.Enum==x10.Key.Enum)))
   else
   some true
  else
  some true) λj15=>
 if j15=true then
  some ((GType.mk 0 0),8)
 else
 if t0.Op=34 then
  eaa (α:=Bool) (
   if x10.Key.Kind=3 then
    some (x10.Value.Kind !=4)
   else
   some true) λj19=>
  if j19=true then
   some ((GType.mk 0 0),8)
  else
  some (x10.Key,0)
 else
 some (x10.Value,0)
def Ee(t0:Int):Option Bool:=
 eaa (α:=Bool) (
  if¬t0=2 then
   if¬t0=3 then
    some (t0==4)
   else
   some true
  else
  some true) λj3=>
 some j3
def sf(t0:GNode) (t1:GSignature):Option (GType×Int):=
 if t1.HasMembers=false then
  some ((GType.mk 0 0),6)
 else
 if t0.Op=35 then
  some ((GType.mk 2 0),0)
 else
 (Db t0.N t1.MemberDefs t1).bind λx3=>
 if¬x3.2=0 then
  some ((GType.mk 0 0),x3.2)
 else
 eaa (α:=Bool) (
  if t0.Op=36 then
   if¬x3.1.Kind=2 then
    some (x3.1.Kind==3)
   else
   some true
  else
  eaa (α:=Bool) (
   if t0.Op=37 then
    some true
   else
   some (t0.Op==38)) λj8=>
  if j8=true then
   some (x3.1.Kind==1)
  else
  if t0.Op=39 then
   (Ee x3.1.Kind).bind λx11=>
   if x11=false then
    some (x3.1.Kind==5)
   else
   some true
  else
  some false) λj13=>
 if j13=false then
  some ((GType.mk 0 0),8)
 else
 some (x3.1,0)
def Vf(t0:Int) (t1:Int) (t2:Int):Option (GType×Bool):=
 if t0=14 then
  eaa (α:=Bool) (
   if t2=4 then
    if¬t1=3 then
     some (t1==4)
    else
    some true
   else
   some false) λj4=>
  some ((GType.mk t1 0),j4)
 else
 if t2=2 then
  eaa (α:=Bool) (
   if¬t1=2 then
    some (t1==3)
   else
   some true) λj7=>
  some ((GType.mk t1 0),j7)
 else
 eaa (α:=Bool) (
  if t0=15 then
   if t1=3 then
    some (t2==3)
   else
   some false
  else
  some false) λj10=>
 if j10=true then
  some ((GType.mk 4 0),true)
 else
 some ((GType.mk 0 0),false)
def Da(t0:Int) (t1:List GType):Option (GType×Bool):=
 if t0=10 then
  (idx t1 0).bind λx2=>
  (Ee x2.Kind).bind λx3=>
  some (x2,x3)
 else
 if t0=25 then
  (idx t1 0).bind λx5=>
  some ((GType.mk 1 0),(x5.Kind==1))
 else
 eaa (α:=Bool) (
  if t0=11 then
   some true
  else
  some (t0==12)) λj7=>
 if j7=true then
  eaa (α:=(Int×Int×Bool)) (
   (idx t1 0).bind λx9=>
   (idx t1 1).bind λx10=>
   if x9.Kind=x10.Kind/\x9.Enum=x10.Enum then
    (Ee x9.Kind).bind λx12=>
    some (x9.Kind,x9.Enum,x12)
   else
   some (x9.Kind,x9.Enum,false)) λ(j13,j14,j15)=>
  some ((GType.mk j13 j14),j15)
 else
 eaa (α:=Bool) (
  if t0=13 then
   some true
  else
  if t0=14 then
   some true
  else
  some (t0==15)) λj18=>
 if j18=true then
  (idx t1 0).bind λx20=>
  (idx t1 1).bind λx21=>
  (Vf t0 x20.Kind x21.Kind).bind λx22=>
  some (x22.1,x22.2)
 else
 if t0=16 then
  eaa (α:=(Int×Int×Bool)) (
   (idx t1 0).bind λx24=>
   if x24.Kind=3 then
    (idx t1 1).bind λx26=>
    some (x24.Kind,x24.Enum,(x26.Kind==3))
   else
   some (x24.Kind,x24.Enum,false)) λ(j27,j28,j29)=>
  some ((GType.mk j27 j28),j29)
 else
 eaa (α:=Bool) (
  if t0=17 then
   some true
  else
  some (t0==18)) λj31=>
 if j31=true then
  eaa (α:=(Int×Int×Bool)) (
   (idx t1 0).bind λx33=>
   (idx t1 1).bind λx34=>
   if x33.Kind=x34.Kind/\x33.Enum=x34.Enum then
    (Ee x33.Kind).bind λx36=>
    if x36=false then
     some (x33.Kind,x33.Enum,(x33.Kind==5))
    else
    some (x33.Kind,x33.Enum,true)
   else
   some (x33.Kind,x33.Enum,false)) λ(j38,j39,j40)=>
  some ((GType.mk j38 j39),j40)
 else
 eaa (α:=Bool) (
  if t0=19 then
   some true
  else
  some (t0==20)) λj42=>
 if j42=true then
  (idx t1 0).bind λx44=>
  (idx t1 1).bind λx45=>
  some ((GType.mk 1 0),((x44.Kind==x45.Kind)&&(x44.Enum==x45.Enum)))
 else
 eaa (α:=Bool) (
  if t0=21 then
   some true
  else
  some (t0==22)) λj47=>
 if j47=true then
  eaa (α:=Bool) (
   (idx t1 0).bind λx49=>
   (idx t1 1).bind λx50=>
   if x49.Kind=x50.Kind/\x49.Enum=x50.Enum then
    (Ee x49.Kind).bind λx52=>
    if x52=false then
     some (x49.Kind==5)
    else
    some true
   else
   some false) λj54=>
  some ((GType.mk 1 0),j54)
 else
 eaa (α:=Bool) (
  if t0=23 then
   some true
  else
  some (t0==24)) λj56=>
 if j56=true then
  eaa (α:=Bool) (
   (idx t1 0).bind λx58=>
   if x58.Kind=1 then
    (idx t1 1).bind λx60=>
    some (x60.Kind==1)
   else
   some false) λj61=>
  some ((GType.mk 1 0),j61)
 else
 if t0=26 then
  eaa (α:=(Int×Int×Bool)) (
   (idx t1 1).bind λx63=>
   (idx t1 0).bind λx64=>
   if x64.Kind=1 then
    (idx t1 2).bind λx66=>
    some (x63.Kind,x63.Enum,((x63.Kind==x66.Kind)&&(x63.Enum==x66.Enum)))
   else
   some (x63.Kind,x63.Enum,false)) λ(j67,j68,j69)=>
  some ((GType.mk j67 j68),j69)
 else
 eaa (α:=Bool) (
  if t0=27 then
   some true
  else
  some (t0==28)) λj71=>
 if j71=true then
  eaa (α:=(Int×Int×Bool)) (
   (idx t1 0).bind λx73=>
   if x73.Kind=5 then
    (idx t1 1).bind λx75=>
    some (x73.Kind,x73.Enum,(x75.Kind==2))
   else
   some (x73.Kind,x73.Enum,false)) λ(j76,j77,j78)=>
  some ((GType.mk j76 j77),j78)
 else
 eaa (α:=Bool) (
  if t0=29 then
   some true
  else
  some (t0==30)) λj80=>
 if j80=true then
  eaa (α:=Bool) (
   (idx t1 0).bind λx82=>
   if x82.Kind=5 then
    (idx t1 1).bind λx84=>
    some (x84.Kind==5)
   else
   some false) λj85=>
  some ((GType.mk 2 0),j85)
 else
 eaa (α:=Bool) (
  if t0=31 then
   some true
  else
  some (t0==32)) λj87=>
 if j87=true then
  (idx t1 0).bind λx89=>
  some ((GType.mk 2 0),(x89.Kind==5))
 else
 some ((GType.mk 0 0),false)
def ra(t0:GNode) (t1:List GType) (t2:GSignature):Option (GType×Int):=
 eaa (α:=(Unit⊕(GType×Int))) (
  if t0.Op=1 then
   (Ec t0.N 1 t2).bind λx2=>
   some (Sum.inr (x2.1,x2.2))
  else
  if t0.Op=2 then
   (Ec t0.N 2 t2).bind λx4=>
   some (Sum.inr (x4.1,x4.2))
  else
  if t0.Op=3 then
   (Ec t0.N 3 t2).bind λx6=>
   some (Sum.inr (x6.1,x6.2))
  else
  if t0.Op=4 then
   (Ec t0.N 4 t2).bind λx8=>
   some (Sum.inr (x8.1,x8.2))
  else
  if t0.Op=5 then
   (Ec t0.N 5 t2).bind λx10=>
   some (Sum.inr (x10.1,x10.2))
  else
  if t0.Op=6 then
   (Dm t0.N t2).bind λx12=>
   some (Sum.inr (x12.1,x12.2))
  else
  if t0.Op=7 then
   (Db t0.N t2.Inputs t2).bind λx14=>
   some (Sum.inr (x14.1,x14.2))
  else
  if t0.Op=8 then
   (Db t0.N t2.Defs t2).bind λx16=>
   some (Sum.inr (x16.1,x16.2))
  else
  if t0.Op=9 then
   some (Sum.inr ((GType.mk 5 0),0))
  else
  eaa (α:=Bool) (
   if t0.Op=33 then
    some true
   else
   some (t0.Op==34)) λj19=>
  if j19=true then
   (idx t1 0).bind λx21=>
   (og t0 x21 t2).bind λx22=>
   some (Sum.inr (x22.1,x22.2))
  else
  eaa (α:=Bool) (
   if t0.Op=35 then
    some true
   else
   if t0.Op=36 then
    some true
   else
   if t0.Op=37 then
    some true
   else
   if t0.Op=38 then
    some true
   else
   some (t0.Op==39)) λj27=>
  if j27=true then
   (sf t0 t2).bind λx29=>
   some (Sum.inr (x29.1,x29.2))
  else
  eaa (α:=Bool) (
   if t0.Op=14 then
    some true
   else
   if t0.Op=15 then
    some true
   else
   some (t0.Op==16)) λj32=>
  if j32=true then
   (Me t0.N).bind λx34=>
   if x34=false then
    some (Sum.inr ((GType.mk 0 0),3))
   else
   some (Sum.inl ())
  else
  some (Sum.inl ())) λz=>match z with
 |.inr v=>some v
 |.inl _=>
 (Da t0.Op t1).bind λx36=>
 if x36.2=false then
  some ((GType.mk 0 0),8)
 else
 some (x36.1,0)
def Vk(t0:List GNode) (t1:GSignature):((List GType)×Int)->Option (Ex ((List GType)×Int) (List GType) (GType×Int×Int)):=λ(s3,s4)=>
 if s4<(t0.length:Int)then
  (idx t0 s4).bind λx6=>
  eaa (α:=Bool) (
   if¬x6.N=0 then
    (Wk x6.Op).bind λx8=>
    some (!x8)
   else
   some false) λj9=>
  if j9=true then
   some (Ex.ret ((GType.mk 0 0),s4,2))
  else
  (mg x6.Op).bind λx11=>
  (gC s3 (da .i64 ((s3.length:Int)-x11))).bind λx12=>
  (ra x6 x12 t1).bind λx13=>
  if¬x13.2=0 then
   some (Ex.ret ((GType.mk 0 0),s4,x13.2))
  else
  (Fs s3 (da .i64 ((s3.length:Int)-x11))).bind λx15=>
  (app 16 x15 ([x13.1])).bind λx16=>
  some (Ex.go (x16,(da .i64 (s4+1))))
 else
 some (Ex.brk s3)
def yn(t0:List GNode) (t1:GSignature):Option (GType×Int×Int):=
 (Ei t0).bind λx1=>
 if¬x1.2.2=0 then
  some ((GType.mk 0 0),x1.2.1,x1.2.2)
 else
 (fa (Vk t0 t1) (([]:List GType),0)).bind λy=>match y with
 |.inr v=>some v
 |.inl b19=>
 (idx b19 0).bind λx20=>
 some (x20,0,0)
def fi(t0:List GNode) (t1:GSignature) (t2:GType):Option Int:=
 (yn t0 t1).bind λx1=>
 if¬x1.2.2=0 then
  some x1.2.2
 else
 if¬(x1.1.Kind=t2.Kind/\x1.1.Enum=t2.Enum)then
  some 8
 else
 some 0
def Li(x1:GRule) (x2:List GRule):(Int×Int)->Option (Ex (Int×Int) Int Unit):=λ(s3,s4)=>
 if s4<(x2.length:Int)then
  eaa (α:=Int) (
   (idx x2 s4).bind λx6=>
   if x6.Def=x1.Def then
    some (da .i64 (s3+1))
   else
   some s3) λj8=>
  some (Ex.go (j8,(da .i64 (s4+1))))
 else
 some (Ex.brk s3)
def ik(t0:GScope) (t1:Int) (t2:GSignature):Option Int:=
 (idx t0.Rules t1).bind λx1=>
 (Fs t0.Rules t1).bind λx2=>
 (fa (Li x1 x2) (0,0)).bind λy=>match y with
 |.inr _=>none
 |.inl b11=>
 (ib x1.Name).bind λx12=>
 if x12=false then
  some 2
 else
 (Fs t0.Rules t1).bind λx14=>
 (zb x14 (λx900=>ue x900 x1)).bind λx15=>
 if x15=true then
  some 7
 else
 eaa (α:=Bool) (
  if¬x1.Def<0 then
   some (decide ((t0.Defs.length:Int)<=x1.Def))
  else
  some true) λj18=>
 if j18=true then
  some 6
 else
 eaa (α:=Bool) (
  if¬x1.Parent=(-1)then
   if¬x1.Parent<0 then
    if¬t1<=x1.Parent then
     (idx t0.Rules x1.Parent).bind λx23=>
     some (x23.Def !=x1.Def)
    else
    some true
   else
   some true
  else
  some false) λj24=>
 if j24=true then
  some 9
 else
 eaa (α:=Bool) (
  if¬x1.Priority<0 then
   some (decide (9<x1.Priority))
  else
  some true) λj27=>
 if j27=true then
  some 3
 else
 eaa (α:=Bool) (
  if¬x1.Valid.From<0 then
   if¬x1.Valid.To<=x1.Valid.From then
    some (decide (109573<x1.Valid.To))
   else
   some true
  else
  some true) λj31=>
 if j31=true then
  some 3
 else
 if 8<=b11 then
  some 4
 else
 (ah x1.Source).bind λx34=>
 if x34=false then
  some 2
 else
 eaa (α:=(Unit⊕Int)) (
  if 0<(x1.Guard.length:Int)then
   (fi x1.Guard t2 (GType.mk 1 0)).bind λx37=>
   if¬x37=0 then
    some (Sum.inr x37)
   else
   some (Sum.inl ())
  else
  some (Sum.inl ())) λz=>match z with
 |.inr v=>some v
 |.inl _=>
 (idx t0.Defs x1.Def).bind λx39=>
 (fi x1.Value t2 x39.Type_).bind λx40=>
 some x40
def mf(t0:List Int) (t1:Int):Int->Option (Ex Int Unit Int):=λs1=>
 if s1<(t0.length:Int)then
  (idx t0 s1).bind λx3=>
  if t1=x3 then
   some (Ex.ret s1)
  else
  some (Ex.go (da .i64 (s1+1)))
 else
 some (Ex.brk ())
def Kl(t0:List Int) (t1:Int):Option Int:=
 (fa (mf t0 t1) 0).bind λy=>match y with
 |.inr v=>some v
 |.inl _=>
 some (-1)
def ud(t0:List Int) (t1:Int):Option Bool:=
 (Kl t0 t1).bind λx1=>
 some (decide (0<=x1))
def zh(t0:GLaw) (x1:GScope):Int->Option (Ex Int Unit (Int×Int)):=λs20=>
 if s20<(x1.Inputs.length:Int)then
  (idx x1.Inputs s20).bind λx22=>
  (Fs x1.Inputs s20).bind λx23=>
  (sg t0 x22 x23 ([])).bind λx24=>
  if¬x24=0 then
   some (Ex.ret (x24,(da .i64 (100+s20))))
  else
  some (Ex.go (da .i64 (s20+1)))
 else
 some (Ex.brk ())
def xh(t0:GLaw) (x1:GScope):Int->Option (Ex Int Unit (Int×Int)):=λs27=>
 if s27<(x1.Defs.length:Int)then
  (idx x1.Defs s27).bind λx29=>
  (Fs x1.Defs s27).bind λx30=>
  (sg t0 x29 x1.Inputs x30).bind λx31=>
  if¬x31=0 then
   some (Ex.ret (x31,(da .i64 (200+s27))))
  else
  some (Ex.go (da .i64 (s27+1)))
 else
 some (Ex.brk ())
def wh(x1:GScope) (x34:GSignature):Int->Option (Ex Int Unit (Int×Int)):=λs35=>
 if s35<(x1.Rules.length:Int)then
  (ik x1 s35 x34).bind λx37=>
  if¬x37=0 then
   some (Ex.ret (x37,(da .i64 (300+s35))))
  else
  some (Ex.go (da .i64 (s35+1)))
 else
 some (Ex.brk ())
def vh(x1:GScope):Int->Option (Ex Int Unit (Int×Int)):=λs40=>
 if s40<(x1.Defs.length:Int)then
  (Fj x1 s40).bind λx42=>
  (ud x42 s40).bind λx43=>
  if x43=true then
   some (Ex.ret (9,(da .i64 (200+s40))))
  else
  some (Ex.go (da .i64 (s40+1)))
 else
 some (Ex.brk ())
def Mi(t0:GLaw) (t1:Int):Option (Int×Int):=
 (idx t0.Scopes t1).bind λx1=>
 (Fs t0.Scopes t1).bind λx2=>
 eaa (α:=Bool) (
  (jj t0.Enums x1.Name).bind λx3=>
  if x3=false then
   (qj t0.Tables x1.Name).bind λx5=>
   if x5=false then
    (Ta x2 (λx900=>Oc x900 x1)).bind λx7=>
    some x7
   else
   some true
  else
  some true) λj8=>
 (ib x1.Name).bind λx9=>
 if x9=false then
  some (2,0)
 else
 if j8=true then
  some (7,0)
 else
 eaa (α:=Bool) (
  if¬x1.MemberScope=(-1)then
   if¬x1.MemberScope<0 then
    if¬t1<=x1.MemberScope then
     (idx x2 x1.MemberScope).bind λx15=>
     some (x15.MemberScope !=(-1))
    else
    some true
   else
   some true
  else
  some false) λj16=>
 if j16=true then
  some (6,0)
 else
 if 12<(x1.Inputs.length:Int)then
  some (4,112)
 else
 if 12<(x1.Defs.length:Int)then
  some (4,212)
 else
 (fa (zh t0 x1) 0).bind λy=>match y with
 |.inr v=>some v
 |.inl _=>
 (fa (xh t0 x1) 0).bind λy=>match y with
 |.inr v=>some v
 |.inl _=>
 (Lc t0 t1).bind λx34=>
 (fa (wh x1 x34) 0).bind λy=>match y with
 |.inr v=>some v
 |.inl _=>
 (fa (vh x1) 0).bind λy=>match y with
 |.inr v=>some v
 |.inl _=>
 some (0,0)
def tg(t0:GLaw):Int->Option (Ex Int Unit GLawError):=λs2=>
 if s2<(t0.Scopes.length:Int)then
  (Mi t0 s2).bind λx4=>
  if¬x4.1=0 then
   some (Ex.ret (GLawError.mk x4.1 3 s2 x4.2))
  else
  some (Ex.go (da .i64 (s2+1)))
 else
 some (Ex.brk ())
def Um(t0:GLaw):Option GLawError:=
 if 4<(t0.Scopes.length:Int)then
  some (GLawError.mk 4 3 4 0)
 else
 (fa (tg t0) 0).bind λy=>match y with
 |.inr v=>some v
 |.inl _=>
 some (GLawError.mk 0 0 0 0)
def Xl(t0:GLaw):Option GLawError:=
 (Yn t0).bind λx1=>
 if¬x1.Code=0 then
  some x1
 else
 (Vm t0).bind λx3=>
 if¬x3.Code=0 then
  some x3
 else
 (Um t0).bind λx5=>
 some x5
def Hd(t0:List GRule) (t1:(GRule->Option Bool)):((List Int)×(List Int)×(List Int)×Int)->Option (Ex ((List Int)×(List Int)×(List Int)×Int) ((List Int)×(List Int)) Unit):=λ(s2,s3,s4,s5)=>
 if s5<(t0.length:Int)then
  eaa (α:=((List Int)×(List Int)×(List Int))) (
   (idx t0 s5).bind λx7=>
   eaa (α:=Int) (
    eaa (α:=Bool) (
     if 0<=x7.Parent then
      some (decide (x7.Parent<s5))
     else
     some false) λj9=>
    if j9=true then
     (idx s4 x7.Parent).bind λx11=>
     some x11
    else
    some (-1)) λj12=>
   (idx s4 s5).bind λx13=>
   (put s4 s5 j12).bind λx14=>
   (t1 x7).bind λx15=>
   if x15=true then
    (idx x14 s5).bind λx17=>
    (put x14 s5 (s2.length:Int)).bind λx18=>
    (app 8 s2 ([s5])).bind λx19=>
    (app 8 s3 ([j12])).bind λx20=>
    some (x19,x20,x18)
   else
   some (s2,s3,x14)) λ(j21,j22,j23)=>
  some (Ex.go (j21,j22,j23,(da .i64 (s5+1))))
 else
 some (Ex.brk (s2,s3))
def ic(t0:List GRule) (t1:(GRule->Option Bool)):Option ((List Int)×(List Int)):=
 (GD 8 0 (t0.length:Int) (t0.length:Int)).bind λx1=>
 (fa (Hd t0 t1) (([]:List Int),([]:List Int),x1,0)).bind λy=>match y with
 |.inr _=>none
 |.inl (b28,b29)=>
 some (b28,b29)
def qe(t0:GDateRange) (t1:Int):Option Bool:=
 eaa (α:=Bool) (
  (pf t0).bind λx1=>
  if x1=true then
   if t0.From<=t1 then
    some (decide (t1<t0.To))
   else
   some false
  else
  some false) λj4=>
 some j4
def Ac(t0:GRule) (t1:Int) (t2:Int):Option Bool:=
 eaa (α:=Bool) (
  if t0.Def=t1 then
   (qe t0.Valid t2).bind λx2=>
   some x2
  else
  some false) λj3=>
 some j3
def ef(t0:GScope) (t1:Int) (t2:Int):Option (List Int):=
 (ic t0.Rules (λx900=>Ac x900 t1 t2)).bind λx1=>
 some x1.1
def Ie(t0:GScope) (x1:List Int):((List (List GNode))×Int)->Option (Ex ((List (List GNode))×Int) (List (List GNode)) Unit):=λ(s2,s3)=>
 if s3<(x1.length:Int)then
  eaa (α:=(List (List GNode))) (
   (idx x1 s3).bind λx5=>
   (idx t0.Rules x5).bind λx6=>
   if 0<(x6.Guard.length:Int)then
    (app 24 s2 ([x6.Guard])).bind λx8=>
    some x8
   else
   some s2) λj9=>
  some (Ex.go (j9,(da .i64 (s3+1))))
 else
 some (Ex.brk s2)
def oh(t0:GScope) (t1:Int) (t2:Int):Option (List (List GNode)):=
 (ef t0 t1 t2).bind λx1=>
 (fa (Ie t0 x1) (([]:List (List GNode)),0)).bind λy=>match y with
 |.inr _=>none
 |.inl b12=>
 some b12
def Md(t0:List ByteArray):Option (List ByteArray):=if t0.length<=1099511627776 then some t0 else none
def Ah(t0:List GEnum):((List GEnum)×Int)->Option (Ex ((List GEnum)×Int) (List GEnum) Unit):=λ(s1,s2)=>
 if s2<(t0.length:Int)then
  (idx t0 s2).bind λx4=>
  (Md x4.Members).bind λx5=>
  (app 40 s1 ([(GEnum.mk x4.Name x5)])).bind λx6=>
  some (Ex.go (x6,(da .i64 (s2+1))))
 else
 some (Ex.brk s1)
def il(t0:List GEnum):Option (List GEnum):=
 (fa (Ah t0) (([]:List GEnum),0)).bind λy=>match y with
 |.inr _=>none
 |.inl b9=>
 some b9
def jd(t0:List GRow):Option (List GRow):=if t0.length<=1099511627776 then some t0 else none
def vg(t0:List GTable):((List GTable)×Int)->Option (Ex ((List GTable)×Int) (List GTable) Unit):=λ(s1,s2)=>
 if s2<(t0.length:Int)then
  (idx t0 s2).bind λx4=>
  (jd x4.Rows).bind λx5=>
  (app 72 s1 ([(GTable.mk x4.Name x4.Key x4.Value x5)])).bind λx6=>
  some (Ex.go (x6,(da .i64 (s2+1))))
 else
 some (Ex.brk s1)
def Jj(t0:List GTable):Option (List GTable):=
 (fa (vg t0) (([]:List GTable),0)).bind λy=>match y with
 |.inr _=>none
 |.inl b9=>
 some b9
def Em(t0:GLaw) (t1:Int):Option GSignature:=
 eaa (α:=Bool) (
  if¬t1<0 then
   some (decide ((t0.Scopes.length:Int)<=t1))
  else
  some true) λj2=>
 if j2=true then
  some (GSignature.mk ([]) ([]) ([]) ([]) ([]) false)
 else
 (Lc t0 t1).bind λx4=>
 (il x4.Enums).bind λx5=>
 (Jj x4.Tables).bind λx6=>
 some (GSignature.mk x5 x6 x4.Inputs x4.Defs x4.MemberDefs x4.HasMembers)
def nf(t0:GNode):Option Bool:=
 eaa (α:=Bool) (
  if t0.Op=2 then
   some true
  else
  if t0.Op=3 then
   some true
  else
  if t0.Op=4 then
   some true
  else
  if t0.Op=5 then
   some true
  else
  some (t0.Op==6)) λj5=>
 if j5=true then
  some true
 else
 some false
def pe(t0:GNode):Option Bool:=
 eaa (α:=Bool) (
  if t0.Op=19 then
   some true
  else
  if t0.Op=20 then
   some true
  else
  if t0.Op=21 then
   some true
  else
  some (t0.Op==22)) λj4=>
 if j4=true then
  some true
 else
 some false
def sh(t0:List GNode):Option ((List Int)×Int):=
 (Ei t0).bind λx1=>
 some (x1.1,x1.2.2)
def Di(x1:((List Int)×Int)):((List Int)×Int×Int)->Option (Ex ((List Int)×Int×Int) (List Int) Unit):=λ(s9,s10,s11)=>
 if 0<=s11 then
  (idx s9 s11).bind λx13=>
  (put s9 s11 s10).bind λx14=>
  (idx x1.1 s10).bind λx15=>
  some (Ex.go (x14,(da .i64 (x15-1)),(da .i64 (s11-1))))
 else
 some (Ex.brk s9)
def Cm(t0:List GNode) (t1:Int):Option (List Int):=
 (sh t0).bind λx1=>
 eaa (α:=Bool) (
  if x1.2=0 then
   if¬t1<0 then
    some (decide ((t0.length:Int)<=t1))
   else
   some true
  else
  some true) λj4=>
 if j4=true then
  some ([])
 else
 (idx t0 t1).bind λx6=>
 (mg x6.Op).bind λx7=>
 (GD 8 0 x7 x7).bind λx8=>
 (fa (Di x1) (x8,(da .i64 (t1-1)),(da .i64 ((x8.length:Int)-1)))).bind λy=>match y with
 |.inr _=>none
 |.inl b19=>
 some b19
def Dc(t0:List GNode) (t1:Int):Option (Int×GNode×Bool):=
 (Cm t0 t1).bind λx1=>
 if¬(x1.length:Int)=2 then
  some (0,(GNode.mk 0 0),false)
 else
 (idx x1 0).bind λx3=>
 (idx t0 x3).bind λx4=>
 (idx x1 1).bind λx5=>
 (idx t0 x5).bind λx6=>
 eaa (α:=Bool) (
  if x4.Op=7 then
   (nf x6).bind λx8=>
   some x8
  else
  some false) λj9=>
 if j9=true then
  some (x4.N,x6,true)
 else
 eaa (α:=Bool) (
  if x6.Op=7 then
   (nf x4).bind λx12=>
   some x12
  else
  some false) λj13=>
 if j13=true then
  some (x6.N,x4,true)
 else
 some (0,(GNode.mk 0 0),false)
def Ej(t0:List GNode):Int->Option (Ex Int Unit Bool):=λs5=>
 if s5<(t0.length:Int)then
  eaa (α:=(Unit⊕(Ex Int Unit Bool))) (
   (idx t0 s5).bind λx7=>
   eaa (α:=Bool) (
    if x7.Op=1 then
     some true
    else
    if x7.Op=23 then
     some true
    else
    if x7.Op=24 then
     some true
    else
    if x7.Op=25 then
     some true
    else
    some (x7.Op==7)) λj12=>
   if j12=true then
    some (Sum.inl ())
   else
   (nf x7).bind λx14=>
   if x14=true then
    some (Sum.inl ())
   else
   (pe x7).bind λx16=>
   if x16=false then
    some (Sum.inr (Ex.ret false))
   else
   (Dc t0 s5).bind λx18=>
   if x18.2.2=false then
    some (Sum.inr (Ex.ret false))
   else
   some (Sum.inl ())) λz=>match z with
  |.inr v=>some v
  |.inl _=>
  some (Ex.go (da .i64 (s5+1)))
 else
 some (Ex.brk ())
def Ul(t0:List GNode) (t1:GSignature):Option Bool:=
 (yn t0 t1).bind λx1=>
 eaa (α:=Bool) (
  if x1.2.2=0 then
   some (!((x1.1.Kind==1)&&(x1.1.Enum==0)))
  else
  some true) λj3=>
 if j3=true then
  some false
 else
 (fa (Ej t0) 0).bind λy=>match y with
 |.inr v=>some v
 |.inl _=>
 some true
def bc(t0:List GNode) (t1:GNode):Int->Option (Ex Int Unit Int):=λs1=>
 if s1<(t0.length:Int)then
  (idx t0 s1).bind λx3=>
  if t1.Op=x3.Op/\t1.N=x3.N then
   some (Ex.ret s1)
  else
  some (Ex.go (da .i64 (s1+1)))
 else
 some (Ex.brk ())
def Ae(t0:List GNode) (t1:GNode):Option Int:=
 (fa (bc t0 t1) 0).bind λy=>match y with
 |.inr v=>some v
 |.inl _=>
 some (-1)
def Zb(t0:List GNode) (t1:GNode):Option Bool:=
 (Ae t0 t1).bind λx1=>
 some (decide (0<=x1))
def Je(t0:(List (List GNode))) (t1:Int):Int->Option (Ex Int Unit Bool):=λs1=>
 if s1<(t0.length:Int)then
  (idx t0 s1).bind λx3=>
  (Zb x3 (GNode.mk 7 t1)).bind λx4=>
  if x4=true then
   some (Ex.ret true)
  else
  some (Ex.go (da .i64 (s1+1)))
 else
 some (Ex.brk ())
def ph(t0:(List (List GNode))) (t1:Int):Option Bool:=
 (fa (Je t0 t1) 0).bind λy=>match y with
 |.inr v=>some v
 |.inl _=>
 some false
def Vc(x3:(Int×Int)):((List Int)×Int)->Option (Ex ((List Int)×Int) (List Int) Unit):=λ(s7,s8)=>
 if s8<=x3.2 then
  (app 8 s7 ([s8])).bind λx10=>
  some (Ex.go (x10,(da .i64 (s8+1))))
 else
 some (Ex.brk s7)
def Wc(t2:List Int) (x3:(Int×Int)):((List Int)×Int)->Option (Ex ((List Int)×Int) (List Int) Unit):=λ(s14,s15)=>
 if s15<(t2.length:Int)then
  eaa (α:=(List Int)) (
   (idx t2 s15).bind λx17=>
   eaa (α:=Bool) (
    if x3.1<=x17 then
     some (decide (x17<=x3.2))
    else
    some false) λj19=>
   if j19=true then
    (app 8 s14 ([x17])).bind λx21=>
    some x21
   else
   some s14) λj22=>
  some (Ex.go (j22,(da .i64 (s15+1))))
 else
 some (Ex.brk s14)
def Yd(t0:GType) (t1:List GEnum) (t2:List Int):Option (List Int):=
 (Hb t0 t1).bind λx1=>
 if x1=false then
  some ([])
 else
 (kd t0 t1).bind λx3=>
 eaa (α:=Bool) (
  if¬t0.Kind=1 then
   some (t0.Kind==6)
  else
  some true) λj5=>
 if j5=true then
  (fa (Vc x3) (([]:List Int),x3.1)).bind λy=>match y with
  |.inr _=>none
  |.inl b13=>
  some b13
 else
 (fa (Wc t2 x3) ([x3.1],0)).bind λy=>match y with
 |.inr _=>none
 |.inl b25=>
 (fb b25).bind λx26=>
 (Ma x26).bind λx27=>
 some x27
def bg(t1:Int) (x4:List GNode):((List Int)×Int)->Option (Ex ((List Int)×Int) (List Int) Unit):=λ(s7,s8)=>
 if s8<(x4.length:Int)then
  eaa (α:=(List Int)) (
   (idx x4 s8).bind λx10=>
   (pe x10).bind λx11=>
   if x11=false then
    some s7
   else
   (Dc x4 s8).bind λx13=>
   eaa (α:=Bool) (
    if x13.2.2=true then
     if x13.1=t1 then
      some (x13.2.1.Op==6)
     else
     some true
    else
    some true) λj16=>
   if j16=true then
    some s7
   else
   (app 8 s7 ([x13.2.1.N])).bind λx18=>
   if x13.2.1.N<9223372036854775807 then
    (app 8 x18 ([(da .i64 (x13.2.1.N+1))])).bind λx20=>
    some x20
   else
   some x18) λj21=>
  some (Ex.go (j21,(da .i64 (s8+1))))
 else
 some (Ex.brk s7)
def cg(t0:(List (List GNode))) (t1:Int):((List Int)×Int)->Option (Ex ((List Int)×Int) (List Int) Unit):=λ(s1,s2)=>
 if s2<(t0.length:Int)then
  eaa (α:=(List Int)) (
   (idx t0 s2).bind λx4=>
   (sh x4).bind λx5=>
   if¬x5.2=0 then
    some s1
   else
   (fa (bg t1 x4) (s1,0)).bind λy=>match y with
   |.inr _=>none
   |.inl b24=>
   some b24) λj25=>
  some (Ex.go (j25,(da .i64 (s2+1))))
 else
 some (Ex.brk s1)
def Dj(t0:(List (List GNode))) (t1:Int):Option (List Int):=
 (fa (cg t0 t1) (([]:List Int),0)).bind λy=>match y with
 |.inr _=>none
 |.inl b28=>
 (fb b28).bind λx29=>
 (Ma x29).bind λx30=>
 some x30
def Tk(t0:(List (List Int))):(Int×Int)->Option (Ex (Int×Int) Int Int):=λ(s1,s2)=>
 if s2<(t0.length:Int)then
  eaa (α:=(Int⊕(Ex (Int×Int) Int Int))) (
   (idx t0 s2).bind λx4=>
   if(x4.length:Int)=0 then
    some (Sum.inr (Ex.ret 0))
   else
   if s1<=4096 then
    some (Sum.inl (da .i64 (s1*(x4.length:Int))))
   else
   some (Sum.inl s1)) λz=>match z with
  |.inr v=>some v
  |.inl j7=>
  some (Ex.go (j7,(da .i64 (s2+1))))
 else
 some (Ex.brk s1)
def Rp(t0:(List (List Int))):Option Int:=
 (fa (Tk t0) (1,0)).bind λy=>match y with
 |.inr v=>some v
 |.inl b10=>
 some (min b10 4097)
def zi(x13:(List (List GNode))) (x14:GSignature):Int->Option (Ex Int Unit ((List (List Int))×Int)):=λs15=>
 if s15<(x13.length:Int)then
  (idx x13 s15).bind λx17=>
  (Ul x17 x14).bind λx18=>
  if x18=false then
   some (Ex.ret ([],17))
  else
  some (Ex.go (da .i64 (s15+1)))
 else
 some (Ex.brk ())
def xi(t0:GLaw) (x12:GScope) (x13:(List (List GNode))):((List (List Int))×Int)->Option (Ex ((List (List Int))×Int) (List (List Int)) Unit):=λ(s21,s22)=>
 if s22<(x12.Inputs.length:Int)then
  (idx x12.Inputs s22).bind λx24=>
  eaa (α:=(List Int)) (
   (ph x13 s22).bind λx25=>
   if x25=true then
    (Dj x13 s22).bind λx27=>
    (Yd x24.Type_ t0.Enums x27).bind λx28=>
    some x28
   else
   some ([0])) λj29=>
  (app 24 s21 ([j29])).bind λx30=>
  some (Ex.go (x30,(da .i64 (s22+1))))
 else
 some (Ex.brk s21)
def fk(t0:GLaw) (t1:Int) (t2:Int) (t3:Int):Option ((List (List Int))×Int):=
 (Xl t0).bind λx1=>
 if¬x1.Code=0 then
  some ([],1)
 else
 eaa (α:=Bool) (
  if¬t1<0 then
   if¬(t0.Scopes.length:Int)<=t1 then
    if¬t2<0 then
     (idx t0.Scopes t1).bind λx6=>
     some (decide ((x6.Defs.length:Int)<=t2))
    else
    some true
   else
   some true
  else
  some true) λj7=>
 if j7=true then
  some ([],6)
 else
 eaa (α:=Bool) (
  if¬t3<0 then
   some (decide (109572<t3))
  else
  some true) λj10=>
 if j10=true then
  some ([],3)
 else
 (idx t0.Scopes t1).bind λx12=>
 (oh x12 t2 t3).bind λx13=>
 (Em t0 t1).bind λx14=>
 (fa (zi x13 x14) 0).bind λy=>match y with
 |.inr v=>some v
 |.inl _=>
 (fa (xi t0 x12 x13) (([]:List (List Int)),0)).bind λy=>match y with
 |.inr _=>none
 |.inl b33=>
 (Rp b33).bind λx34=>
 if 4096<x34 then
  some ([],4)
 else
 some (b33,0)
def Fo(t0:List Int) (t1:List Int):Int->Option (Ex Int Unit Bool):=λs2=>
 eaa (α:=Bool) (
  if s2<(t0.length:Int)then
   some (decide (s2<(t1.length:Int)))
  else
  some false) λj4=>
 if j4=true then
  (idx t0 s2).bind λx6=>
  (idx t1 s2).bind λx7=>
  if¬x6=x7 then
   some (Ex.ret false)
  else
  some (Ex.go (da .i64 (s2+1)))
 else
 some (Ex.brk ())
def mr(t0:List Int) (t1:List Int):Option Bool:=
 if¬(t0.length:Int)=(t1.length:Int)then
  some false
 else
 (fa (Fo t0 t1) 0).bind λy=>match y with
 |.inr v=>some v
 |.inl _=>
 some true
def Pd(t0:GRule) (t1:Int) (t2:Int):Option Bool:=
 eaa (α:=Bool) (
  if t0.Def=t1 then
   (qe t0.Valid t2).bind λx2=>
   some x2
  else
  some false) λj3=>
 some j3
def xf(t0:GScope) (x1:((List Int)×(List Int))):((List Int)×Int)->Option (Ex ((List Int)×Int) (List Int) Unit):=λ(s2,s3)=>
 if s3<(x1.1.length:Int)then
  (idx x1.1 s3).bind λx5=>
  (idx t0.Rules x5).bind λx6=>
  (app 8 s2 ([x6.Priority])).bind λx7=>
  some (Ex.go (x7,(da .i64 (s3+1))))
 else
 some (Ex.brk s2)
def Uf(t0:GScope) (t1:Int) (t2:Int):Option ((List Int)×(List Int)×(List Int)):=
 (ic t0.Rules (λx900=>Pd x900 t1 t2)).bind λx1=>
 (fa (xf t0 x1) (([]:List Int),0)).bind λy=>match y with
 |.inr _=>none
 |.inl b10=>
 some (x1.1,x1.2,b10)
def lg(t0:GEval_evaluator):((List Int)×Int×Int)->Option (Ex ((List Int)×Int×Int) (List Int) Unit):=λ(s4,s5,s6)=>
 if 0<=s6 then
  (idx s4 s6).bind λx8=>
  (put s4 s6 s5).bind λx9=>
  (idx t0.starts s5).bind λx10=>
  some (Ex.go (x9,(da .i64 (x10-1)),(da .i64 (s6-1))))
 else
 some (Ex.brk s4)
def sd(t0:GEval_evaluator) (t1:Int):Option (List Int):=
 (idx t0.nodes t1).bind λx1=>
 (mg x1.Op).bind λx2=>
 (GD 8 0 x2 x2).bind λx3=>
 (fa (lg t0) (x3,(da .i64 (t1-1)),(da .i64 ((x3.length:Int)-1)))).bind λy=>match y with
 |.inr _=>none
 |.inl b14=>
 some b14
def Hj(t0:GNode):Option Bool:=
 eaa (α:=Bool) (
  (mg t0.Op).bind λx1=>
  if¬x1<0 then
   if¬t0.N=0 then
    (Wk t0.Op).bind λx4=>
    some (!x4)
   else
   some false
  else
  some true) λj5=>
 if j5=true then
  some false
 else
 eaa (α:=Bool) (
  if t0.Op=14 then
   some true
  else
  if t0.Op=15 then
   some true
  else
  some (t0.Op==16)) λj9=>
 if j9=true then
  eaa (α:=Bool) (
   if 0<=t0.N then
    some (decide (t0.N<=5))
   else
   some false) λj12=>
  some j12
 else
 if t0.Op=34 then
  eaa (α:=Bool) (
   if 0<=t0.N then
    some (decide ((Qaa t0.N 8)<=5))
   else
   some false) λj15=>
  some j15
 else
 if t0.Op=6 then
  some (decide (0<=t0.N))
 else
 some true
def Wp(t0:GNode) (t1:GEnv):Option Bool:=
 if t0.Op=7 then
  eaa (α:=Bool) (
   if 0<=t0.N then
    some (decide (t0.N<(t1.Inputs.length:Int)))
   else
   some false) λj3=>
  some j3
 else
 if t0.Op=8 then
  eaa (α:=Bool) (
   if 0<=t0.N then
    if t0.N<(t1.Defs.length:Int)then
     (idx t1.Defs t0.N).bind λx7=>
     some (x7.Kind !=0)
    else
    some false
   else
   some false) λj8=>
  some j8
 else
 if t0.Op=33 then
  eaa (α:=Bool) (
   if 0<=t0.N then
    some (decide (t0.N<(t1.Tables.length:Int)))
   else
   some false) λj11=>
  some j11
 else
 if t0.Op=34 then
  some (decide ((da .i64 (Faa t0.N 8))<(t1.Tables.length:Int)))
 else
 eaa (α:=Bool) (
  if t0.Op=36 then
   some true
  else
  if t0.Op=37 then
   some true
  else
  if t0.Op=38 then
   some true
  else
  some (t0.Op==39)) λj16=>
 if j16=true then
  eaa (α:=Bool) (
   if 0<=t0.N then
    some (decide (t0.N<(t1.MemberTypes.length:Int)))
   else
   some false) λj19=>
  some j19
 else
 some true
def Kb(t0:GValue):Option Bool:=
 eaa (α:=Bool) (
  if¬t0.Kind=6 then
   some (t0.Enum !=0)
  else
  some false) λj2=>
 if j2=true then
  some false
 else
 if t0.Kind=1 then
  eaa (α:=Bool) (
   if¬t0.N=0 then
    some (t0.N==1)
   else
   some true) λj6=>
  some j6
 else
 if t0.Kind=2 then
  eaa (α:=Bool) (
   if(-1000000000000)<=t0.N then
    some (decide (t0.N<=1000000000000))
   else
   some false) λj9=>
  some j9
 else
 if t0.Kind=3 then
  eaa (α:=Bool) (
   if(-1000000000000000)<=t0.N then
    some (decide (t0.N<=1000000000000000))
   else
   some false) λj12=>
  some j12
 else
 if t0.Kind=4 then
  eaa (α:=Bool) (
   if(-1000000000)<=t0.N then
    some (decide (t0.N<=1000000000))
   else
   some false) λj15=>
  some j15
 else
 if t0.Kind=5 then
  eaa (α:=Bool) (
   if 0<=t0.N then
    some (decide (t0.N<=109572))
   else
   some false) λj18=>
  some j18
 else
 if t0.Kind=6 then
  eaa (α:=Bool) (
   if 0<=t0.Enum then
    if t0.Enum<8 then
     if 0<=t0.N then
      some (decide (t0.N<16))
     else
     some false
    else
    some false
   else
   some false) λj23=>
  some j23
 else
 some false
def Qb(t0:List GValue):Int->Option (Ex Int Unit Bool):=λs1=>
 if s1<(t0.length:Int)then
  (idx t0 s1).bind λx3=>
  (Kb x3).bind λx4=>
  if x4=false then
   some (Ex.ret false)
  else
  some (Ex.go (da .i64 (s1+1)))
 else
 some (Ex.brk ())
def Jd(t0:List GValue):Option Bool:=
 (fa (Qb t0) 0).bind λy=>match y with
 |.inr v=>some v
 |.inl _=>
 some true
def Qu(t0:GValue) (t1:GType):Option Bool:=
 eaa (α:=Bool) (
  (Kb t0).bind λx1=>
  if x1=true then
   if t0.Kind=t1.Kind then
    some (t0.Enum==t1.Enum)
   else
   some false
  else
  some false) λj4=>
 some j4
def Of(t0:Int):Option Bool:=
 eaa (α:=Bool) (
  if¬t0=2 then
   if¬t0=3 then
    some (t0==4)
   else
   some true
  else
  some true) λj3=>
 some j3
def cn(t0:Int) (t1:GType):Option Bool:=
 if¬t1.Enum=0 then
  some false
 else
 if t0=36 then
  eaa (α:=Bool) (
   if¬t1.Kind=2 then
    some (t1.Kind==3)
   else
   some true) λj4=>
  some j4
 else
 if t0=39 then
  eaa (α:=Bool) (
   (Of t1.Kind).bind λx6=>
   if x6=false then
    some (t1.Kind==5)
   else
   some true) λj8=>
  some j8
 else
 some (t1.Kind==1)
def mc(t0:Int) (t1:Int):Option Bool:=
 if t0=10 then
  (Of t1).bind λx2=>
  some x2
 else
 if t0=25 then
  some (t1==1)
 else
 some (t1==5)
def Pf(t0:GValue) (t1:GValue):Option Bool:=
 eaa (α:=Bool) (
  if t0.Kind=t1.Kind then
   some (t0.Enum==t1.Enum)
  else
  some false) λj2=>
 some j2
def Sb(t0:Int) (t1:GValue) (t2:GValue):Option Bool:=
 eaa (α:=Bool) (
  if t0=11 then
   some true
  else
  some (t0==12)) λj2=>
 if j2=true then
  eaa (α:=Bool) (
   (Pf t1 t2).bind λx4=>
   if x4=true then
    (Of t1.Kind).bind λx6=>
    some x6
   else
   some false) λj7=>
  some j7
 else
 if t0=13 then
  eaa (α:=Bool) (
   if t2.Kind=2 then
    if¬t1.Kind=2 then
     some (t1.Kind==3)
    else
    some true
   else
   some false) λj11=>
  some j11
 else
 if t0=14 then
  eaa (α:=Bool) (
   if t2.Kind=4 then
    if¬t1.Kind=3 then
     some (t1.Kind==4)
    else
    some true
   else
   some false) λj15=>
  some j15
 else
 if t0=15 then
  if t2.Kind=2 then
   eaa (α:=Bool) (
    if¬t1.Kind=2 then
     some (t1.Kind==3)
    else
    some true) λj19=>
   some j19
  else
  eaa (α:=Bool) (
   if t1.Kind=3 then
    some (t2.Kind==3)
   else
   some false) λj21=>
  some j21
 else
 if t0=16 then
  eaa (α:=Bool) (
   if t1.Kind=3 then
    some (t2.Kind==3)
   else
   some false) λj24=>
  some j24
 else
 eaa (α:=Bool) (
  if t0=17 then
   some true
  else
  if t0=18 then
   some true
  else
  if t0=21 then
   some true
  else
  some (t0==22)) λj28=>
 if j28=true then
  eaa (α:=Bool) (
   (Pf t1 t2).bind λx30=>
   if x30=true then
    (Of t1.Kind).bind λx32=>
    if x32=false then
     some (t1.Kind==5)
    else
    some true
   else
   some false) λj34=>
  some j34
 else
 eaa (α:=Bool) (
  if t0=19 then
   some true
  else
  some (t0==20)) λj36=>
 if j36=true then
  (Pf t1 t2).bind λx38=>
  some x38
 else
 eaa (α:=Bool) (
  if t0=23 then
   some true
  else
  some (t0==24)) λj40=>
 if j40=true then
  eaa (α:=Bool) (
   if t1.Kind=1 then
    some (t2.Kind==1)
   else
   some false) λj43=>
  some j43
 else
 eaa (α:=Bool) (
  if t0=27 then
   some true
  else
  some (t0==28)) λj45=>
 if j45=true then
  eaa (α:=Bool) (
   if t1.Kind=5 then
    some (t2.Kind==2)
   else
   some false) λj48=>
  some j48
 else
 eaa (α:=Bool) (
  if t1.Kind=5 then
   some (t2.Kind==5)
  else
  some false) λj50=>
 some j50
def sa(t0:GNode) (t1:List GValue) (t2:GEnv):Option Bool:=
 if t0.Op=7 then
  (idx t2.Inputs t0.N).bind λx2=>
  (Kb x2).bind λx3=>
  some x3
 else
 if t0.Op=8 then
  (idx t2.Defs t0.N).bind λx5=>
  (Kb x5).bind λx6=>
  some x6
 else
 if t0.Op=33 then
  (idx t2.Tables t0.N).bind λx8=>
  eaa (α:=Bool) (
   (idx t1 0).bind λx9=>
   (Qu x9 x8.Key).bind λx10=>
   if x10=true then
    if 1<=x8.Value.Kind then
     some (decide (x8.Value.Kind<=6))
    else
    some false
   else
   some false) λj13=>
  some j13
 else
 if t0.Op=34 then
  (idx t2.Tables (da .i64 (Faa t0.N 8))).bind λx15=>
  eaa (α:=Bool) (
   (idx t1 0).bind λx16=>
   if x16.Kind=3 then
    if x15.Key.Kind=3/\x15.Key.Enum=0 then
     some ((x15.Value.Kind==4)&&(x15.Value.Enum==0))
    else
    some false
   else
   some false) λj19=>
  some j19
 else
 eaa (α:=Bool) (
  if t0.Op=36 then
   some true
  else
  if t0.Op=37 then
   some true
  else
  if t0.Op=38 then
   some true
  else
  some (t0.Op==39)) λj23=>
 if j23=true then
  (idx t2.MemberTypes t0.N).bind λx25=>
  (cn t0.Op x25).bind λx26=>
  some x26
 else
 if(t1.length:Int)=1 then
  (idx t1 0).bind λx28=>
  (mc t0.Op x28.Kind).bind λx29=>
  some x29
 else
 if(t1.length:Int)=2 then
  (idx t1 0).bind λx31=>
  (idx t1 1).bind λx32=>
  (Sb t0.Op x31 x32).bind λx33=>
  some x33
 else
 if(t1.length:Int)=3 then
  eaa (α:=Bool) (
   (idx t1 0).bind λx35=>
   if x35.Kind=1 then
    (idx t1 1).bind λx37=>
    (idx t1 2).bind λx38=>
    (Pf x37 x38).bind λx39=>
    some x39
   else
   some false) λj40=>
  some j40
 else
 some true
def Xo(t0:GNode) (t1:GEnv):Option (GValue×Int):=none
def av(t0:GTable) (t1:Int) (t2:Int):Option (Int×Bool):=none
def Cq(t0 t1:Int):Option (Int×Int):=if 0<=t0/\t0<18446744073709551616/\0<=t1/\t1<18446744073709551616 then some (t0*t1 / 18446744073709551616,t0*t1 % 18446744073709551616)else none
def Bq(t0 t1 t2:Int):Option (Int×Int):=if 0<=t0/\t0<t2/\0<=t1/\t1<18446744073709551616/\t2<18446744073709551616 then some ((t0*18446744073709551616+t1) / t2,(t0*18446744073709551616+t1) % t2)else none
def Gs(t0:GTable) (t1:Int) (t2:Int) (t3:Int):Option (Int×Int):=none
def rf(t0:Bool):Option GValue:=
 if t0=true then
  some (GValue.mk 1 0 1)
 else
 some (GValue.mk 1 0 0)
def Sx(t0:Int):Option (Int×Int×Int):=none
def Yo(t0:Int) (t1:GValue):Option GValue:=
 if t0=10 then
  some (GValue.mk t1.Kind 0 (da .i64 (-t1.N)))
 else
 if t0=25 then
  (rf (t1.N==0)).bind λx3=>
  some x3
 else
 (Sx t1.N).bind λx4=>
 if t0=31 then
  some (GValue.mk 2 0 x4.1)
 else
 some (GValue.mk 2 0 x4.2.1)
def Sv(t0:GNode) (t1:GValue) (t2:GValue):Option (GValue×Int):=none
def Ar(t0:Int) (t1:Int):Option (Int×Int):=none
def Mn(t0:Int) (t1:Int):Option Int:=none
def qd(t0:GNode) (t1:GValue) (t2:GValue):Option (GValue×Int):=
 eaa (α:=Bool) (
  if t0.Op=11 then
   some true
  else
  some (t0.Op==27)) λj2=>
 if j2=true then
  some ((GValue.mk t1.Kind 0 (da .i64 (t1.N+t2.N))),0)
 else
 if t0.Op=12 then
  some ((GValue.mk t1.Kind 0 (da .i64 (t1.N-t2.N))),0)
 else
 eaa (α:=Bool) (
  if t0.Op=13 then
   some true
  else
  if t0.Op=14 then
   some true
  else
  if t0.Op=15 then
   some true
  else
  some (t0.Op==16)) λj8=>
 if j8=true then
  (Sv t0 t1 t2).bind λx10=>
  some (x10.1,x10.2)
 else
 eaa (α:=Bool) (
  if t0.Op=17 then
   some true
  else
  some (t0.Op==18)) λj12=>
 if j12=true then
  if(t0.Op==17)=(decide (t2.N<t1.N))then
   some (t2,0)
  else
  some (t1,0)
 else
 if t0.Op=19 then
  (rf (t1.N==t2.N)).bind λx16=>
  some (x16,0)
 else
 if t0.Op=20 then
  (rf (t1.N !=t2.N)).bind λx18=>
  some (x18,0)
 else
 if t0.Op=21 then
  (rf (decide (t1.N<t2.N))).bind λx20=>
  some (x20,0)
 else
 if t0.Op=22 then
  (rf (decide (t1.N<=t2.N))).bind λx22=>
  some (x22,0)
 else
 if t0.Op=23 then
  eaa (α:=(Int×Int×Int)) (
   if t1.N=1 then
    (rf (t2.N==1)).bind λx25=>
    some (x25.Kind,x25.Enum,x25.N)
   else
   (rf false).bind λx26=>
   some (x26.Kind,x26.Enum,x26.N)) λ(j27,j28,j29)=>
  some ((GValue.mk j27 j28 j29),0)
 else
 if t0.Op=24 then
  eaa (α:=(Int×Int×Int)) (
   if¬t1.N=1 then
    (rf (t2.N==1)).bind λx32=>
    some (x32.Kind,x32.Enum,x32.N)
   else
   (rf true).bind λx33=>
   some (x33.Kind,x33.Enum,x33.N)) λ(j34,j35,j36)=>
  some ((GValue.mk j34 j35 j36),0)
 else
 if t0.Op=28 then
  (Ar t1.N t2.N).bind λx38=>
  some ((GValue.mk 5 0 x38.1),x38.2)
 else
 if t0.Op=29 then
  some ((GValue.mk 2 0 (da .i64 (t2.N-t1.N))),0)
 else
 (Mn t1.N t2.N).bind λx40=>
 some ((GValue.mk 2 0 x40),0)
def Ga(t0:GNode) (t1:List GValue) (t2:GEnv):Option (GValue×Int):=
 eaa (α:=Bool) (
  if t0.Op=1 then
   some true
  else
  if t0.Op=2 then
   some true
  else
  if t0.Op=3 then
   some true
  else
  if t0.Op=4 then
   some true
  else
  some (t0.Op==5)) λj5=>
 if j5=true then
  some ((GValue.mk t0.Op 0 t0.N),0)
 else
 if t0.Op=6 then
  some ((GValue.mk 6 (da .i64 (Faa t0.N 16)) (Qaa t0.N 16)),0)
 else
 if t0.Op=7 then
  (idx t2.Inputs t0.N).bind λx9=>
  some (x9,0)
 else
 if t0.Op=8 then
  (idx t2.Defs t0.N).bind λx11=>
  some (x11,0)
 else
 if t0.Op=9 then
  some ((GValue.mk 5 0 t2.Date),0)
 else
 if t0.Op=35 then
  some ((GValue.mk 2 0 (t2.Members.length:Int)),0)
 else
 eaa (α:=Bool) (
  if t0.Op=36 then
   some true
  else
  if t0.Op=37 then
   some true
  else
  if t0.Op=38 then
   some true
  else
  some (t0.Op==39)) λj17=>
 if j17=true then
  (Xo t0 t2).bind λx19=>
  some (x19.1,x19.2)
 else
 if t0.Op=33 then
  (idx t2.Tables t0.N).bind λx21=>
  (idx t1 0).bind λx22=>
  (av x21 t2.Date x22.N).bind λx23=>
  if x23.2=false then
   some ((GValue.mk 0 0 0),6)
  else
  (idx x21.Rows x23.1).bind λx25=>
  some ((GValue.mk x21.Value.Kind x21.Value.Enum x25.N),0)
 else
 if t0.Op=34 then
  (idx t2.Tables (da .i64 (Faa t0.N 8))).bind λx27=>
  (idx t1 0).bind λx28=>
  (Gs x27 t2.Date x28.N (Qaa t0.N 8)).bind λx29=>
  some ((GValue.mk 3 0 x29.1),x29.2)
 else
 if(t1.length:Int)=1 then
  (idx t1 0).bind λx31=>
  (Yo t0.Op x31).bind λx32=>
  some (x32,0)
 else
 if(t1.length:Int)=2 then
  (idx t1 0).bind λx34=>
  (idx t1 1).bind λx35=>
  (qd t0 x34 x35).bind λx36=>
  some (x36.1,x36.2)
 else
 (idx t1 0).bind λx37=>
 if x37.N=1 then
  (idx t1 1).bind λx39=>
  some (x39,0)
 else
 (idx t1 2).bind λx40=>
 some (x40,0)
def Wa(t0:GNode) (t1:List GValue) (t2:GEnv):Option (GValue×Int):=
 eaa (α:=Bool) (
  (Hj t0).bind λx1=>
  if x1=true then
   (mg t0.Op).bind λx3=>
   some ((t1.length:Int) !=x3)
  else
  some true) λj4=>
 if j4=true then
  some ((GValue.mk 0 0 0),2)
 else
 (Wp t0 t2).bind λx6=>
 if x6=false then
  some ((GValue.mk 0 0 0),6)
 else
 eaa (α:=Bool) (
  (Jd t1).bind λx8=>
  if x8=true then
   (sa t0 t1 t2).bind λx10=>
   some (!x10)
  else
  some true) λj11=>
 if j11=true then
  some ((GValue.mk 0 0 0),8)
 else
 (Ga t0 t1 t2).bind λx13=>
 if¬x13.2=0 then
  some ((GValue.mk 0 0 0),x13.2)
 else
 (Kb x13.1).bind λx15=>
 if x15=false then
  some ((GValue.mk 0 0 0),3)
 else
 some (x13.1,0)
def Va(t0:GEval_evaluator) (x2:List Int) (R341:(GEval_evaluator->Int->Option (GValue×Int))):((List GValue)×Int)->Option (Ex ((List GValue)×Int) (List GValue) (GValue×Int)):=λ(s9,s10)=>
 if s10<(x2.length:Int)then
  (idx x2 s10).bind λx12=>
  (R341 t0 x12).bind λx13=>
  if¬x13.2=0 then
   some (Ex.ret ((GValue.mk 0 0 0),x13.2))
  else
  (idx s9 s10).bind λx15=>
  (put s9 s10 x13.1).bind λx16=>
  some (Ex.go (x16,(da .i64 (s10+1))))
 else
 some (Ex.brk s9)
def Ra(R341:(GEval_evaluator->Int->Option (GValue×Int))) (R455:(GEval_evaluator->GNode->(List Int)->Option (GValue×Int))) (R512:(GEval_evaluator->Int->Option (GValue×Int))) (t0:GEval_evaluator) (t1:Int):Option (GValue×Int):=
 (idx t0.nodes t1).bind λx1=>
 (sd t0 t1).bind λx2=>
 eaa (α:=Bool) (
  if x1.Op=23 then
   some true
  else
  if x1.Op=24 then
   some true
  else
  some (x1.Op==26)) λj5=>
 if j5=true then
  (R455 t0 x1 x2).bind λx7=>
  some (x7.1,x7.2)
 else
 (GD 24 (GValue.mk 0 0 0) (x2.length:Int) (x2.length:Int)).bind λx8=>
 (fa (Va t0 x2 R341) (x8,0)).bind λy=>match y with
 |.inr v=>some v
 |.inl b19=>
 (Wa x1 b19 t0.env).bind λx20=>
 some (x20.1,x20.2)
def jc(R341:(GEval_evaluator->Int->Option (GValue×Int))) (R455:(GEval_evaluator->GNode->(List Int)->Option (GValue×Int))) (R512:(GEval_evaluator->Int->Option (GValue×Int))) (t0:GEval_evaluator) (t1:GNode) (t2:List Int):Option (GValue×Int):=
 if¬t1.N=0 then
  some ((GValue.mk 0 0 0),2)
 else
 (idx t2 0).bind λx2=>
 (R512 t0 x2).bind λx3=>
 if¬x3.2=0 then
  some ((GValue.mk 0 0 0),x3.2)
 else
 eaa (α:=Bool) (
  if t1.Op=26 then
   some (x3.1.N==1)
  else
  some false) λj6=>
 if j6=true then
  (idx t2 1).bind λx8=>
  (R341 t0 x8).bind λx9=>
  some (x9.1,x9.2)
 else
 if t1.Op=26 then
  (idx t2 2).bind λx11=>
  (R341 t0 x11).bind λx12=>
  some (x12.1,x12.2)
 else
 if(t1.Op==23)=(x3.1.N==0)then
  some (x3.1,0)
 else
 (idx t2 1).bind λx14=>
 (R512 t0 x14).bind λx15=>
 some (x15.1,x15.2)
def xb(R341:(GEval_evaluator->Int->Option (GValue×Int))) (R455:(GEval_evaluator->GNode->(List Int)->Option (GValue×Int))) (R512:(GEval_evaluator->Int->Option (GValue×Int))) (t0:GEval_evaluator) (t1:Int):Option (GValue×Int):=
 (R341 t0 t1).bind λx1=>
 if¬x1.2=0 then
  some ((GValue.mk 0 0 0),x1.2)
 else
 eaa (α:=Bool) (
  if x1.1.Kind=1 then
   (Kb x1.1).bind λx4=>
   some (!x4)
  else
  some true) λj5=>
 if j5=true then
  some ((GValue.mk 0 0 0),8)
 else
 some (x1.1,0)
def ca:Nat->(GEval_evaluator->Int->Option (GValue×Int))×(GEval_evaluator->GNode->(List Int)->Option (GValue×Int))×(GEval_evaluator->Int->Option (GValue×Int))
 |0=>(λ_ _=>none,λ_ _ _=>none,λ_ _=>none)
 |n+1=>(Ra (ca n).1 (ca n).2.1 (ca n).2.2,jc (ca n).1 (ca n).2.1 (ca n).2.2,xb (ca n).1 (ca n).2.1 (ca n).2.2)
def Af(t0:GEval_evaluator) (t1:Int):Option (GValue×Int):=(ca vd).1 t0 t1
def Oq(t0:GEval_evaluator) (t1:GNode) (t2:List Int):Option (GValue×Int):=(ca vd).2.1 t0 t1 t2
def Tn(t0:GEval_evaluator) (t1:Int):Option (GValue×Int):=(ca vd).2.2 t0 t1
def cc(t0:List GNode) (t1:GEnv):Option (GValue×Int):=
 (sh t0).bind λx1=>
 if¬x1.2=0 then
  some ((GValue.mk 0 0 0),x1.2)
 else
 (Af (GEval_evaluator.mk t0 x1.1 t1) (da .i64 ((t0.length:Int)-1))).bind λx3=>
 some (x3.1,x3.2)
def Xe(t0:List Int) (t1:List Int):Int->Option (Ex Int Unit Int):=λs3=>
 if s3<(t0.length:Int)then
  (idx t0 s3).bind λx5=>
  eaa (α:=Bool) (
   if¬x5<(-1)then
    some (decide (s3<=x5))
   else
   some true) λj7=>
  if j7=true then
   some (Ex.ret 9)
  else
  eaa (α:=Bool) (
   (idx t1 s3).bind λx9=>
   if¬x9<0 then
    some (decide (9<x9))
   else
   some true) λj11=>
  if j11=true then
   some (Ex.ret 3)
  else
  some (Ex.go (da .i64 (s3+1)))
 else
 some (Ex.brk ())
def Th(t0:List Int) (t1:List Int):Option Int:=
 if¬(t0.length:Int)=(t1.length:Int)then
  some 2
 else
 if 8<(t0.length:Int)then
  some 4
 else
 (fa (Xe t0 t1) 0).bind λy=>match y with
 |.inr v=>some v
 |.inl _=>
 some 0
def We(t0:List Int) (t1:Int):((List Int)×Int)->Option (Ex ((List Int)×Int) (List Int) Unit):=λ(s1,s2)=>
 if s2<(t0.length:Int)then
  eaa (α:=(List Int)) (
   (idx t0 s2).bind λx4=>
   if x4=t1 then
    (app 8 s1 ([s2])).bind λx6=>
    some x6
   else
   some s1) λj7=>
  some (Ex.go (j7,(da .i64 (s2+1))))
 else
 some (Ex.brk s1)
def Rh(t0:List Int) (t1:Int):Option (List Int):=
 (fa (We t0 t1) (([]:List Int),0)).bind λy=>match y with
 |.inr _=>none
 |.inl b10=>
 some b10
def Tg(t0:GRuletree_tree) (x1:List Int):((List Int)×Int)->Option (Ex ((List Int)×Int) (List Int) Unit):=λ(s2,s3)=>
 if s3<(x1.length:Int)then
  eaa (α:=(List Int)) (
   (idx x1 s3).bind λx5=>
   (idx t0.outcome x5).bind λx6=>
   if x6=(-1)then
    some s2
   else
   eaa (α:=(List Int)) (
    eaa (α:=Bool) (
     if 0<(s2.length:Int)then
      (idx t0.priority x5).bind λx9=>
      (idx s2 0).bind λx10=>
      (idx t0.priority x10).bind λx11=>
      some (decide (x11<x9))
     else
     some false) λj12=>
    if j12=true then
     (Fs s2 0).bind λx14=>
     some x14
    else
    some s2) λj15=>
   eaa (α:=Bool) (
    if¬(j15.length:Int)=0 then
     (idx t0.priority x5).bind λx17=>
     (idx j15 0).bind λx18=>
     (idx t0.priority x18).bind λx19=>
     some (x17==x19)
    else
    some true) λj20=>
   if j20=true then
    (app 8 j15 ([x5])).bind λx22=>
    some x22
   else
   some j15) λj23=>
  some (Ex.go (j23,(da .i64 (s3+1))))
 else
 some (Ex.brk s2)
def xj(t0:GRuletree_tree) (t1:Int):Option (List Int):=
 (Rh t0.parent t1).bind λx1=>
 (fa (Tg t0 x1) (([]:List Int),0)).bind λy=>match y with
 |.inr _=>none
 |.inl b26=>
 some b26
def yb(t0:GRuletree_tree) (t1:Int):Option Int:=
 (xj t0 t1).bind λx1=>
 if(x1.length:Int)=0 then
  some (-1)
 else
 if(x1.length:Int)=1 then
  (idx x1 0).bind λx4=>
  (idx t0.outcome x4).bind λx5=>
  some x5
 else
 some (-2)
def Ye(t0:List Int) (t1:List Int) (t2:List Bool):((List Int)×Int)->Option (Ex ((List Int)×Int) (List Int) Unit):=λ(s2,s3)=>
 if 0<=s3 then
  eaa (α:=(List Int)) (
   (yb (GRuletree_tree.mk t0 t1 s2) s3).bind λx5=>
   (idx s2 s3).bind λx6=>
   (put s2 s3 x5).bind λx7=>
   eaa (α:=Bool) (
    (idx x7 s3).bind λx8=>
    if x8=(-1)then
     (idx t2 s3).bind λx10=>
     some x10
    else
    some false) λj11=>
   if j11=true then
    (idx x7 s3).bind λx13=>
    (put x7 s3 s3).bind λx14=>
    some x14
   else
   some x7) λj15=>
  some (Ex.go (j15,(da .i64 (s3-1))))
 else
 some (Ex.brk s2)
def Uh(t0:List Int) (t1:List Int) (t2:List Bool):Option (List Int):=
 (GD 8 0 (t0.length:Int) (t0.length:Int)).bind λx1=>
 (fa (Ye t0 t1 t2) (x1,(da .i64 ((t0.length:Int)-1)))).bind λy=>match y with
 |.inr _=>none
 |.inl b18=>
 some b18
def Zj(t0:List Int) (t1:List Int) (t2:List Bool):Option Int:=
 eaa (α:=Bool) (
  (Th t0 t1).bind λx1=>
  if x1=0 then
   some ((t2.length:Int) !=(t0.length:Int))
  else
  some true) λj3=>
 if j3=true then
  some (-1)
 else
 (Uh t0 t1 t2).bind λx5=>
 (yb (GRuletree_tree.mk t0 t1 x5) (-1)).bind λx6=>
 some x6
def Bw(t0:List GValue) (t1:List GValue):Int->Option (Ex Int Unit Bool):=λs2=>
 eaa (α:=Bool) (
  if s2<(t0.length:Int)then
   some (decide (s2<(t1.length:Int)))
  else
  some false) λj4=>
 if j4=true then
  (idx t0 s2).bind λx6=>
  (idx t1 s2).bind λx7=>
  if¬(x6.Kind=x7.Kind/\x6.Enum=x7.Enum/\x6.N=x7.N)then
   some (Ex.ret false)
  else
  some (Ex.go (da .i64 (s2+1)))
 else
 some (Ex.brk ())
def tt(t0:List GValue) (t1:List GValue):Option Bool:=
 if¬(t0.length:Int)=(t1.length:Int)then
  some false
 else
 (fa (Bw t0 t1) 0).bind λy=>match y with
 |.inr v=>some v
 |.inl _=>
 some true
def Ji(k:Int) (rs:List GRule):GLaw:=GLaw.mk [] [] [GScope.mk (iaa #[104,111,117,115,101]) (-1) [GField.mk (iaa #[97]) (GType.mk k 0)] [GField.mk (iaa #[100]) (GType.mk 3 0)] rs]
def yv(n:ByteArray) (p:Int) (g:List GNode) (v:Int):GRule:=GRule.mk n 0 p 0 (GDateRange.mk 0 109573) g [GNode.mk 3 v] (iaa #[])
def Xx(t0:List GNode):Option GLaw:=some (Ji 2 [yv (iaa #[98,97,115,101]) (-1) t0 5])
def tB(t0:List GNode):Option GLaw:=Xx t0
def dq(t0:Int):Option Bool:=
 eaa (α:=Bool) (
  if 97<=t0 then
   some (decide (t0<=122))
  else
  some false) λj2=>
 some j2
def ct(t0:Int):Option Bool:=
 eaa (α:=Bool) (
  if 48<=t0 then
   some (decide (t0<=57))
  else
  some false) λj2=>
 some j2
def Pr(t0:Int):Option Bool:=
 eaa (α:=Bool) (
  (dq t0).bind λx1=>
  if x1=false then
   (ct t0).bind λx3=>
   if x3=false then
    some (t0==95)
   else
   some true
  else
  some true) λj5=>
 some j5
def Pe  : Option (List ByteArray):=
 some ([(iaa #[105,102]),(iaa #[116,104,101,110]),(iaa #[101,108,115,101]),(iaa #[111,114]),(iaa #[97,110,100]),(iaa #[110,111,116]),(iaa #[116,114,117,101]),(iaa #[102,97,108,115,101]),(iaa #[116,111,100,97,121]),(iaa #[115,104,97,114,101]),(iaa #[100,105,118]),(iaa #[114,111,117,110,100]),(iaa #[109,105,110]),(iaa #[109,97,120]),(iaa #[112,108,117,115]),(iaa #[109,111,110,116,104,115]),(iaa #[100,97,121,115]),(iaa #[121,101,97,114,115]),(iaa #[121,101,97,114]),(iaa #[109,111,110,116,104]),(iaa #[116,97,98]),(iaa #[98,97,110,100]),(iaa #[99,111,117,110,116]),(iaa #[115,117,109]),(iaa #[97,108,108]),(iaa #[97,110,121]),(iaa #[109,111,115,116]),(iaa #[101,110,117,109]),(iaa #[116,97,98,108,101]),(iaa #[114,111,119]),(iaa #[115,99,111,112,101]),(iaa #[109,101,109,98,101,114,115]),(iaa #[105,110,112,117,116]),(iaa #[100,101,102]),(iaa #[114,117,108,101]),(iaa #[111,102]),(iaa #[111,118,101,114]),(iaa #[112,114,105,111]),(iaa #[102,114,111,109]),(iaa #[116,111]),(iaa #[101,110,100]),(iaa #[119,104,101,110]),(iaa #[105,115]),(iaa #[115,114,99]),(iaa #[98,111,111,108]),(iaa #[105,110,116]),(iaa #[109,111,110,101,121]),(iaa #[114,97,116,101]),(iaa #[100,97,116,101]),(iaa #[100,111,119,110]),(iaa #[117,112]),(iaa #[122,101,114,111]),(iaa #[97,119,97,121]),(iaa #[104,97,108,102]),(iaa #[101,118,101,110])])
def ie(t0:ByteArray):Int->Option (Ex Int Unit Bool):=λs7=>
 if s7<(t0.size:Int)then
  (Cs t0 s7).bind λx9=>
  (Pr x9).bind λx10=>
  if x10=false then
   some (Ex.ret false)
  else
  some (Ex.go (da .i64 (s7+1)))
 else
 some (Ex.brk ())
def fe(t0:ByteArray) (x13:List ByteArray):Int->Option (Ex Int Unit Bool):=λs14=>
 if s14<(x13.length:Int)then
  (idx x13 s14).bind λx16=>
  if x16=t0 then
   some (Ex.ret false)
  else
  some (Ex.go (da .i64 (s14+1)))
 else
 some (Ex.brk ())
def jb(t0:ByteArray):Option Bool:=
 eaa (α:=Bool) (
  if¬(t0.size:Int)=0 then
   if¬16<(t0.size:Int)then
    (Cs t0 0).bind λx3=>
    (dq x3).bind λx4=>
    some (!x4)
   else
   some true
  else
  some true) λj5=>
 if j5=true then
  some false
 else
 (fa (ie t0) 0).bind λy=>match y with
 |.inr v=>some v
 |.inl _=>
 (Pe).bind λx13=>
 (fa (fe t0 x13) 0).bind λy=>match y with
 |.inr v=>some v
 |.inl _=>
 some true
def Tb(t0:GLaw) (t1:Int) (t2:Int) (t3:ByteArray):Int->Option (Ex Int Unit Bool):=λs1=>
 if s1<(t0.Enums.length:Int)then
  eaa (α:=Bool) (
   if¬1<t1 then
    if s1<t2 then
     (idx t0.Enums s1).bind λx5=>
     some (decide (x5.Name=t3))
    else
    some false
   else
   (idx t0.Enums s1).bind λx6=>
   some (decide (x6.Name=t3))) λj7=>
  if j7=true then
   some (Ex.ret true)
  else
  some (Ex.go (da .i64 (s1+1)))
 else
 some (Ex.brk ())
def bb(t0:GLaw) (t1:Int) (t2:Int) (t3:ByteArray):Int->Option (Ex Int Unit Bool):=λs10=>
 if s10<(t0.Tables.length:Int)then
  eaa (α:=Bool) (
   if¬2<t1 then
    if t1=2 then
     if s10<t2 then
      (idx t0.Tables s10).bind λx15=>
      some (decide (x15.Name=t3))
     else
     some false
    else
    some false
   else
   (idx t0.Tables s10).bind λx16=>
   some (decide (x16.Name=t3))) λj17=>
  if j17=true then
   some (Ex.ret true)
  else
  some (Ex.go (da .i64 (s10+1)))
 else
 some (Ex.brk ())
def lb(t0:GLaw) (t1:Int) (t2:Int) (t3:ByteArray):Int->Option (Ex Int Unit Bool):=λs20=>
 if s20<(t0.Scopes.length:Int)then
  eaa (α:=Bool) (
   if t1=3 then
    if s20<t2 then
     (idx t0.Scopes s20).bind λx24=>
     some (decide (x24.Name=t3))
    else
    some false
   else
   some false) λj25=>
  if j25=true then
   some (Ex.ret true)
  else
  some (Ex.go (da .i64 (s20+1)))
 else
 some (Ex.brk ())
def Xb(t0:GLaw) (t1:Int) (t2:Int) (t3:ByteArray):Option Bool:=
 (fa (Tb t0 t1 t2 t3) 0).bind λy=>match y with
 |.inr v=>some v
 |.inl _=>
 (fa (bb t0 t1 t2 t3) 0).bind λy=>match y with
 |.inr v=>some v
 |.inl _=>
 (fa (lb t0 t1 t2 t3) 0).bind λy=>match y with
 |.inr v=>some v
 |.inl _=>
 some false
def Cg(t1:Int) (x1:GEnum) (s9:Int) (x11:ByteArray):Int->Option (Ex Int Unit (Ex (Int×Int) Unit GLawError)):=λs14=>
 if s14<s9 then
  (idx x1.Members s14).bind λx16=>
  if x16=x11 then
   some (Ex.ret (Ex.ret (GLawError.mk 7 1 t1 (da .i64 (100+s9)))))
  else
  some (Ex.go (da .i64 (s14+1)))
 else
 some (Ex.brk ())
def Dg(t1:Int) (x1:GEnum):(Int×Int)->Option (Ex (Int×Int) Unit GLawError):=λ(s8,s9)=>
 if s9<(x1.Members.length:Int)then
  (idx x1.Members s9).bind λx11=>
  (jb x11).bind λx12=>
  if x12=false then
   some (Ex.ret (GLawError.mk 2 1 t1 (da .i64 (100+s9))))
  else
  (fa (Cg t1 x1 s9 x11) 0).bind λy=>match y with
  |.inr v=>some v
  |.inl _=>
  some (Ex.go ((da .i64 (100+s9)),(da .i64 (s9+1))))
 else
 some (Ex.brk ())
def Rj(t0:GLaw) (t1:Int):Option GLawError:=
 (idx t0.Enums t1).bind λx1=>
 (jb x1.Name).bind λx2=>
 if x2=false then
  some (GLawError.mk 2 1 t1 0)
 else
 (Xb t0 1 t1 x1.Name).bind λx4=>
 if x4=true then
  some (GLawError.mk 7 1 t1 0)
 else
 if(x1.Members.length:Int)=0 then
  some (GLawError.mk 5 1 t1 0)
 else
 if 16<(x1.Members.length:Int)then
  some (GLawError.mk 4 1 t1 116)
 else
 (fa (Dg t1 x1) (0,0)).bind λy=>match y with
 |.inr v=>some v
 |.inl _=>
 some (GLawError.mk 0 0 0 0)
def Eb(t0:GType) (t1:List GEnum):Option Bool:=
 if t0.Kind=6 then
  eaa (α:=Bool) (
   if 0<=t0.Enum then
    some (decide (t0.Enum<(t1.length:Int)))
   else
   some false) λj3=>
  some j3
 else
 eaa (α:=Bool) (
  if 1<=t0.Kind then
   if t0.Kind<=5 then
    some (t0.Enum==0)
   else
   some false
  else
  some false) λj6=>
 some j6
def Ch(t0:GDateRange):Option Bool:=
 eaa (α:=Bool) (
  if 0<=t0.From then
   if t0.From<=t0.To then
    some (decide (t0.To<=109573))
   else
   some false
  else
  some false) λj3=>
 some j3
def Fe(t0:GType) (t1:List GEnum):Option (Int×Int):=
 (Eb t0 t1).bind λx1=>
 if x1=false then
  some (0,(-1))
 else
 if t0.Kind=1 then
  some (0,1)
 else
 if t0.Kind=2 then
  some ((-1000000000000),1000000000000)
 else
 if t0.Kind=3 then
  some ((-1000000000000000),1000000000000000)
 else
 if t0.Kind=4 then
  some ((-1000000000),1000000000)
 else
 if t0.Kind=5 then
  some (0,109572)
 else
 (idx t1 t0.Enum).bind λx8=>
 some (0,(da .i64 ((x8.Members.length:Int)-1)))
def Qr(t0:Int) (t1:GType) (t2:List GEnum):Option Bool:=
 (Fe t1 t2).bind λx1=>
 eaa (α:=Bool) (
  if x1.1<=t0 then
   some (decide (t0<=x1.2))
  else
  some false) λj3=>
 some j3
def iq(t0:GRow) (t1:GTable) (t2:List GEnum):Option Bool:=
 eaa (α:=Bool) (
  (Ch t0.Valid).bind λx1=>
  if x1=true then
   if¬t0.Valid.From=t0.Valid.To then
    some (decide (t0.Hi<=t0.Lo))
   else
   some true
  else
  some true) λj4=>
 if j4=true then
  some true
 else
 eaa (α:=Bool) (
  (Qr t0.Lo t1.Key t2).bind λx6=>
  if x6=true then
   (Qr (da .i64 (t0.Hi-1)) t1.Key t2).bind λx8=>
   if x8=true then
    (Qr t0.N t1.Value t2).bind λx10=>
    some (!x10)
   else
   some true
  else
  some true) λj11=>
 some j11
def Wm(t0:GDateRange) (t1:GDateRange):Option (GDateRange×Bool):=
 eaa (α:=Bool) (
  (Ch t0).bind λx1=>
  if x1=true then
   (Ch t1).bind λx3=>
   some (!x3)
  else
  some true) λj4=>
 if j4=true then
  some ((GDateRange.mk 0 0),false)
 else
 if(min t0.To t1.To)<=(max t0.From t1.From)then
  some ((GDateRange.mk 0 0),false)
 else
 some ((GDateRange.mk (max t0.From t1.From) (min t0.To t1.To)),true)
def Al(t0:GRow) (t1:GRow):Option Bool:=
 (Wm t0.Valid t1.Valid).bind λx1=>
 eaa (α:=Bool) (
  if x1.2=true then
   some (decide ((max t0.Lo t1.Lo)<(min t0.Hi t1.Hi)))
  else
  some false) λj3=>
 some j3
def Fh(t0:GTable) (s7:Int) (x9:GRow):Int->Option (Ex Int Unit (Ex Int Unit (Int×Int))):=λs12=>
 if s12<s7 then
  (idx t0.Rows s12).bind λx14=>
  (Al x14 x9).bind λx15=>
  if x15=true then
   some (Ex.ret (Ex.ret (s7,11)))
  else
  some (Ex.go (da .i64 (s12+1)))
 else
 some (Ex.brk ())
def Hh(t0:GTable) (t1:List GEnum):Int->Option (Ex Int Unit (Int×Int)):=λs7=>
 if s7<(t0.Rows.length:Int)then
  (idx t0.Rows s7).bind λx9=>
  (iq x9 t0 t1).bind λx10=>
  if x10=true then
   some (Ex.ret (s7,3))
  else
  (fa (Fh t0 s7 x9) 0).bind λy=>match y with
  |.inr v=>some v
  |.inl _=>
  some (Ex.go (da .i64 (s7+1)))
 else
 some (Ex.brk ())
def xl(t0:GTable) (t1:List GEnum):Option (Int×Int):=
 if 64<(t0.Rows.length:Int)then
  some (64,4)
 else
 eaa (α:=Bool) (
  (Eb t0.Key t1).bind λx2=>
  if x2=true then
   (Eb t0.Value t1).bind λx4=>
   some (!x4)
  else
  some true) λj5=>
 if j5=true then
  some ((-1),8)
 else
 (fa (Hh t0 t1) 0).bind λy=>match y with
 |.inr v=>some v
 |.inl _=>
 some (0,0)
def bj(t0:GLaw) (t1:Int):Option GLawError:=
 (idx t0.Tables t1).bind λx1=>
 (jb x1.Name).bind λx2=>
 if x2=false then
  some (GLawError.mk 2 2 t1 0)
 else
 (Xb t0 2 t1 x1.Name).bind λx4=>
 if x4=true then
  some (GLawError.mk 7 2 t1 0)
 else
 (xl x1 t0.Enums).bind λx6=>
 if x6.2=0 then
  some (GLawError.mk 0 0 0 0)
 else
 eaa (α:=Int) (
  if 0<=x6.1 then
   some (da .i64 (100+x6.1))
  else
  some 0) λj9=>
 some (GLawError.mk x6.2 2 t1 j9)
def Ph(t0:List GField) (t1:Int) (t2:ByteArray):Int->Option (Ex Int Unit Bool):=λs1=>
 eaa (α:=Bool) (
  if s1<t1 then
   some (decide (s1<(t0.length:Int)))
  else
  some false) λj3=>
 if j3=true then
  (idx t0 s1).bind λx5=>
  if x5.Name=t2 then
   some (Ex.ret true)
  else
  some (Ex.go (da .i64 (s1+1)))
 else
 some (Ex.brk ())
def Eg(t0:List GField) (t1:Int) (t2:ByteArray):Option Bool:=
 (fa (Ph t0 t1 t2) 0).bind λy=>match y with
 |.inr v=>some v
 |.inl _=>
 some false
def Ef(t0:GLaw) (t1:Int) (x1:GScope):Int->Option (Ex Int Unit GLawError):=λs2=>
 if s2<(x1.Inputs.length:Int)then
  eaa (α:=Int) (
   (idx x1.Inputs s2).bind λx4=>
   (jb x4.Name).bind λx5=>
   if x5=false then
    some 2
   else
   (Eg x1.Inputs s2 x4.Name).bind λx7=>
   if x7=true then
    some 7
   else
   (Eb x4.Type_ t0.Enums).bind λx9=>
   if x9=false then
    some 8
   else
   some 0) λj11=>
  if¬j11=0 then
   some (Ex.ret (GLawError.mk j11 3 t1 (da .i64 (100+s2))))
  else
  some (Ex.go (da .i64 (s2+1)))
 else
 some (Ex.brk ())
def Df(t0:GLaw) (t1:Int) (x1:GScope):Int->Option (Ex Int Unit GLawError):=λs14=>
 if s14<(x1.Defs.length:Int)then
  eaa (α:=Int) (
   (idx x1.Defs s14).bind λx16=>
   (jb x16.Name).bind λx17=>
   if x17=false then
    some 2
   else
   eaa (α:=Bool) (
    (Eg x1.Inputs (x1.Inputs.length:Int) x16.Name).bind λx19=>
    if x19=false then
     (Eg x1.Defs s14 x16.Name).bind λx21=>
     some x21
    else
    some true) λj22=>
   if j22=true then
    some 7
   else
   (Eb x16.Type_ t0.Enums).bind λx24=>
   if x24=false then
    some 8
   else
   some 0) λj26=>
  if¬j26=0 then
   some (Ex.ret (GLawError.mk j26 3 t1 (da .i64 (200+s14))))
  else
  some (Ex.go (da .i64 (s14+1)))
 else
 some (Ex.brk ())
def Xi(t0:GLaw) (t1:Int):Option GLawError:=
 (idx t0.Scopes t1).bind λx1=>
 (fa (Ef t0 t1 x1) 0).bind λy=>match y with
 |.inr v=>some v
 |.inl _=>
 (fa (Df t0 t1 x1) 0).bind λy=>match y with
 |.inr v=>some v
 |.inl _=>
 some (GLawError.mk 0 0 0 0)
def Qq(t0:List GField):((List GType)×Int)->Option (Ex ((List GType)×Int) (List GType) Unit):=λ(s1,s2)=>
 if s2<(t0.length:Int)then
  (idx t0 s2).bind λx4=>
  (app 16 s1 ([x4.Type_])).bind λx5=>
  some (Ex.go (x5,(da .i64 (s2+1))))
 else
 some (Ex.brk s1)
def Zi(t0:List GField):Option (List GType):=
 (fa (Qq t0) (([]:List GType),0)).bind λy=>match y with
 |.inr _=>none
 |.inl b8=>
 some b8
def dh(t0:GLaw) (t1:Int):Option GSignature:=
 eaa (α:=Bool) (
  if¬t1<0 then
   some (decide ((t0.Scopes.length:Int)<=t1))
  else
  some true) λj2=>
 if j2=true then
  some (GSignature.mk ([]) ([]) ([]) ([]) ([]) false)
 else
 (idx t0.Scopes t1).bind λx4=>
 (Zi x4.Inputs).bind λx5=>
 (Zi x4.Defs).bind λx6=>
 eaa (α:=((List GType)×Bool)) (
  eaa (α:=Bool) (
   if 0<=x4.MemberScope then
    some (decide (x4.MemberScope<(t0.Scopes.length:Int)))
   else
   some false) λj8=>
  if j8=true then
   (idx t0.Scopes x4.MemberScope).bind λx10=>
   (Zi x10.Defs).bind λx11=>
   some (x11,true)
  else
  some (([]:List GType),false)) λ(j12,j13)=>
 some (GSignature.mk t0.Enums t0.Tables x5 x6 j12 j13)
def Fg(t0:ByteArray):Int->Option (Ex Int Unit Bool):=λs1=>
 if s1<(t0.size:Int)then
  eaa (α:=Bool) (
   (Cs t0 s1).bind λx3=>
   if¬x3<32 then
    if¬126<x3 then
     some (x3==34)
    else
    some true
   else
   some true) λj6=>
  if j6=true then
   some (Ex.ret false)
  else
  some (Ex.go (da .i64 (s1+1)))
 else
 some (Ex.brk ())
def Sj(t0:ByteArray):Option Bool:=
 (fa (Fg t0) 0).bind λy=>match y with
 |.inr v=>some v
 |.inl _=>
 some (decide ((t0.size:Int)<=64))
def kj(t0:Int):Option Int:=
 eaa (α:=Bool) (
  if 1<=t0 then
   if¬t0<=9 then
    if 35<=t0 then
     some (decide (t0<=39))
    else
    some false
   else
   some true
  else
  if 35<=t0 then
   some (decide (t0<=39))
  else
  some false) λj5=>
 if j5=true then
  some 0
 else
 eaa (α:=Bool) (
  if t0=10 then
   some true
  else
  if t0=25 then
   some true
  else
  if t0=31 then
   some true
  else
  if t0=32 then
   some true
  else
  if t0=33 then
   some true
  else
  some (t0==34)) λj12=>
 if j12=true then
  some 1
 else
 if t0=26 then
  some 3
 else
 eaa (α:=Bool) (
  if 11<=t0 then
   some (decide (t0<=30))
  else
  some false) λj16=>
 if j16=true then
  some 2
 else
 some (-1)
def yg(t0:List GNode):((List Int)×(List Int)×Int)->Option (Ex ((List Int)×(List Int)×Int) ((List Int)×(List Int)) ((List Int)×Int×Int)):=λ(s3,s4,s5)=>
 if s5<(t0.length:Int)then
  (idx t0 s5).bind λx7=>
  (kj x7.Op).bind λx8=>
  if x8<0 then
   some (Ex.ret ([],s5,2))
  else
  if(s4.length:Int)<x8 then
   some (Ex.ret ([],s5,5))
  else
  eaa (α:=((List Int)×Int)) (
   if 0<x8 then
    (idx s4 (da .i64 ((s4.length:Int)-x8))).bind λx12=>
    (Fs s4 (da .i64 ((s4.length:Int)-x8))).bind λx13=>
    some (x13,x12)
   else
   some (s4,s5)) λ(j14,j15)=>
  (app 8 j14 ([j15])).bind λx16=>
  (app 8 s3 ([j15])).bind λx17=>
  if 12<(x16.length:Int)then
   some (Ex.ret ([],s5,16))
  else
  some (Ex.go (x17,x16,(da .i64 (s5+1))))
 else
 some (Ex.brk (s3,s4))
def tf(t0:List GNode):Option ((List Int)×Int×Int):=
 if 48<(t0.length:Int)then
  some ([],0,4)
 else
 if(t0.length:Int)=0 then
  some ([],0,5)
 else
 (fa (yg t0) (([]:List Int),([]:List Int),0)).bind λy=>match y with
 |.inr v=>some v
 |.inl (b22,b23)=>
 if 1<(b23.length:Int)then
  some ([],(t0.length:Int),4)
 else
 some (b22,0,0)
def lk(t0:Int):Option Bool:=
 eaa (α:=Bool) (
  if 1<=t0 then
   if¬t0<=8 then
    if 36<=t0 then
     some (decide (t0<=39))
    else
    some false
   else
   some true
  else
  if 36<=t0 then
   some (decide (t0<=39))
  else
  some false) λj5=>
 if j5=true then
  some true
 else
 eaa (α:=Bool) (
  if¬t0=14 then
   if¬t0=15 then
    if¬t0=16 then
     if¬t0=33 then
      some (t0==34)
     else
     some true
    else
    some true
   else
   some true
  else
  some true) λj11=>
 some j11
def kb(t0:Int):Option GType:=
 some (GType.mk t0 0)
def Za(t0:GNode) (t1:GSignature):Option Bool:=
 eaa (α:=Bool) (
  if t0.Op=1 then
   some true
  else
  if t0.Op=2 then
   some true
  else
  if t0.Op=3 then
   some true
  else
  if t0.Op=4 then
   some true
  else
  some (t0.Op==5)) λj5=>
 if j5=true then
  (kb t0.Op).bind λx7=>
  (Fe x7 t1.Enums).bind λx8=>
  eaa (α:=Bool) (
   if x8.1<=t0.N then
    some (decide (t0.N<=x8.2))
   else
   some false) λj10=>
  some j10
 else
 eaa (α:=Bool) (
  if t0.Op=14 then
   some true
  else
  if t0.Op=15 then
   some true
  else
  some (t0.Op==16)) λj13=>
 if j13=true then
  eaa (α:=Bool) (
   if 0<=t0.N then
    some (decide (t0.N<=5))
   else
   some false) λj16=>
  some j16
 else
 if t0.Op=34 then
  eaa (α:=Bool) (
   if 0<=t0.N then
    some (decide ((Qaa t0.N 8)<=5))
   else
   some false) λj19=>
  some j19
 else
 if t0.Op=6 then
  some (decide (0<=t0.N))
 else
 some true
def Rb(t0:GNode) (t1:GSignature):Option Bool:=
 if t0.Op=6 then
  eaa (α:=Bool) (
   if(da .i64 (Faa t0.N 16))<(t1.Enums.length:Int)then
    (idx t1.Enums (da .i64 (Faa t0.N 16))).bind λx3=>
    some (decide ((Qaa t0.N 16)<(x3.Members.length:Int)))
   else
   some false) λj4=>
  some j4
 else
 if t0.Op=7 then
  eaa (α:=Bool) (
   if 0<=t0.N then
    some (decide (t0.N<(t1.Inputs.length:Int)))
   else
   some false) λj7=>
  some j7
 else
 if t0.Op=8 then
  eaa (α:=Bool) (
   if 0<=t0.N then
    some (decide (t0.N<(t1.Defs.length:Int)))
   else
   some false) λj10=>
  some j10
 else
 if t0.Op=33 then
  eaa (α:=Bool) (
   if 0<=t0.N then
    some (decide (t0.N<(t1.Tables.length:Int)))
   else
   some false) λj13=>
  some j13
 else
 if t0.Op=34 then
  some (decide ((da .i64 (Faa t0.N 8))<(t1.Tables.length:Int)))
 else
 if t0.Op=35 then
  some t1.HasMembers
 else
 eaa (α:=Bool) (
  if t0.Op=36 then
   some true
  else
  if t0.Op=37 then
   some true
  else
  if t0.Op=38 then
   some true
  else
  some (t0.Op==39)) λj19=>
 if j19=true then
  eaa (α:=Bool) (
   if t1.HasMembers=true then
    if 0<=t0.N then
     some (decide (t0.N<(t1.MemberDefs.length:Int)))
    else
    some false
   else
   some false) λj23=>
  some j23
 else
 some true
def Eh(t0:Int):Option Bool:=
 eaa (α:=Bool) (
  if¬t0=2 then
   if¬t0=3 then
    some (t0==4)
   else
   some true
  else
  some true) λj3=>
 some j3
def Qf(t0:Int):Option Bool:=
 eaa (α:=Bool) (
  (Eh t0).bind λx1=>
  if x1=false then
   some (t0==5)
  else
  some true) λj3=>
 some j3
def ki(t0:GNode) (t1:GSignature):Option (GType×Bool):=
 eaa (α:=(Int×Int)) (
  if t0.Op=6 then
   some (6,(da .i64 (Faa t0.N 16)))
  else
  if t0.Op=7 then
   (idx t1.Inputs t0.N).bind λx3=>
   some (x3.Kind,x3.Enum)
  else
  if t0.Op=8 then
   (idx t1.Defs t0.N).bind λx5=>
   some (x5.Kind,x5.Enum)
  else
  if t0.Op=9 then
   (kb 5).bind λx7=>
   some (x7.Kind,x7.Enum)
  else
  if t0.Op=35 then
   (kb 2).bind λx9=>
   some (x9.Kind,x9.Enum)
  else
  eaa (α:=Bool) (
   if t0.Op=36 then
    some true
   else
   if t0.Op=37 then
    some true
   else
   if t0.Op=38 then
    some true
   else
   some (t0.Op==39)) λj13=>
  if j13=true then
   (idx t1.MemberDefs t0.N).bind λx15=>
   some (x15.Kind,x15.Enum)
  else
  (kb t0.Op).bind λx16=>
  some (x16.Kind,x16.Enum)) λ(j17,j18)=>
 (Eb (GType.mk j17 j18) t1.Enums).bind λx19=>
 eaa (α:=Bool) (
  if t0.Op=36 then
   if x19=true then
    if¬j17=2 then
     some (j17==3)
    else
    some true
   else
   some false
  else
  eaa (α:=Bool) (
   if t0.Op=37 then
    some true
   else
   some (t0.Op==38)) λj24=>
  if j24=true then
   if x19=true then
    some (j17==1)
   else
   some false
  else
  if t0.Op=39 then
   if x19=true then
    (Qf j17).bind λx29=>
    some x29
   else
   some false
  else
  some x19) λj30=>
 some ((GType.mk j17 j18),j30)
def uj(t0:GNode) (t1:GType) (t2:GSignature):Option (GType×Bool):=
 if t0.Op=10 then
  (Eh t1.Kind).bind λx2=>
  some (t1,x2)
 else
 if t0.Op=25 then
  some (t1,(t1.Kind==1))
 else
 eaa (α:=Bool) (
  if t0.Op=31 then
   some true
  else
  some (t0.Op==32)) λj5=>
 if j5=true then
  (kb 2).bind λx7=>
  some (x7,(t1.Kind==5))
 else
 if t0.Op=33 then
  (idx t2.Tables t0.N).bind λx9=>
  eaa (α:=Bool) (
   (Eb x9.Key t2.Enums).bind λx10=>
   if x10=true then
    (Eb x9.Value t2.Enums).bind λx12=>
    if x12=true then
     some ((t1.Kind==x9.Key.Kind)&&(t1.Enum==x9.Key.Enum))
    else
    some false
   else
   some false) λj14=>
  some (x9.Value,j14)
 else
 (idx t2.Tables (da .i64 (Faa t0.N 8))).bind λx15=>
 eaa (α:=Bool) (
  if t1.Kind=3 then
   (kb 3).bind λx17=>
   if x15.Key.Kind=x17.Kind/\x15.Key.Enum=x17.Enum then
    (kb 4).bind λx19=>
    some ((x15.Value.Kind==x19.Kind)&&(x15.Value.Enum==x19.Enum))
   else
   some false
  else
  some false) λj20=>
 some (t1,j20)
def oo(t0:Int) (t1:Int) (t2:Int):Option (GType×Bool):=
 if t0=13 then
  eaa (α:=(Int×Int×Bool)) (
   (kb t1).bind λx2=>
   if t2=2 then
    if¬t1=2 then
     some (x2.Kind,x2.Enum,(t1==3))
    else
    some (x2.Kind,x2.Enum,true)
   else
   some (x2.Kind,x2.Enum,false)) λ(j5,j6,j7)=>
  some ((GType.mk j5 j6),j7)
 else
 if t0=14 then
  eaa (α:=(Int×Int×Bool)) (
   (kb t1).bind λx9=>
   if t2=4 then
    if¬t1=3 then
     some (x9.Kind,x9.Enum,(t1==4))
    else
    some (x9.Kind,x9.Enum,true)
   else
   some (x9.Kind,x9.Enum,false)) λ(j12,j13,j14)=>
  some ((GType.mk j12 j13),j14)
 else
 eaa (α:=Bool) (
  if t1=3 then
   some (t2==3)
  else
  some false) λj16=>
 if j16=true then
  (kb 4).bind λx18=>
  some (x18,true)
 else
 eaa (α:=(Int×Int×Bool)) (
  (kb t1).bind λx19=>
  if t2=2 then
   if¬t1=2 then
    some (x19.Kind,x19.Enum,(t1==3))
   else
   some (x19.Kind,x19.Enum,true)
  else
  some (x19.Kind,x19.Enum,false)) λ(j22,j23,j24)=>
 some ((GType.mk j22 j23),j24)
def Dh(t0:Int) (t1:GType) (t2:GType):Option (GType×Bool):=
 eaa (α:=Bool) (
  if t0=11 then
   some true
  else
  some (t0==12)) λj2=>
 if j2=true then
  eaa (α:=Bool) (
   if t1.Kind=t2.Kind/\t1.Enum=t2.Enum then
    (Eh t1.Kind).bind λx5=>
    some x5
   else
   some false) λj6=>
  some (t1,j6)
 else
 eaa (α:=Bool) (
  if t0=13 then
   some true
  else
  if t0=14 then
   some true
  else
  some (t0==15)) λj9=>
 if j9=true then
  (oo t0 t1.Kind t2.Kind).bind λx11=>
  some (x11.1,x11.2)
 else
 if t0=16 then
  eaa (α:=Bool) (
   if t1.Kind=3 then
    some (t2.Kind==3)
   else
   some false) λj14=>
  some (t1,j14)
 else
 eaa (α:=Bool) (
  if t0=17 then
   some true
  else
  some (t0==18)) λj16=>
 if j16=true then
  eaa (α:=Bool) (
   if t1.Kind=t2.Kind/\t1.Enum=t2.Enum then
    (Qf t1.Kind).bind λx19=>
    some x19
   else
   some false) λj20=>
  some (t1,j20)
 else
 eaa (α:=Bool) (
  if t0=19 then
   some true
  else
  some (t0==20)) λj22=>
 if j22=true then
  (kb 1).bind λx24=>
  some (x24,((t1.Kind==t2.Kind)&&(t1.Enum==t2.Enum)))
 else
 eaa (α:=Bool) (
  if t0=21 then
   some true
  else
  some (t0==22)) λj26=>
 if j26=true then
  eaa (α:=(Int×Int×Bool)) (
   (kb 1).bind λx28=>
   if t1.Kind=t2.Kind/\t1.Enum=t2.Enum then
    (Qf t1.Kind).bind λx30=>
    some (x28.Kind,x28.Enum,x30)
   else
   some (x28.Kind,x28.Enum,false)) λ(j31,j32,j33)=>
  some ((GType.mk j31 j32),j33)
 else
 eaa (α:=Bool) (
  if t0=23 then
   some true
  else
  some (t0==24)) λj35=>
 if j35=true then
  eaa (α:=Bool) (
   if t1.Kind=1 then
    some (t2.Kind==1)
   else
   some false) λj38=>
  some (t1,j38)
 else
 eaa (α:=Bool) (
  if t0=27 then
   some true
  else
  some (t0==28)) λj40=>
 if j40=true then
  eaa (α:=Bool) (
   if t1.Kind=5 then
    some (t2.Kind==2)
   else
   some false) λj43=>
  some (t1,j43)
 else
 eaa (α:=(Int×Int×Bool)) (
  (kb 2).bind λx44=>
  if t1.Kind=5 then
   some (x44.Kind,x44.Enum,(t2.Kind==5))
  else
  some (x44.Kind,x44.Enum,false)) λ(j46,j47,j48)=>
 some ((GType.mk j46 j47),j48)
def Pa(t0:GNode) (t1:List GType) (t2:GSignature):Option (GType×Int):=
 eaa (α:=Bool) (
  if¬t0.N=0 then
   (lk t0.Op).bind λx2=>
   some (!x2)
  else
  some false) λj3=>
 if j3=true then
  some ((GType.mk 0 0),2)
 else
 (Za t0 t2).bind λx5=>
 if x5=false then
  some ((GType.mk 0 0),3)
 else
 (Rb t0 t2).bind λx7=>
 if x7=false then
  some ((GType.mk 0 0),6)
 else
 eaa (α:=(Int×Int×Bool)) (
  if(t1.length:Int)=0 then
   (ki t0 t2).bind λx10=>
   some (x10.1.Kind,x10.1.Enum,x10.2)
  else
  if(t1.length:Int)=1 then
   (idx t1 0).bind λx12=>
   (uj t0 x12 t2).bind λx13=>
   some (x13.1.Kind,x13.1.Enum,x13.2)
  else
  if(t1.length:Int)=2 then
   (idx t1 0).bind λx15=>
   (idx t1 1).bind λx16=>
   (Dh t0.Op x15 x16).bind λx17=>
   some (x17.1.Kind,x17.1.Enum,x17.2)
  else
  (idx t1 1).bind λx18=>
  (idx t1 0).bind λx19=>
  if x19.Kind=1 then
   (idx t1 2).bind λx21=>
   some (x18.Kind,x18.Enum,((x18.Kind==x21.Kind)&&(x18.Enum==x21.Enum)))
  else
  some (x18.Kind,x18.Enum,false)) λ(j22,j23,j24)=>
 if j24=false then
  some ((GType.mk 0 0),8)
 else
 some ((GType.mk j22 j23),0)
def Nj(t0:List GNode) (t1:GSignature):((List GType)×Int)->Option (Ex ((List GType)×Int) (List GType) (GType×Int×Int)):=λ(s3,s4)=>
 if s4<(t0.length:Int)then
  (idx t0 s4).bind λx6=>
  (kj x6.Op).bind λx7=>
  (gC s3 (da .i64 ((s3.length:Int)-x7))).bind λx8=>
  (Pa x6 x8 t1).bind λx9=>
  if¬x9.2=0 then
   some (Ex.ret ((GType.mk 0 0),s4,x9.2))
  else
  (Fs s3 (da .i64 ((s3.length:Int)-x7))).bind λx11=>
  (app 16 x11 ([x9.1])).bind λx12=>
  some (Ex.go (x12,(da .i64 (s4+1))))
 else
 some (Ex.brk s3)
def Zl(t0:List GNode) (t1:GSignature):Option (GType×Int×Int):=
 (tf t0).bind λx1=>
 if¬x1.2.2=0 then
  some ((GType.mk 0 0),x1.2.1,x1.2.2)
 else
 (fa (Nj t0 t1) (([]:List GType),0)).bind λy=>match y with
 |.inr v=>some v
 |.inl b15=>
 (idx b15 0).bind λx16=>
 some (x16,0,0)
def fh(t0:List GNode) (t1:GSignature) (t2:GType):Option Int:=
 (Zl t0 t1).bind λx1=>
 if¬x1.2.2=0 then
  some x1.2.2
 else
 if¬(x1.1.Kind=t2.Kind/\x1.1.Enum=t2.Enum)then
  some 8
 else
 some 0
def Gg(t2:Int) (x1:GScope) (x2:GRule):(Int×Int)->Option (Ex (Int×Int) Int Int):=λ(s5,s6)=>
 if s6<t2 then
  eaa (α:=(Int⊕(Ex (Int×Int) Int Int))) (
   (idx x1.Rules s6).bind λx8=>
   if x8.Name=x2.Name then
    some (Sum.inr (Ex.ret 7))
   else
   if x8.Def=x2.Def then
    some (Sum.inl (da .i64 (s5+1)))
   else
   some (Sum.inl s5)) λz=>match z with
  |.inr v=>some v
  |.inl j11=>
  some (Ex.go (j11,(da .i64 (s6+1))))
 else
 some (Ex.brk s5)
def Tj(t0:GLaw) (t1:Int) (t2:Int):Option Int:=
 (idx t0.Scopes t1).bind λx1=>
 (idx x1.Rules t2).bind λx2=>
 (jb x2.Name).bind λx3=>
 if x3=false then
  some 2
 else
 (fa (Gg t2 x1 x2) (0,0)).bind λy=>match y with
 |.inr v=>some v
 |.inl b14=>
 eaa (α:=Bool) (
  if¬x2.Def<0 then
   some (decide ((x1.Defs.length:Int)<=x2.Def))
  else
  some true) λj16=>
 if j16=true then
  some 6
 else
 eaa (α:=Bool) (
  if¬x2.Parent=(-1)then
   if¬x2.Parent<0 then
    if¬t2<=x2.Parent then
     (idx x1.Rules x2.Parent).bind λx21=>
     some (x21.Def !=x2.Def)
    else
    some true
   else
   some true
  else
  some false) λj22=>
 if j22=true then
  some 9
 else
 eaa (α:=Bool) (
  if¬x2.Priority<0 then
   if¬9<x2.Priority then
    (Ch x2.Valid).bind λx26=>
    if x26=true then
     some (x2.Valid.From==x2.Valid.To)
    else
    some true
   else
   some true
  else
  some true) λj28=>
 if j28=true then
  some 3
 else
 if 8<=b14 then
  some 4
 else
 (Sj x2.Source).bind λx31=>
 if x31=false then
  some 2
 else
 (dh t0 t1).bind λx33=>
 eaa (α:=(Unit⊕Int)) (
  if 0<(x2.Guard.length:Int)then
   (fh x2.Guard x33 (GType.mk 1 0)).bind λx35=>
   if¬x35=0 then
    some (Sum.inr x35)
   else
   some (Sum.inl ())
  else
  some (Sum.inl ())) λz=>match z with
 |.inr v=>some v
 |.inl _=>
 (idx x1.Defs x2.Def).bind λx37=>
 (fh x2.Value x33 x37.Type_).bind λx38=>
 some x38
def xv(t0:List Int) (t1:Int):((List Int)×Bool×Int)->Option (Ex ((List Int)×Bool×Int) ((List Int)×Bool) Unit):=λ(s1,s2,s3)=>
 if s3<(t0.length:Int)then
  eaa (α:=((List Int)×Bool)) (
   eaa (α:=Bool) (
    if s2=false then
     (idx t0 s3).bind λx6=>
     some (decide (t1<=x6))
    else
    some false) λj7=>
   if j7=true then
    eaa (α:=(List Int)) (
     (idx t0 s3).bind λx9=>
     if t1<x9 then
      (app 8 s1 ([t1])).bind λx11=>
      some x11
     else
     some s1) λj12=>
    some (j12,true)
   else
   some (s1,s2)) λ(j13,j14)=>
  (idx t0 s3).bind λx15=>
  (app 8 j13 ([x15])).bind λx16=>
  some (Ex.go (x16,j14,(da .i64 (s3+1))))
 else
 some (Ex.brk (s1,s2))
def wj(t0:List Int) (t1:Int):Option (List Int):=
 (fa (xv t0 t1) (([]:List Int),false,0)).bind λy=>match y with
 |.inr _=>none
 |.inl (b20,b21)=>
 eaa (α:=(List Int)) (
  if b21=false then
   (app 8 b20 ([t1])).bind λx23=>
   some x23
  else
  some b20) λj24=>
 some j24
def Ur(t0:GScope) (t1:Int):Option Bool:=
 eaa (α:=Bool) (
  if 0<=t1 then
   some (decide (t1<(t0.Defs.length:Int)))
  else
  some false) λj2=>
 some j2
def Oj(t0:List Int) (t1:Int):((List Int)×Bool×Int)->Option (Ex ((List Int)×Bool×Int) ((List Int)×Bool) Unit):=λ(s1,s2,s3)=>
 if s3<(t0.length:Int)then
  eaa (α:=((List Int)×Bool)) (
   eaa (α:=Bool) (
    if s2=false then
     (idx t0 s3).bind λx6=>
     some (decide (t1<=x6))
    else
    some false) λj7=>
   if j7=true then
    eaa (α:=(List Int)) (
     (idx t0 s3).bind λx9=>
     if t1<x9 then
      (app 8 s1 ([t1])).bind λx11=>
      some x11
     else
     some s1) λj12=>
    some (j12,true)
   else
   some (s1,s2)) λ(j13,j14)=>
  (idx t0 s3).bind λx15=>
  (app 8 j13 ([x15])).bind λx16=>
  some (Ex.go (x16,j14,(da .i64 (s3+1))))
 else
 some (Ex.brk (s1,s2))
def sj(t0:List Int) (t1:Int):Option (List Int):=
 (fa (Oj t0 t1) (([]:List Int),false,0)).bind λy=>match y with
 |.inr _=>none
 |.inl (b20,b21)=>
 eaa (α:=(List Int)) (
  if b21=false then
   (app 8 b20 ([t1])).bind λx23=>
   some x23
  else
  some b20) λj24=>
 some j24
def Cf(t0:List GNode):((List Int)×(List Int)×(List Int)×Int)->Option (Ex ((List Int)×(List Int)×(List Int)×Int) ((List Int)×(List Int)×(List Int)) Unit):=λ(s1,s2,s3,s4)=>
 if s4<(t0.length:Int)then
  eaa (α:=((List Int)×(List Int)×(List Int))) (
   (idx t0 s4).bind λx6=>
   eaa (α:=(List Int)) (
    if x6.Op=7 then
     (sj s1 x6.N).bind λx8=>
     some x8
    else
    some s1) λj9=>
   eaa (α:=(List Int)) (
    if x6.Op=8 then
     (sj s2 x6.N).bind λx11=>
     some x11
    else
    some s2) λj12=>
   eaa (α:=Bool) (
    if 36<=x6.Op then
     some (decide (x6.Op<=39))
    else
    some false) λj14=>
   if j14=true then
    (sj s3 x6.N).bind λx16=>
    some (j9,j12,x16)
   else
   some (j9,j12,s3)) λ(j17,j18,j19)=>
  some (Ex.go (j17,j18,j19,(da .i64 (s4+1))))
 else
 some (Ex.brk (s1,s2,s3))
def Xf(t0:List GNode):Option ((List Int)×(List Int)×(List Int)):=
 (fa (Cf t0) (([]:List Int),([]:List Int),([]:List Int),0)).bind λy=>match y with
 |.inr _=>none
 |.inl (b24,b25,b26)=>
 some (b24,b25,b26)
def gm(t0:GScope) (x8:((List Int)×(List Int)×(List Int))):((List Int)×Int)->Option (Ex ((List Int)×Int) (List Int) Unit):=λ(s10,s11)=>
 if s11<(x8.2.1.length:Int)then
  eaa (α:=(List Int)) (
   (idx x8.2.1 s11).bind λx13=>
   (Ur t0 x13).bind λx14=>
   if x14=true then
    (wj s10 x13).bind λx16=>
    some x16
   else
   some s10) λj17=>
  some (Ex.go (j17,(da .i64 (s11+1))))
 else
 some (Ex.brk s10)
def fm(t0:GScope) (x9:((List Int)×(List Int)×(List Int))):((List Int)×Int)->Option (Ex ((List Int)×Int) (List Int) Unit):=λ(s21,s22)=>
 if s22<(x9.2.1.length:Int)then
  eaa (α:=(List Int)) (
   (idx x9.2.1 s22).bind λx24=>
   (Ur t0 x24).bind λx25=>
   if x25=true then
    (wj s21 x24).bind λx27=>
    some x27
   else
   some s21) λj28=>
  some (Ex.go (j28,(da .i64 (s22+1))))
 else
 some (Ex.brk s21)
def Vi(t0:GScope) (t1:Int):((List Int)×Int)->Option (Ex ((List Int)×Int) (List Int) Unit):=λ(s3,s4)=>
 if s4<(t0.Rules.length:Int)then
  eaa (α:=(List Int)) (
   (idx t0.Rules s4).bind λx6=>
   if¬x6.Def=t1 then
    some s3
   else
   (Xf x6.Guard).bind λx8=>
   (Xf x6.Value).bind λx9=>
   (fa (gm t0 x8) (s3,0)).bind λy=>match y with
   |.inr _=>none
   |.inl b20=>
   (fa (fm t0 x9) (b20,0)).bind λy=>match y with
   |.inr _=>none
   |.inl b31=>
   some b31) λj32=>
  some (Ex.go (j32,(da .i64 (s4+1))))
 else
 some (Ex.brk s3)
def cm(t0:GScope) (t1:Int):Option (List Int):=
 (Ur t0 t1).bind λx1=>
 if x1=false then
  some ([])
 else
 (fa (Vi t0 t1) (([]:List Int),0)).bind λy=>match y with
 |.inr _=>none
 |.inl b35=>
 some b35
def Re(x9:List Int):((List Int)×Int)->Option (Ex ((List Int)×Int) (List Int) Unit):=λ(s10,s11)=>
 if s11<(x9.length:Int)then
  (idx x9 s11).bind λx13=>
  (wj s10 x13).bind λx14=>
  some (Ex.go (x14,(da .i64 (s11+1))))
 else
 some (Ex.brk s10)
def Se(t0:GScope) (s2:List Int):((List Int)×Int)->Option (Ex ((List Int)×Int) (List Int) Unit):=λ(s5,s6)=>
 if s6<(s2.length:Int)then
  (idx s2 s6).bind λx8=>
  (cm t0 x8).bind λx9=>
  (fa (Re x9) (s5,0)).bind λy=>match y with
  |.inr _=>none
  |.inl b17=>
  some (Ex.go (b17,(da .i64 (s6+1))))
 else
 some (Ex.brk s5)
def Te(t0:GScope):((List Int)×Int)->Option (Ex ((List Int)×Int) (List Int) Unit):=λ(s2,s3)=>
 if s3<(t0.Defs.length:Int)then
  (fa (Se t0 s2) (s2,0)).bind λy=>match y with
  |.inr _=>none
  |.inl b20=>
  some (Ex.go (b20,(da .i64 (s3+1))))
 else
 some (Ex.brk s2)
def Wi(t0:GScope) (t1:Int):Option (List Int):=
 (cm t0 t1).bind λx1=>
 (fa (Te t0) (x1,0)).bind λy=>match y with
 |.inr _=>none
 |.inl b23=>
 some b23
def Ve(t0:GLaw) (t1:Int) (x1:GScope):Int->Option (Ex Int Unit GLawError):=λs16=>
 if s16<(x1.Rules.length:Int)then
  (Tj t0 t1 s16).bind λx18=>
  if¬x18=0 then
   some (Ex.ret (GLawError.mk x18 3 t1 (da .i64 (300+s16))))
  else
  some (Ex.go (da .i64 (s16+1)))
 else
 some (Ex.brk ())
def Ff(t1:Int) (s21:Int) (x23:List Int):Int->Option (Ex Int Unit (Ex Int Unit GLawError)):=λs24=>
 if s24<(x23.length:Int)then
  (idx x23 s24).bind λx26=>
  if x26=s21 then
   some (Ex.ret (Ex.ret (GLawError.mk 9 3 t1 (da .i64 (200+s21)))))
  else
  some (Ex.go (da .i64 (s24+1)))
 else
 some (Ex.brk ())
def Ue(t1:Int) (x1:GScope):Int->Option (Ex Int Unit GLawError):=λs21=>
 if s21<(x1.Defs.length:Int)then
  (Wi x1 s21).bind λx23=>
  (fa (Ff t1 s21 x23) 0).bind λy=>match y with
  |.inr v=>some v
  |.inl _=>
  some (Ex.go (da .i64 (s21+1)))
 else
 some (Ex.brk ())
def aj(t0:GLaw) (t1:Int):Option GLawError:=
 (idx t0.Scopes t1).bind λx1=>
 (jb x1.Name).bind λx2=>
 if x2=false then
  some (GLawError.mk 2 3 t1 0)
 else
 (Xb t0 3 t1 x1.Name).bind λx4=>
 if x4=true then
  some (GLawError.mk 7 3 t1 0)
 else
 eaa (α:=Bool) (
  if¬x1.MemberScope=(-1)then
   if¬x1.MemberScope<0 then
    if¬t1<=x1.MemberScope then
     (idx t0.Scopes x1.MemberScope).bind λx9=>
     some (x9.MemberScope !=(-1))
    else
    some true
   else
   some true
  else
  some false) λj10=>
 if j10=true then
  some (GLawError.mk 6 3 t1 0)
 else
 if 12<(x1.Inputs.length:Int)then
  some (GLawError.mk 4 3 t1 112)
 else
 if 12<(x1.Defs.length:Int)then
  some (GLawError.mk 4 3 t1 212)
 else
 (Xi t0 t1).bind λx14=>
 if¬x14.Code=0 then
  some x14
 else
 (fa (Ve t0 t1 x1) 0).bind λy=>match y with
 |.inr v=>some v
 |.inl _=>
 (fa (Ue t1 x1) 0).bind λy=>match y with
 |.inr v=>some v
 |.inl _=>
 some (GLawError.mk 0 0 0 0)
def Oh(t0:GLaw):Int->Option (Ex Int Unit GLawError):=λs2=>
 if s2<(t0.Enums.length:Int)then
  (Rj t0 s2).bind λx4=>
  if¬x4.Code=0 then
   some (Ex.ret x4)
  else
  some (Ex.go (da .i64 (s2+1)))
 else
 some (Ex.brk ())
def Nh(t0:GLaw):Int->Option (Ex Int Unit GLawError):=λs8=>
 if s8<(t0.Tables.length:Int)then
  (bj t0 s8).bind λx10=>
  if¬x10.Code=0 then
   some (Ex.ret x10)
  else
  some (Ex.go (da .i64 (s8+1)))
 else
 some (Ex.brk ())
def Mh(t0:GLaw):Int->Option (Ex Int Unit GLawError):=λs14=>
 if s14<(t0.Scopes.length:Int)then
  (aj t0 s14).bind λx16=>
  if¬x16.Code=0 then
   some (Ex.ret x16)
  else
  some (Ex.go (da .i64 (s14+1)))
 else
 some (Ex.brk ())
def Fl(t0:GLaw):Option GLawError:=
 if 8<(t0.Enums.length:Int)then
  some (GLawError.mk 4 1 8 0)
 else
 (fa (Oh t0) 0).bind λy=>match y with
 |.inr v=>some v
 |.inl _=>
 if 8<(t0.Tables.length:Int)then
  some (GLawError.mk 4 2 8 0)
 else
 (fa (Nh t0) 0).bind λy=>match y with
 |.inr v=>some v
 |.inl _=>
 if 4<(t0.Scopes.length:Int)then
  some (GLawError.mk 4 3 4 0)
 else
 (fa (Mh t0) 0).bind λy=>match y with
 |.inr v=>some v
 |.inl _=>
 some (GLawError.mk 0 0 0 0)
def Oi(t0:GDateRange) (t1:Int):Option Bool:=
 eaa (α:=Bool) (
  (Ch t0).bind λx1=>
  if x1=true then
   if t0.From<=t1 then
    some (decide (t1<t0.To))
   else
   some false
  else
  some false) λj4=>
 some j4
def Ui(t0:GScope) (t1:Int) (t2:Int):((List Int)×Int)->Option (Ex ((List Int)×Int) (List Int) Unit):=λ(s1,s2)=>
 if s2<(t0.Rules.length:Int)then
  eaa (α:=(List Int)) (
   eaa (α:=Bool) (
    (idx t0.Rules s2).bind λx4=>
    if x4.Def=t1 then
     (Oi x4.Valid t2).bind λx6=>
     some x6
    else
    some false) λj7=>
   if j7=true then
    (app 8 s1 ([s2])).bind λx9=>
    some x9
   else
   some s1) λj10=>
  some (Ex.go (j10,(da .i64 (s2+1))))
 else
 some (Ex.brk s1)
def oi(t0:GScope) (t1:Int) (t2:Int):Option (List Int):=
 (fa (Ui t0 t1 t2) (([]:List Int),0)).bind λy=>match y with
 |.inr _=>none
 |.inl b13=>
 some b13
def Hq(t0:GScope) (x1:List Int):((List (List GNode))×Int)->Option (Ex ((List (List GNode))×Int) (List (List GNode)) Unit):=λ(s2,s3)=>
 if s3<(x1.length:Int)then
  eaa (α:=(List (List GNode))) (
   (idx x1 s3).bind λx5=>
   (idx t0.Rules x5).bind λx6=>
   if 0<(x6.Guard.length:Int)then
    (app 24 s2 ([x6.Guard])).bind λx8=>
    some x8
   else
   some s2) λj9=>
  some (Ex.go (j9,(da .i64 (s3+1))))
 else
 some (Ex.brk s2)
def Co(t0:GScope) (t1:Int) (t2:Int):Option (List (List GNode)):=
 (oi t0 t1 t2).bind λx1=>
 (fa (Hq t0 x1) (([]:List (List GNode)),0)).bind λy=>match y with
 |.inr _=>none
 |.inl b12=>
 some b12
def Yf(t0:Int):Option Bool:=
 eaa (α:=Bool) (
  if 19<=t0 then
   some (decide (t0<=22))
  else
  some false) λj2=>
 some j2
def si(t0:Int):Option Bool:=
 eaa (α:=Bool) (
  if 2<=t0 then
   some (decide (t0<=6))
  else
  some false) λj2=>
 some j2
def ko(x1:((List Int)×Int×Int)):((List Int)×Int×Int)->Option (Ex ((List Int)×Int×Int) (List Int) Unit):=λ(s9,s10,s11)=>
 if 0<=s11 then
  (idx s9 s11).bind λx13=>
  (put s9 s11 s10).bind λx14=>
  (idx x1.1 s10).bind λx15=>
  some (Ex.go (x14,(da .i64 (x15-1)),(da .i64 (s11-1))))
 else
 some (Ex.brk s9)
def Qi(t0:List GNode) (t1:Int):Option (List Int):=
 (tf t0).bind λx1=>
 eaa (α:=Bool) (
  if x1.2.2=0 then
   if¬t1<0 then
    some (decide ((t0.length:Int)<=t1))
   else
   some true
  else
  some true) λj4=>
 if j4=true then
  some ([])
 else
 (idx t0 t1).bind λx6=>
 (kj x6.Op).bind λx7=>
 (GD 8 0 x7 x7).bind λx8=>
 (fa (ko x1) (x8,(da .i64 (t1-1)),(da .i64 (x7-1)))).bind λy=>match y with
 |.inr _=>none
 |.inl b19=>
 some b19
def km(t0:List GNode) (t1:Int):Option (GNode×GNode×Bool):=
 (Qi t0 t1).bind λx1=>
 eaa (α:=Bool) (
  (idx t0 t1).bind λx2=>
  (Yf x2.Op).bind λx3=>
  if x3=true then
   some ((x1.length:Int) !=2)
  else
  some true) λj5=>
 if j5=true then
  some ((GNode.mk 0 0),(GNode.mk 0 0),false)
 else
 (idx x1 0).bind λx7=>
 (idx t0 x7).bind λx8=>
 (idx x1 1).bind λx9=>
 (idx t0 x9).bind λx10=>
 eaa (α:=Bool) (
  if x8.Op=7 then
   (si x10.Op).bind λx12=>
   some x12
  else
  some false) λj13=>
 if j13=true then
  some (x8,x10,true)
 else
 eaa (α:=Bool) (
  if x10.Op=7 then
   (si x8.Op).bind λx16=>
   some x16
  else
  some false) λj17=>
 if j17=true then
  some (x10,x8,true)
 else
 some ((GNode.mk 0 0),(GNode.mk 0 0),false)
def Vj(t0:List GNode):Int->Option (Ex Int Unit Bool):=λs5=>
 if s5<(t0.length:Int)then
  eaa (α:=(Unit⊕(Ex Int Unit Bool))) (
   (idx t0 s5).bind λx7=>
   (Yf x7.Op).bind λx8=>
   if x8=true then
    (km t0 s5).bind λx10=>
    if x10.2.2=false then
     some (Sum.inr (Ex.ret false))
    else
    some (Sum.inl ())
   else
   eaa (α:=Bool) (
    if¬x7.Op=1 then
     if¬x7.Op=23 then
      if¬x7.Op=24 then
       if¬x7.Op=25 then
        if¬x7.Op=7 then
         (si x7.Op).bind λx17=>
         some (!x17)
        else
        some false
       else
       some false
      else
      some false
     else
     some false
    else
    some false) λj18=>
   if j18=true then
    some (Sum.inr (Ex.ret false))
   else
   some (Sum.inl ())) λz=>match z with
  |.inr v=>some v
  |.inl _=>
  some (Ex.go (da .i64 (s5+1)))
 else
 some (Ex.brk ())
def im(t0:List GNode) (t1:GSignature):Option Bool:=
 (Zl t0 t1).bind λx1=>
 eaa (α:=Bool) (
  if x1.2.2=0 then
   some (!((x1.1.Kind==1)&&(x1.1.Enum==0)))
  else
  some true) λj3=>
 if j3=true then
  some false
 else
 (fa (Vj t0) 0).bind λy=>match y with
 |.inr v=>some v
 |.inl _=>
 some true
def Wj(t0:(List (List GNode))) (t1:Int) (s1:Int):Int->Option (Ex Int Unit (Ex Int Unit Bool)):=λs3=>
 (idx t0 s1).bind λx4=>
 if s3<(x4.length:Int)then
  eaa (α:=Bool) (
   (idx x4 s3).bind λx6=>
   if x6.Op=7 then
    some (x6.N==t1)
   else
   some false) λj8=>
  if j8=true then
   some (Ex.ret (Ex.ret true))
  else
  some (Ex.go (da .i64 (s3+1)))
 else
 some (Ex.brk ())
def Xj(t0:(List (List GNode))) (t1:Int):Int->Option (Ex Int Unit Bool):=λs1=>
 if s1<(t0.length:Int)then
  (fa (Wj t0 t1 s1) 0).bind λy=>match y with
  |.inr v=>some v
  |.inl _=>
  some (Ex.go (da .i64 (s1+1)))
 else
 some (Ex.brk ())
def Eo(t0:(List (List GNode))) (t1:Int):Option Bool:=
 (fa (Xj t0 t1) 0).bind λy=>match y with
 |.inr v=>some v
 |.inl _=>
 some false
def Mj(t0:List Int) (t1:Int):((List Int)×Int)->Option (Ex ((List Int)×Int) (List Int) Unit):=λ(s1,s2)=>
 if s2<(t0.length:Int)then
  eaa (α:=(List Int)) (
   (idx t0 s2).bind λx4=>
   if x4<t1 then
    (app 8 s1 ([x4])).bind λx6=>
    some x6
   else
   some s1) λj7=>
  some (Ex.go (j7,(da .i64 (s2+1))))
 else
 some (Ex.brk s1)
def Lj(t0:List Int) (t1:Int):((List Int)×Int)->Option (Ex ((List Int)×Int) (List Int) Unit):=λ(s12,s13)=>
 if s13<(t0.length:Int)then
  eaa (α:=(List Int)) (
   (idx t0 s13).bind λx15=>
   if t1<x15 then
    (app 8 s12 ([x15])).bind λx17=>
    some x17
   else
   some s12) λj18=>
  some (Ex.go (j18,(da .i64 (s13+1))))
 else
 some (Ex.brk s12)
def rj(t0:List Int) (t1:Int):Option (List Int):=
 (fa (Mj t0 t1) (([]:List Int),0)).bind λy=>match y with
 |.inr _=>none
 |.inl b10=>
 (app 8 b10 ([t1])).bind λx11=>
 (fa (Lj t0 t1) (x11,0)).bind λy=>match y with
 |.inr _=>none
 |.inl b21=>
 some b21
def qi(x1:(Int×Int)):((List Int)×Int)->Option (Ex ((List Int)×Int) (List Int) Unit):=λ(s6,s7)=>
 if s7<=x1.2 then
  (app 8 s6 ([s7])).bind λx9=>
  some (Ex.go (x9,(da .i64 (s7+1))))
 else
 some (Ex.brk s6)
def Yc(t2:List Int) (x1:(Int×Int)):((List Int)×Int)->Option (Ex ((List Int)×Int) (List Int) Unit):=λ(s13,s14)=>
 if s14<(t2.length:Int)then
  eaa (α:=(List Int)) (
   eaa (α:=Bool) (
    (idx t2 s14).bind λx16=>
    if x1.1<=x16 then
     some (decide (x16<=x1.2))
    else
    some false) λj18=>
   if j18=true then
    (idx t2 s14).bind λx20=>
    (rj s13 x20).bind λx21=>
    some x21
   else
   some s13) λj22=>
  some (Ex.go (j22,(da .i64 (s14+1))))
 else
 some (Ex.brk s13)
def je(t0:GType) (t1:List GEnum) (t2:List Int):Option (List Int):=
 (Fe t0 t1).bind λx1=>
 if x1.2<x1.1 then
  some ([])
 else
 eaa (α:=Bool) (
  if¬t0.Kind=1 then
   some (t0.Kind==6)
  else
  some true) λj4=>
 if j4=true then
  (fa (qi x1) (([]:List Int),x1.1)).bind λy=>match y with
  |.inr _=>none
  |.inl b12=>
  some b12
 else
 (fa (Yc t2 x1) ([x1.1],0)).bind λy=>match y with
 |.inr _=>none
 |.inl b25=>
 some b25
def Ig(t0:(List (List GNode))) (t1:Int) (s2:Int):((List Int)×Int)->Option (Ex ((List Int)×Int) (List Int) Unit):=λ(s4,s5)=>
 (idx t0 s2).bind λx6=>
 if s5<(x6.length:Int)then
  eaa (α:=(List Int)) (
   (km x6 s5).bind λx8=>
   eaa (α:=Bool) (
    if x8.2.2=true then
     if x8.1.N=t1 then
      some (x8.2.1.Op==6)
     else
     some true
    else
    some true) λj11=>
   if j11=true then
    some s4
   else
   (rj s4 x8.2.1.N).bind λx13=>
   if x8.2.1.N<(da .i64 (x8.2.1.N+1))then
    (rj x13 (da .i64 (x8.2.1.N+1))).bind λx15=>
    some x15
   else
   some x13) λj16=>
  some (Ex.go (j16,(da .i64 (s5+1))))
 else
 some (Ex.brk s4)
def Jg(t0:(List (List GNode))) (t1:Int):((List Int)×Int)->Option (Ex ((List Int)×Int) (List Int) Unit):=λ(s1,s2)=>
 if s2<(t0.length:Int)then
  (fa (Ig t0 t1 s2) (s1,0)).bind λy=>match y with
  |.inr _=>none
  |.inl b19=>
  some (Ex.go (b19,(da .i64 (s2+1))))
 else
 some (Ex.brk s1)
def Uj(t0:(List (List GNode))) (t1:Int):Option (List Int):=
 (fa (Jg t0 t1) (([]:List Int),0)).bind λy=>match y with
 |.inr _=>none
 |.inl b22=>
 some b22
def Gl(t0:(List (List Int))):Int->Option (Ex Int Unit Int):=λs1=>
 if s1<(t0.length:Int)then
  (idx t0 s1).bind λx3=>
  if(x3.length:Int)=0 then
   some (Ex.ret 0)
  else
  some (Ex.go (da .i64 (s1+1)))
 else
 some (Ex.brk ())
def Hg(t0:(List (List Int))):(Int×Int)->Option (Ex (Int×Int) Int Unit):=λ(s6,s7)=>
 eaa (α:=Bool) (
  if s7<(t0.length:Int)then
   some (decide (s6<=4096))
  else
  some false) λj9=>
 if j9=true then
  (idx t0 s7).bind λx11=>
  some (Ex.go ((da .i64 (s6*(x11.length:Int))),(da .i64 (s7+1))))
 else
 some (Ex.brk s6)
def kq(t0:(List (List Int))):Option Int:=
 (fa (Gl t0) 0).bind λy=>match y with
 |.inr v=>some v
 |.inl _=>
 (fa (Hg t0) (1,0)).bind λy=>match y with
 |.inr _=>none
 |.inl b14=>
 some (min b14 4097)
def Km(x13:(List (List GNode))) (x14:GSignature):Int->Option (Ex Int Unit ((List (List Int))×Int)):=λs15=>
 if s15<(x13.length:Int)then
  (idx x13 s15).bind λx17=>
  (im x17 x14).bind λx18=>
  if x18=false then
   some (Ex.ret ([],17))
  else
  some (Ex.go (da .i64 (s15+1)))
 else
 some (Ex.brk ())
def Jm(t0:GLaw) (x12:GScope) (x13:(List (List GNode))):((List (List Int))×Int)->Option (Ex ((List (List Int))×Int) (List (List Int)) Unit):=λ(s21,s22)=>
 if s22<(x12.Inputs.length:Int)then
  eaa (α:=(List (List Int))) (
   (Eo x13 s22).bind λx24=>
   if x24=true then
    (idx x12.Inputs s22).bind λx26=>
    (Uj x13 s22).bind λx27=>
    (je x26.Type_ t0.Enums x27).bind λx28=>
    (app 24 s21 ([x28])).bind λx29=>
    some x29
   else
   (app 24 s21 ([[0]])).bind λx30=>
   some x30) λj31=>
  some (Ex.go (j31,(da .i64 (s22+1))))
 else
 some (Ex.brk s21)
def qp(t0:GLaw) (t1:Int) (t2:Int) (t3:Int):Option ((List (List Int))×Int):=
 (Fl t0).bind λx1=>
 if¬x1.Code=0 then
  some ([],1)
 else
 eaa (α:=Bool) (
  if¬t1<0 then
   if¬(t0.Scopes.length:Int)<=t1 then
    if¬t2<0 then
     (idx t0.Scopes t1).bind λx6=>
     some (decide ((x6.Defs.length:Int)<=t2))
    else
    some true
   else
   some true
  else
  some true) λj7=>
 if j7=true then
  some ([],6)
 else
 eaa (α:=Bool) (
  if¬t3<0 then
   some (decide (109572<t3))
  else
  some true) λj10=>
 if j10=true then
  some ([],3)
 else
 (idx t0.Scopes t1).bind λx12=>
 (Co x12 t2 t3).bind λx13=>
 (dh t0 t1).bind λx14=>
 (fa (Km x13 x14) 0).bind λy=>match y with
 |.inr v=>some v
 |.inl _=>
 (fa (Jm t0 x12 x13) (([]:List (List Int)),0)).bind λy=>match y with
 |.inr _=>none
 |.inl b34=>
 (kq b34).bind λx35=>
 if 4096<x35 then
  some ([],4)
 else
 some (b34,0)
def Xn(x3:((List (List Int))×Int)):(Int×Int)->Option (Ex (Int×Int) Int Unit):=λ(s4,s5)=>
 eaa (α:=Bool) (
  if s5<(x3.1.length:Int)then
   some (decide (s4<=600))
  else
  some false) λj7=>
 if j7=true then
  (idx x3.1 s5).bind λx9=>
  some (Ex.go ((da .i64 (s4*(x9.length:Int))),(da .i64 (s5+1))))
 else
 some (Ex.brk s4)
def Yp(t0:GLaw) (t1:Int) (t2:Int) (t3:Int):Option Bool:=
 (Om t0).bind λx1=>
 if x1=false then
  some false
 else
 (qp t0 t1 t2 t3).bind λx3=>
 (fa (Xn x3) (1,0)).bind λy=>match y with
 |.inr _=>none
 |.inl b12=>
 some (decide (b12<=600))
def af(t0:GLaw) (t1:Int) (t2:Int) (t3:Int):Option GDeadrules_tree:=
 (idx t0.Scopes t1).bind λx1=>
 (Uf x1 t2 t3).bind λx2=>
 some (GDeadrules_tree.mk x1 t0.Tables t3 x2.1 x2.2.1 x2.2.2)
def zc(t0:GDeadrules_tree) (t1:List GValue):((List Bool)×Int)->Option (Ex ((List Bool)×Int) (List Bool) Unit):=λ(s2,s3)=>
 if s3<(t0.rules.length:Int)then
  eaa (α:=(List Bool)) (
   (idx t0.rules s3).bind λx5=>
   (idx t0.scope.Rules x5).bind λx6=>
   if(x6.Guard.length:Int)=0 then
    (idx s2 s3).bind λx8=>
    (put s2 s3 true).bind λx9=>
    some x9
   else
   (cc x6.Guard (GEnv.mk t0.date t1 ([]) ([]) ([]) t0.tables)).bind λx10=>
   if x10.2=0 then
    (idx s2 s3).bind λx12=>
    (put s2 s3 (x10.1.N==1)).bind λx13=>
    some x13
   else
   (idx s2 s3).bind λx14=>
   (put s2 s3 false).bind λx15=>
   some x15) λj16=>
  some (Ex.go (j16,(da .i64 (s3+1))))
 else
 some (Ex.brk s2)
def wc(t0:GDeadrules_tree) (t1:List GValue):Option Int:=
 (GD 1 false (t0.rules.length:Int) (t0.rules.length:Int)).bind λx1=>
 (fa (zc t0 t1) (x1,0)).bind λy=>match y with
 |.inr _=>none
 |.inl b19=>
 (Zj t0.parents t0.priorities b19).bind λx20=>
 some x20
def oj(x1:((List (List Int))×Int)) (x3:GDeadrules_tree) (s7:List Int):((List GValue)×Int)->Option (Ex ((List GValue)×Int) (List GValue) Unit):=λ(s10,s11)=>
 if s11<(x3.scope.Inputs.length:Int)then
  (idx x3.scope.Inputs s11).bind λx13=>
  (idx x1.1 s11).bind λx14=>
  (idx s7 s11).bind λx15=>
  (idx x14 x15).bind λx16=>
  (app 24 s10 ([(GValue.mk x13.Type_.Kind x13.Type_.Enum x16)])).bind λx17=>
  some (Ex.go (x17,(da .i64 (s11+1))))
 else
 some (Ex.brk s10)
def mj(x1:((List (List Int))×Int)) (x3:GDeadrules_tree) (s7:List Int):Option (List GValue):=
 (fa (oj x1 x3 s7) (([]:List GValue),0)).bind λy=>match y with
 |.inr _=>none
 |.inl b20=>
 some b20
def Ym(x1:((List (List Int))×Int)):((List Int)×Int)->Option (Ex ((List Int)×Int) (List Int) ((List Int)×Bool)):=λ(s27,s28)=>
 if 0<=s28 then
  (idx s27 s28).bind λx30=>
  (put s27 s28 (da .i64 (x30+1))).bind λx31=>
  (idx x31 s28).bind λx32=>
  (idx x1.1 s28).bind λx33=>
  if x32<(x33.length:Int)then
   some (Ex.ret (x31,true))
  else
  (put x31 s28 0).bind λx35=>
  some (Ex.go (x35,(da .i64 (s28-1))))
 else
 some (Ex.brk s27)
def nj(x1:((List (List Int))×Int)) (s7:List Int):Option ((List Int)×Bool):=
 (fa (Ym x1) (s7,(da .i64 ((s7.length:Int)-1)))).bind λy=>match y with
 |.inr v=>some v
 |.inl b38=>
 some (b38,false)
def ig(x1:((List (List Int))×Int)) (x3:GDeadrules_tree):((List Bool)×(List Int)×Bool)->Option (Ex ((List Bool)×(List Int)×Bool) (List Bool) Unit):=λ(s6,s7,s8)=>
 if s8=true then
  eaa (α:=(List Bool)) (
   (mj x1 x3 s7).bind λi21=>
   (wc x3 i21).bind λx22=>
   if 0<=x22 then
    (idx s6 x22).bind λx24=>
    (put s6 x22 true).bind λx25=>
    some x25
   else
   some s6) λj26=>
  (nj x1 s7).bind λ(i39,i40)=>
  some (Ex.go (j26,i39,i40))
 else
 some (Ex.brk s6)
def fg(x3:GDeadrules_tree) (b44:List Bool):((List Int)×Int)->Option (Ex ((List Int)×Int) (List Int) Unit):=λ(s45,s46)=>
 if s46<(x3.rules.length:Int)then
  eaa (α:=(List Int)) (
   (idx x3.rules s46).bind λx48=>
   (idx b44 s46).bind λx49=>
   if x49=false then
    (app 8 s45 ([x48])).bind λx51=>
    some x51
   else
   some s45) λj52=>
  some (Ex.go (j52,(da .i64 (s46+1))))
 else
 some (Ex.brk s45)
def Cd(t0:GLaw) (t1:Int) (t2:Int) (t3:Int):Option ((List Int)×Int):=
 (fk t0 t1 t2 t3).bind λx1=>
 if¬x1.2=0 then
  some ([],x1.2)
 else
 (af t0 t1 t2 t3).bind λx3=>
 (GD 1 false (x3.rules.length:Int) (x3.rules.length:Int)).bind λx4=>
 (GD 8 0 (x1.1.length:Int) (x1.1.length:Int)).bind λx5=>
 (fa (ig x1 x3) (x4,x5,true)).bind λy=>match y with
 |.inr _=>none
 |.inl b44=>
 (fa (fg x3 b44) (([]:List Int),0)).bind λy=>match y with
 |.inr _=>none
 |.inl b55=>
 some (b55,0)
def Qg(x11:((List (List Int))×Int)) (x13:GDeadrules_tree) (s15:List Int):((List GValue)×Int)->Option (Ex ((List GValue)×Int) (List GValue) Unit):=λ(s18,s19)=>
 if s19<(x13.scope.Inputs.length:Int)then
  (idx x13.scope.Inputs s19).bind λx21=>
  (idx x11.1 s19).bind λx22=>
  (idx s15 s19).bind λx23=>
  (idx x22 x23).bind λx24=>
  (app 24 s18 ([(GValue.mk x21.Type_.Kind x21.Type_.Enum x24)])).bind λx25=>
  some (Ex.go (x25,(da .i64 (s19+1))))
 else
 some (Ex.brk s18)
def Og(x11:((List (List Int))×Int)) (x13:GDeadrules_tree) (s15:List Int):Option (List GValue):=
 (fa (Qg x11 x13 s15) (([]:List GValue),0)).bind λy=>match y with
 |.inr _=>none
 |.inl b28=>
 some b28
def nk(x11:((List (List Int))×Int)):((List Int)×Int)->Option (Ex ((List Int)×Int) (List Int) ((List Int)×Bool)):=λ(s35,s36)=>
 if 0<=s36 then
  (idx s35 s36).bind λx38=>
  (put s35 s36 (da .i64 (x38+1))).bind λx39=>
  (idx x39 s36).bind λx40=>
  (idx x11.1 s36).bind λx41=>
  if x40<(x41.length:Int)then
   some (Ex.ret (x39,true))
  else
  (put x39 s36 0).bind λx43=>
  some (Ex.go (x43,(da .i64 (s36-1))))
 else
 some (Ex.brk s35)
def Pg(x11:((List (List Int))×Int)) (s15:List Int):Option ((List Int)×Bool):=
 (fa (nk x11) (s15,(da .i64 ((s15.length:Int)-1)))).bind λy=>match y with
 |.inr v=>some v
 |.inl b46=>
 some (b46,false)
def Tc(t2:Int) (x11:((List (List Int))×Int)) (x13:GDeadrules_tree):((List Int)×Bool)->Option (Ex ((List Int)×Bool) Unit ((List GValue)×Bool×Int)):=λ(s15,s16)=>
 if s16=true then
  (Og x11 x13 s15).bind λi29=>
  (wc x13 i29).bind λx30=>
  eaa (α:=Bool) (
   if 0<=x30 then
    (idx x13.rules x30).bind λx32=>
    some (x32==t2)
   else
   some false) λj33=>
  if j33=true then
   some (Ex.ret (i29,true,0))
  else
  (Pg x11 s15).bind λ(i47,i48)=>
  some (Ex.go (i47,i48))
 else
 some (Ex.brk ())
def kc(t0:GLaw) (t1:Int) (t2:Int) (t3:Int):Option ((List GValue)×Bool×Int):=
 (Xl t0).bind λx1=>
 if¬x1.Code=0 then
  some ([],false,1)
 else
 eaa (α:=Bool) (
  if¬t1<0 then
   if¬(t0.Scopes.length:Int)<=t1 then
    if¬t2<0 then
     (idx t0.Scopes t1).bind λx6=>
     some (decide ((x6.Rules.length:Int)<=t2))
    else
    some true
   else
   some true
  else
  some true) λj7=>
 if j7=true then
  some ([],false,6)
 else
 (idx t0.Scopes t1).bind λx9=>
 (idx x9.Rules t2).bind λx10=>
 (fk t0 t1 x10.Def t3).bind λx11=>
 if¬x11.2=0 then
  some ([],false,x11.2)
 else
 (af t0 t1 x10.Def t3).bind λx13=>
 (GD 8 0 (x11.1.length:Int) (x11.1.length:Int)).bind λx14=>
 (fa (Tc t2 x11 x13) (x14,true)).bind λy=>match y with
 |.inr v=>some v
 |.inl _=>
 some ([],false,0)
def jr:Option GLaw:=some (Ji 3 [yv (iaa #[98,97,115,101]) (-1) [GNode.mk 7 0,GNode.mk 3 5,GNode.mk 21 0] 1,yv (iaa #[109,111,114,101]) 0 [GNode.mk 7 0,GNode.mk 3 9,GNode.mk 21 0] 1])
def bl  : Option Bool:=
 (jr).bind λx1=>
 (Cd x1 0 0 100).bind λx2=>
 (jr).bind λx3=>
 (kc x3 0 1 100).bind λx4=>
 (jr).bind λx5=>
 (kc x5 0 0 100).bind λx6=>
 eaa (α:=Bool) (
  (mr x2.1 ([0])).bind λx7=>
  if x7=true then
   if x2.2=0 then
    if x4.2.1=true then
     if x4.2.2=0 then
      if x6.2.1=false then
       if x6.2.2=0 then
        (tt x4.1 ([(GValue.mk 3 0 (-1000000000000000))])).bind λx14=>
        some x14
       else
       some false
      else
      some false
     else
     some false
    else
    some false
   else
   some false
  else
  some false) λj15=>
 some j15
def El(t0:List Int) (t1:Int):Int->Option (Ex Int Unit Int):=λs1=>
 if s1<(t0.length:Int)then
  (idx t0 s1).bind λx3=>
  if x3=t1 then
   some (Ex.ret s1)
  else
  some (Ex.go (da .i64 (s1+1)))
 else
 some (Ex.brk ())
def Dn(t0:List Int) (t1:Int):Option Int:=
 (fa (El t0 t1) 0).bind λy=>match y with
 |.inr v=>some v
 |.inl _=>
 some (-1)
def bh(t0:GScope) (t1:List Int):(Int×Int)->Option (Ex (Int×Int) Unit Int):=λ(s2,s3)=>
 eaa (α:=Bool) (
  if 0<=s3 then
   some (decide (s3<s2))
  else
  some false) λj5=>
 if j5=true then
  (Dn t1 s3).bind λx7=>
  if 0<=x7 then
   some (Ex.ret x7)
  else
  (idx t0.Rules s3).bind λx9=>
  some (Ex.go (s3,x9.Parent))
 else
 some (Ex.brk ())
def Bo(t0:GScope) (t1:List Int) (t2:Int):Option Int:=
 (idx t0.Rules t2).bind λx1=>
 (fa (bh t0 t1) (t2,x1.Parent)).bind λy=>match y with
 |.inr v=>some v
 |.inl _=>
 some (-1)
def Qj(t0:GScope) (x1:List Int):((List Int)×(List Int)×Int)->Option (Ex ((List Int)×(List Int)×Int) ((List Int)×(List Int)) Unit):=λ(s2,s3,s4)=>
 if s4<(x1.length:Int)then
  (idx x1 s4).bind λx6=>
  (Bo t0 x1 x6).bind λx7=>
  (app 8 s2 ([x7])).bind λx8=>
  (idx t0.Rules x6).bind λx9=>
  (app 8 s3 ([x9.Priority])).bind λx10=>
  some (Ex.go (x8,x10,(da .i64 (s4+1))))
 else
 some (Ex.brk (s2,s3))
def Ao(t0:GScope) (t1:Int) (t2:Int):Option ((List Int)×(List Int)×(List Int)):=
 (oi t0 t1 t2).bind λx1=>
 (fa (Qj t0 x1) (([]:List Int),([]:List Int),0)).bind λy=>match y with
 |.inr _=>none
 |.inl (b14,b15)=>
 some (x1,b14,b15)
def dr(t0:List GNode):Option ((List Int)×Int):=
 (tf t0).bind λx1=>
 some (x1.1,x1.2.2)
def ir(t0:Int):Option (Int×Int):=
 if t0=1 then
  some (0,1)
 else
 if t0=2 then
  some ((-1000000000000),1000000000000)
 else
 if t0=3 then
  some ((-1000000000000000),1000000000000000)
 else
 if t0=4 then
  some ((-1000000000),1000000000)
 else
 if t0=5 then
  some (0,109572)
 else
 if t0=6 then
  some (0,15)
 else
 some (0,(-1))
def Gb(t0:GValue):Option Bool:=
 (ir t0.Kind).bind λx1=>
 eaa (α:=Bool) (
  if¬t0.N<x1.1 then
   some (decide (x1.2<t0.N))
  else
  some true) λj3=>
 if j3=true then
  some false
 else
 if t0.Kind=6 then
  eaa (α:=Bool) (
   if 0<=t0.Enum then
    some (decide (t0.Enum<8))
   else
   some false) λj7=>
  some j7
 else
 some (t0.Enum==0)
def Hm(t0:Int):Option Bool:=
 eaa (α:=Bool) (
  if 1<=t0 then
   if¬t0<=8 then
    if 36<=t0 then
     some (decide (t0<=39))
    else
    some false
   else
   some true
  else
  if 36<=t0 then
   some (decide (t0<=39))
  else
  some false) λj5=>
 if j5=true then
  some true
 else
 eaa (α:=Bool) (
  if¬t0=14 then
   if¬t0=15 then
    if¬t0=16 then
     if¬t0=33 then
      some (t0==34)
     else
     some true
    else
    some true
   else
   some true
  else
  some true) λj11=>
 some j11
def so(t0:GNode) (t1:Int):Option Bool:=
 eaa (α:=Bool) (
  (kj t0.Op).bind λx1=>
  if x1=t1 then
   if¬t0.N=0 then
    (Hm t0.Op).bind λx4=>
    some (!x4)
   else
   some false
  else
  some true) λj5=>
 if j5=true then
  some false
 else
 eaa (α:=Bool) (
  if t0.Op=14 then
   some true
  else
  if t0.Op=15 then
   some true
  else
  some (t0.Op==16)) λj9=>
 if j9=true then
  eaa (α:=Bool) (
   if 0<=t0.N then
    some (decide (t0.N<=5))
   else
   some false) λj12=>
  some j12
 else
 if t0.Op=34 then
  eaa (α:=Bool) (
   if 0<=t0.N then
    some (decide ((Qaa t0.N 8)<=5))
   else
   some false) λj15=>
  some j15
 else
 if t0.Op=6 then
  some (decide (0<=t0.N))
 else
 some true
def jq(t0:GNode) (t1:GEnv):Option Bool:=
 if t0.Op=7 then
  eaa (α:=Bool) (
   if 0<=t0.N then
    some (decide (t0.N<(t1.Inputs.length:Int)))
   else
   some false) λj3=>
  some j3
 else
 if t0.Op=8 then
  eaa (α:=Bool) (
   if 0<=t0.N then
    if t0.N<(t1.Defs.length:Int)then
     (idx t1.Defs t0.N).bind λx7=>
     some (x7.Kind !=0)
    else
    some false
   else
   some false) λj8=>
  some j8
 else
 if t0.Op=33 then
  eaa (α:=Bool) (
   if 0<=t0.N then
    some (decide (t0.N<(t1.Tables.length:Int)))
   else
   some false) λj11=>
  some j11
 else
 if t0.Op=34 then
  some (decide ((da .i64 (Faa t0.N 8))<(t1.Tables.length:Int)))
 else
 eaa (α:=Bool) (
  if t0.Op=36 then
   some true
  else
  if t0.Op=37 then
   some true
  else
  if t0.Op=38 then
   some true
  else
  some (t0.Op==39)) λj16=>
 if j16=true then
  eaa (α:=Bool) (
   if 0<=t0.N then
    some (decide (t0.N<(t1.MemberTypes.length:Int)))
   else
   some false) λj19=>
  some j19
 else
 some true
def we(t0:Int) (t1:Int):Option (GValue×Int):=
 (Gb (GValue.mk t0 0 t1)).bind λx1=>
 if x1=false then
  some ((GValue.mk 0 0 0),3)
 else
 some ((GValue.mk t0 0 t1),0)
def Jp(t0:GNode) (t1:GEnv):Option (GValue×Int):=none
def mi(t0:GNode) (t1:GEnv):Option (GValue×Int):=
 if t0.Op=7 then
  (idx t1.Inputs t0.N).bind λx2=>
  (Gb x2).bind λx3=>
  if x3=false then
   some ((GValue.mk 0 0 0),8)
  else
  some (x2,0)
 else
 if t0.Op=8 then
  (idx t1.Defs t0.N).bind λx6=>
  (Gb x6).bind λx7=>
  if x7=false then
   some ((GValue.mk 0 0 0),8)
  else
  some (x6,0)
 else
 if t0.Op=9 then
  (we 5 t1.Date).bind λx10=>
  some (x10.1,x10.2)
 else
 if t0.Op=35 then
  (we 2 (t1.Members.length:Int)).bind λx12=>
  some (x12.1,x12.2)
 else
 if t0.Op=6 then
  (Gb (GValue.mk 6 (da .i64 (Faa t0.N 16)) (Qaa t0.N 16))).bind λx14=>
  if x14=false then
   some ((GValue.mk 0 0 0),3)
  else
  some ((GValue.mk 6 (da .i64 (Faa t0.N 16)) (Qaa t0.N 16)),0)
 else
 (we t0.Op t0.N).bind λx16=>
 some (x16.1,x16.2)
def vj(t0:Int):Option Bool:=
 eaa (α:=Bool) (
  if¬t0=2 then
   if¬t0=3 then
    some (t0==4)
   else
   some true
  else
  some true) λj3=>
 some j3
def Qe(t0:Bool):Option (GValue×Int):=
 eaa (α:=Int) (
  if t0=true then
   some 1
  else
  some 0) λj2=>
 some ((GValue.mk 1 0 j2),0)
def cr(t0:Int):Option Bool:=
 eaa (α:=Bool) (
  if(Qaa t0 4)=0 then
   if(Qaa t0 100)=0 then
    some ((Qaa t0 400)==0)
   else
   some true
  else
  some false) λj3=>
 some j3
def Bk(t0:Int) (t1:Int):Option Int:=
 if t1=2 then
  (cr t0).bind λx2=>
  if x2=true then
   some 29
  else
  some 28
 else
 eaa (α:=Bool) (
  if t1=4 then
   some true
  else
  if t1=6 then
   some true
  else
  if t1=9 then
   some true
  else
  some (t1==11)) λj7=>
 if j7=true then
  some 30
 else
 eaa (α:=Bool) (
  if t1=1 then
   some true
  else
  if t1=3 then
   some true
  else
  if t1=5 then
   some true
  else
  if t1=7 then
   some true
  else
  if t1=8 then
   some true
  else
  if t1=10 then
   some true
  else
  some (t1==12)) λj15=>
 if j15=true then
  some 31
 else
 some 0
def Yl(t0:Int):Option Int:=
 (cr t0).bind λx1=>
 if x1=true then
  some 366
 else
 some 365
def mw(t0:Int):Option Bool:=
 eaa (α:=Bool) (
  if 0<=t0 then
   some (decide (t0<=109572))
  else
  some false) λj2=>
 some j2
def jw  : (Int×Int)->Option (Ex (Int×Int) (Int×Int) Unit):=λ(s3,s4)=>
 (Yl s4).bind λx5=>
 if x5<=s3 then
  (Yl s4).bind λx7=>
  some (Ex.go ((da .i64 (s3-x7)),(da .i64 (s4+1))))
 else
 some (Ex.brk (s3,s4))
def iw(b11:Int):(Int×Int)->Option (Ex (Int×Int) (Int×Int) Unit):=λ(s12,s13)=>
 (Bk b11 s13).bind λx14=>
 if x14<=s12 then
  (Bk b11 s13).bind λx16=>
  some (Ex.go ((da .i64 (s12-x16)),(da .i64 (s13+1))))
 else
 some (Ex.brk (s12,s13))
def gw(t0:Int):Option (Int×Int×Int):=
 (mw t0).bind λx1=>
 if x1=false then
  some (0,0,0)
 else
 (fa jw (t0,1900)).bind λy=>match y with
 |.inr _=>none
 |.inl (b10,b11)=>
 (fa (iw b11) (b10,1)).bind λy=>match y with
 |.inr _=>none
 |.inl (b19,b20)=>
 some (b11,b20,(da .i64 (b19+1)))
def Uu(t0:GTable) (t1:Int) (t2:GValue):Option (GValue×Int):=none
def uy(t0:Int):Option Bool:=
 eaa (α:=Bool) (
  if 0<=t0 then
   some (decide (t0<=5))
  else
  some false) λj2=>
 some j2
def br(t0:Int) (t1:Int):Option Bool:=
 eaa (α:=Bool) (
  if¬t1<t0 then
   some (decide (t0<(da .i64 (-t1))))
  else
  some true) λj2=>
 some j2
def mn(t0:Int) (t1:Int):Option (Int×Int×Bool):=
 eaa (α:=Int) (
  if t1<0 then
   some (da .u64 ((da .u64 (da .i64 (-(da .i64 (t1+1)))))+1))
  else
  some (da .u64 t1)) λj2=>
 eaa (α:=Bool) (
  if 0<(da .i64 (da .u64 (Faa j2 1000000)))then
   (quo .i64 1000000000000000 (da .i64 (da .u64 (Faa j2 1000000)))).bind λx4=>
   some (decide (x4<t0))
  else
  some false) λj5=>
 if j5=true then
  some (0,0,false)
 else
 if 1000000000000000<(da .i64 ((da .i64 ((da .i64 (t0*(da .i64 (da .u64 (Faa j2 1000000)))))+(da .i64 ((da .i64 (Faa t0 1000000))*(da .i64 (Qaa j2 1000000))))))+(da .i64 (Faa (da .i64 ((Qaa t0 1000000)*(da .i64 (Qaa j2 1000000)))) 1000000))))then
  some (0,0,false)
 else
 if t1<0 then
  some ((da .i64 (-(da .i64 ((da .i64 ((da .i64 (t0*(da .i64 (da .u64 (Faa j2 1000000)))))+(da .i64 ((da .i64 (Faa t0 1000000))*(da .i64 (Qaa j2 1000000))))))+(da .i64 (Faa (da .i64 ((Qaa t0 1000000)*(da .i64 (Qaa j2 1000000)))) 1000000)))))),(da .i64 (-(Qaa (da .i64 ((Qaa t0 1000000)*(da .i64 (Qaa j2 1000000)))) 1000000))),true)
 else
 some ((da .i64 ((da .i64 ((da .i64 (t0*(da .i64 (da .u64 (Faa j2 1000000)))))+(da .i64 ((da .i64 (Faa t0 1000000))*(da .i64 (Qaa j2 1000000))))))+(da .i64 (Faa (da .i64 ((Qaa t0 1000000)*(da .i64 (Qaa j2 1000000)))) 1000000)))),(Qaa (da .i64 ((Qaa t0 1000000)*(da .i64 (Qaa j2 1000000)))) 1000000),true)
def Gp(t0:Int) (t1:Int) (t2:Int) (t3:Bool) (t4:Int):Option Int:=
 eaa (α:=(Bool×Bool)) (
  if t4=0 then
   if t3=true then
    some (true,(decide (0<t1)))
   else
   some (false,false)
  else
  if t4=1 then
   if t3=false then
    some (t3,(decide (0<t1)))
   else
   some (t3,false)
  else
  if t4=3 then
   some (t3,(decide (0<t1)))
  else
  if t4=4 then
   some (t3,(decide ((da .i64 (t2-t1))<=t1)))
  else
  if t4=5 then
   if¬(da .i64 (t2-t1))<t1 then
    if t1=(da .i64 (t2-t1))then
     some (t3,((Qaa t0 2)==1))
    else
    some (t3,false)
   else
   some (t3,true)
  else
  some (t3,false)) λ(j10,j11)=>
 eaa (α:=Int) (
  if j11=true then
   some (da .i64 (t0+1))
  else
  some t0) λj13=>
 if j10=true then
  some (da .i64 (-j13))
 else
 some j13
def su  : (Int×Int)->Option (Ex (Int×Int) (Int×Int) Unit):=λ(s1,s2)=>
 if s2<0 then
  some (Ex.go ((da .i64 (s1-1)),(da .i64 (s2+1000000))))
 else
 some (Ex.brk (s1,s2))
def ru  : (Int×Int)->Option (Ex (Int×Int) (Int×Int) Unit):=λ(s8,s9)=>
 if 1000000<=s9 then
  some (Ex.go ((da .i64 (s8+1)),(da .i64 (s9-1000000))))
 else
 some (Ex.brk (s8,s9))
def Kt(t0:Int) (t1:Int) (t2:Int):Option Int:=
 (fa su (t0,t1)).bind λy=>match y with
 |.inr _=>none
 |.inl (b6,b7)=>
 (fa ru (b6,b7)).bind λy=>match y with
 |.inr _=>none
 |.inl (b13,b14)=>
 if 0<=b13 then
  (Gp b13 b14 1000000 false t2).bind λx16=>
  some x16
 else
 if b14=0 then
  some b13
 else
 (Gp (da .i64 ((da .i64 (-b13))-1)) (da .i64 (1000000-b14)) 1000000 true t2).bind λx18=>
 some x18
def ft(t0:GTable) (t1:Int) (t2:Int):(Int×Int×Int)->Option (Ex (Int×Int×Int) (Int×Int) (Int×Int)):=λ(s8,s9,s10)=>
 if s10<(t0.Rows.length:Int)then
  eaa (α:=((Int×Int)⊕(Ex (Int×Int×Int) (Int×Int) (Int×Int)))) (
   (idx t0.Rows s10).bind λx12=>
   eaa (α:=Bool) (
    if¬(min x12.Hi t2)<=(max x12.Lo 0)then
     (Oi x12.Valid t1).bind λx14=>
     some (!x14)
    else
    some true) λj15=>
   if j15=true then
    some (Sum.inl (s8,s9))
   else
   (mn (da .i64 ((min x12.Hi t2)-(max x12.Lo 0))) x12.N).bind λx17=>
   if x17.2.2=false then
    some (Sum.inr (Ex.ret (0,3)))
   else
   some (Sum.inl ((da .i64 (s8+x17.1)),(da .i64 (s9+x17.2.1))))) λz=>match z with
  |.inr v=>some v
  |.inl (j19,j20)=>
  some (Ex.go (j19,j20,(da .i64 (s10+1))))
 else
 some (Ex.brk (s8,s9))
def Tr(t0:GTable) (t1:Int) (t2:Int) (t3:Int):Option (Int×Int):=
 (uy t3).bind λx1=>
 if x1=false then
  some (0,1)
 else
 eaa (α:=Bool) (
  if t0.Key.Kind=3/\t0.Key.Enum=0 then
   some (!((t0.Value.Kind==4)&&(t0.Value.Enum==0)))
  else
  some true) λj4=>
 if j4=true then
  some (0,8)
 else
 (br t2 1000000000000000).bind λx6=>
 if x6=true then
  some (0,3)
 else
 (fa (ft t0 t1 t2) (0,0,0)).bind λy=>match y with
 |.inr v=>some v
 |.inl (b24,b25)=>
 (Kt b24 b25 t3).bind λx26=>
 (br x26 1000000000000000).bind λx27=>
 if x27=true then
  some (0,3)
 else
 some (x26,0)
def vy(t0:Int) (t1:Int) (t2:Int):Option (GValue×Int):=
 if¬t2=0 then
  some ((GValue.mk 0 0 0),t2)
 else
 (we t0 t1).bind λx2=>
 some (x2.1,x2.2)
def bm(t0:GNode) (t1:GValue) (t2:GEnv):Option (GValue×Int):=
 if t0.Op=10 then
  (vj t1.Kind).bind λx2=>
  if x2=false then
   some ((GValue.mk 0 0 0),8)
  else
  (we t1.Kind (da .i64 (0-t1.N))).bind λx4=>
  some (x4.1,x4.2)
 else
 if t0.Op=25 then
  if¬t1.Kind=1 then
   some ((GValue.mk 0 0 0),8)
  else
  (Qe (t1.N==0)).bind λx7=>
  some (x7.1,x7.2)
 else
 eaa (α:=Bool) (
  if t0.Op=31 then
   some true
  else
  some (t0.Op==32)) λj9=>
 if j9=true then
  if¬t1.Kind=5 then
   some ((GValue.mk 0 0 0),8)
  else
  (gw t1.N).bind λx12=>
  if t0.Op=31 then
   (we 2 x12.1).bind λx14=>
   some (x14.1,x14.2)
  else
  (we 2 x12.2.1).bind λx15=>
  some (x15.1,x15.2)
 else
 if t0.Op=33 then
  (idx t2.Tables t0.N).bind λx17=>
  (Uu x17 t2.Date t1).bind λx18=>
  some (x18.1,x18.2)
 else
 (idx t2.Tables (da .i64 (Faa t0.N 8))).bind λx19=>
 eaa (α:=Bool) (
  if t1.Kind=3 then
   if x19.Key.Kind=3 then
    if x19.Key.Enum=0 then
     if x19.Value.Kind=4 then
      some (x19.Value.Enum !=0)
     else
     some true
    else
    some true
   else
   some true
  else
  some true) λj24=>
 if j24=true then
  some ((GValue.mk 0 0 0),8)
 else
 (Tr x19 t2.Date t1.N (Qaa t0.N 8)).bind λx26=>
 (vy 3 x26.1 x26.2).bind λx27=>
 some (x27.1,x27.2)
def Vu(t0:GNode) (t1:GValue) (t2:GValue):Option (GValue×Int):=none
def ow(t0:Int) (t1:GValue) (t2:GValue):Option (GValue×Int):=none
def Bg(t0:Int) (t1:GValue) (t2:GValue):Option (GValue×Int):=
 eaa (α:=Bool) (
  if t1.Kind=t2.Kind then
   some (t1.Enum !=t2.Enum)
  else
  some true) λj2=>
 if j2=true then
  some ((GValue.mk 0 0 0),8)
 else
 if t0=19 then
  (Qe (t1.N==t2.N)).bind λx5=>
  some (x5.1,x5.2)
 else
 if t0=20 then
  (Qe (t1.N !=t2.N)).bind λx7=>
  some (x7.1,x7.2)
 else
 eaa (α:=Bool) (
  if t0=23 then
   some true
  else
  some (t0==24)) λj9=>
 if j9=true then
  if¬t1.Kind=1 then
   some ((GValue.mk 0 0 0),8)
  else
  eaa (α:=(Int×Int×Int×Int)) (
   if¬(da .i64 (t1.N+t2.N))=2 then
    if t0=24 then
     (Qe ((da .i64 (t1.N+t2.N))==1)).bind λx14=>
     some (x14.1.Kind,x14.1.Enum,x14.1.N,x14.2)
    else
    (Qe false).bind λx15=>
    some (x15.1.Kind,x15.1.Enum,x15.1.N,x15.2)
   else
   (Qe true).bind λx16=>
   some (x16.1.Kind,x16.1.Enum,x16.1.N,x16.2)) λ(j17,j18,j19,j20)=>
  some ((GValue.mk j17 j18 j19),j20)
 else
 eaa (α:=Bool) (
  if t0=11 then
   some true
  else
  some (t0==12)) λj22=>
 if j22=true then
  (vj t1.Kind).bind λx24=>
  if x24=false then
   some ((GValue.mk 0 0 0),8)
  else
  if t0=11 then
   (we t1.Kind (da .i64 (t1.N+t2.N))).bind λx27=>
   some (x27.1,x27.2)
  else
  (we t1.Kind (da .i64 (t1.N-t2.N))).bind λx28=>
  some (x28.1,x28.2)
 else
 eaa (α:=Bool) (
  (vj t1.Kind).bind λx29=>
  if x29=false then
   some (t1.Kind !=5)
  else
  some false) λj31=>
 if j31=true then
  some ((GValue.mk 0 0 0),8)
 else
 if t0=21 then
  (Qe (decide (t1.N<t2.N))).bind λx34=>
  some (x34.1,x34.2)
 else
 if t0=22 then
  (Qe (decide (t1.N<=t2.N))).bind λx36=>
  some (x36.1,x36.2)
 else
 if(t0==17)=(decide (t1.N<t2.N))then
  some (t1,0)
 else
 some (t2,0)
def Ih(t0:GNode) (t1:GValue) (t2:GValue):Option (GValue×Int):=
 eaa (α:=Bool) (
  if 13<=t0.Op then
   some (decide (t0.Op<=16))
  else
  some false) λj2=>
 if j2=true then
  (Vu t0 t1 t2).bind λx4=>
  some (x4.1,x4.2)
 else
 if 27<=t0.Op then
  (ow t0.Op t1 t2).bind λx6=>
  some (x6.1,x6.2)
 else
 (Bg t0.Op t1 t2).bind λx7=>
 some (x7.1,x7.2)
def Ri(t1:List GValue):Int->Option (Ex Int Unit (GValue×Int)):=λs5=>
 if s5<(t1.length:Int)then
  (idx t1 s5).bind λx7=>
  (Gb x7).bind λx8=>
  if x8=false then
   some (Ex.ret ((GValue.mk 0 0 0),8))
  else
  some (Ex.go (da .i64 (s5+1)))
 else
 some (Ex.brk ())
def Bl(t0:GNode) (t1:List GValue) (t2:GEnv):Option (GValue×Int):=
 (so t0 (t1.length:Int)).bind λx1=>
 if x1=false then
  some ((GValue.mk 0 0 0),2)
 else
 (jq t0 t2).bind λx3=>
 if x3=false then
  some ((GValue.mk 0 0 0),6)
 else
 (fa (Ri t1) 0).bind λy=>match y with
 |.inr v=>some v
 |.inl _=>
 if(t1.length:Int)=0 then
  eaa (α:=Bool) (
   if 36<=t0.Op then
    some (decide (t0.Op<=39))
   else
   some false) λj13=>
  if j13=true then
   (Jp t0 t2).bind λx15=>
   some (x15.1,x15.2)
  else
  (mi t0 t2).bind λx16=>
  some (x16.1,x16.2)
 else
 if(t1.length:Int)=1 then
  (idx t1 0).bind λx18=>
  (bm t0 x18 t2).bind λx19=>
  some (x19.1,x19.2)
 else
 if(t1.length:Int)=2 then
  (idx t1 0).bind λx21=>
  (idx t1 1).bind λx22=>
  (Ih t0 x21 x22).bind λx23=>
  some (x23.1,x23.2)
 else
 (idx t1 0).bind λx24=>
 (idx t1 1).bind λx25=>
 (idx t1 2).bind λx26=>
 eaa (α:=Bool) (
  if x24.Kind=1 then
   if x25.Kind=x26.Kind then
    some (x25.Enum !=x26.Enum)
   else
   some true
  else
  some true) λj29=>
 if j29=true then
  some ((GValue.mk 0 0 0),8)
 else
 if x24.N=1 then
  some (x25,0)
 else
 some (x26,0)
def Si(t0:List GNode) (t2:GEnv) (x1:List Int) (R345:((List GNode)->Int->GEnv->Option (GValue×Int))):((List GValue)×Int)->Option (Ex ((List GValue)×Int) (List GValue) (GValue×Int)):=λ(s8,s9)=>
 if s9<(x1.length:Int)then
  (idx x1 s9).bind λx11=>
  (R345 t0 x11 t2).bind λx12=>
  if¬x12.2=0 then
   some (Ex.ret ((GValue.mk 0 0 0),x12.2))
  else
  (app 24 s8 ([x12.1])).bind λx14=>
  some (Ex.go (x14,(da .i64 (s9+1))))
 else
 some (Ex.brk s8)
def ni(R345:((List GNode)->Int->GEnv->Option (GValue×Int))) (R458:((List GNode)->Int->(List Int)->GEnv->Option (GValue×Int))) (t0:List GNode) (t1:Int) (t2:GEnv):Option (GValue×Int):=
 (Qi t0 t1).bind λx1=>
 (idx t0 t1).bind λx2=>
 eaa (α:=Bool) (
  if¬x2.Op=23 then
   if¬x2.Op=24 then
    some (x2.Op==26)
   else
   some true
  else
  some true) λj5=>
 if j5=true then
  (R458 t0 t1 x1 t2).bind λx7=>
  some (x7.1,x7.2)
 else
 (fa (Si t0 t2 x1 R345) (([]:List GValue),0)).bind λy=>match y with
 |.inr v=>some v
 |.inl b17=>
 (Bl x2 b17 t2).bind λx18=>
 some (x18.1,x18.2)
def uo(R345:((List GNode)->Int->GEnv->Option (GValue×Int))) (R458:((List GNode)->Int->(List Int)->GEnv->Option (GValue×Int))) (t0:List GNode) (t1:Int) (t2:List Int) (t3:GEnv):Option (GValue×Int):=
 (idx t0 t1).bind λx1=>
 if¬x1.N=0 then
  some ((GValue.mk 0 0 0),2)
 else
 (idx t2 0).bind λx3=>
 (R345 t0 x3 t3).bind λx4=>
 if¬x4.2=0 then
  some ((GValue.mk 0 0 0),x4.2)
 else
 eaa (α:=Bool) (
  if x4.1.Kind=1 then
   (Gb x4.1).bind λx7=>
   some (!x7)
  else
  some true) λj8=>
 if j8=true then
  some ((GValue.mk 0 0 0),8)
 else
 if x1.Op=26 then
  if x4.1.N=1 then
   (idx t2 1).bind λx12=>
   (R345 t0 x12 t3).bind λx13=>
   some (x13.1,x13.2)
  else
  (idx t2 2).bind λx14=>
  (R345 t0 x14 t3).bind λx15=>
  some (x15.1,x15.2)
 else
 if(x1.Op==23)=(x4.1.N==0)then
  some (x4.1,0)
 else
 (idx t2 1).bind λx17=>
 (R345 t0 x17 t3).bind λx18=>
 if¬x18.2=0 then
  some ((GValue.mk 0 0 0),x18.2)
 else
 eaa (α:=Bool) (
  if x18.1.Kind=1 then
   (Gb x18.1).bind λx21=>
   some (!x21)
  else
  some true) λj22=>
 if j22=true then
  some ((GValue.mk 0 0 0),8)
 else
 some (x18.1,0)
def Ba:Nat->((List GNode)->Int->GEnv->Option (GValue×Int))×((List GNode)->Int->(List Int)->GEnv->Option (GValue×Int))
 |0=>(λ_ _ _=>none,λ_ _ _ _=>none)
 |n+1=>(ni (Ba n).1 (Ba n).2,uo (Ba n).1 (Ba n).2)
def jt(t0:List GNode) (t1:Int) (t2:GEnv):Option (GValue×Int):=(Ba vd).1 t0 t1 t2
def SD(t0:List GNode) (t1:Int) (t2:List Int) (t3:GEnv):Option (GValue×Int):=(Ba vd).2 t0 t1 t2 t3
def lp(t0:List GNode) (t1:GEnv):Option (GValue×Int):=
 (dr t0).bind λx1=>
 if¬x1.2=0 then
  some ((GValue.mk 0 0 0),x1.2)
 else
 (jt t0 (da .i64 ((t0.length:Int)-1)) t1).bind λx3=>
 some (x3.1,x3.2)
def Kh(t0:List Int) (t1:List Int):Int->Option (Ex Int Unit Int):=λs3=>
 if s3<(t0.length:Int)then
  eaa (α:=Bool) (
   (idx t0 s3).bind λx5=>
   if¬x5<(-1)then
    some (decide (s3<=x5))
   else
   some true) λj7=>
  if j7=true then
   some (Ex.ret 9)
  else
  eaa (α:=Bool) (
   (idx t1 s3).bind λx9=>
   if¬x9<0 then
    some (decide (9<x9))
   else
   some true) λj11=>
  if j11=true then
   some (Ex.ret 3)
  else
  some (Ex.go (da .i64 (s3+1)))
 else
 some (Ex.brk ())
def Dl(t0:List Int) (t1:List Int):Option Int:=
 if¬(t0.length:Int)=(t1.length:Int)then
  some 2
 else
 if 8<(t0.length:Int)then
  some 4
 else
 (fa (Kh t0 t1) 0).bind λy=>match y with
 |.inr v=>some v
 |.inl _=>
 some 0
def Jh(t0:List Int) (t1:Int):((List Int)×Int)->Option (Ex ((List Int)×Int) (List Int) Unit):=λ(s1,s2)=>
 if s2<(t0.length:Int)then
  eaa (α:=(List Int)) (
   (idx t0 s2).bind λx4=>
   if x4=t1 then
    (app 8 s1 ([s2])).bind λx6=>
    some x6
   else
   some s1) λj7=>
  some (Ex.go (j7,(da .i64 (s2+1))))
 else
 some (Ex.brk s1)
def Cl(t0:List Int) (t1:Int):Option (List Int):=
 (fa (Jh t0 t1) ([],0)).bind λy=>match y with
 |.inr _=>none
 |.inl b10=>
 some b10
def Ti(R347:((List Int)->(List Int)->(List Bool)->Int->Option Int)) (R348:((List Int)->(List Int)->(List Bool)->Int->Option (List Int))) (R460:((List Int)->(List Int)->(List Bool)->Int->Option Int)) (t0:List Int) (t1:List Int) (t2:List Bool) (t3:Int):Option Int:=
 (R348 t0 t1 t2 t3).bind λx1=>
 if(x1.length:Int)=0 then
  some (-1)
 else
 if 1<(x1.length:Int)then
  some (-2)
 else
 (idx x1 0).bind λx4=>
 (R460 t0 t1 t2 x4).bind λx5=>
 some x5
def Kp(t0:List Int) (t1:List Int) (t2:List Bool) (x1:List Int) (R460:((List Int)->(List Int)->(List Bool)->Int->Option Int)):((List Int)×Int)->Option (Ex ((List Int)×Int) (List Int) Unit):=λ(s2,s3)=>
 if s3<(x1.length:Int)then
  eaa (α:=(List Int)) (
   (idx x1 s3).bind λx5=>
   (R460 t0 t1 t2 x5).bind λx6=>
   if x6=(-1)then
    some s2
   else
   eaa (α:=(List Int)) (
    eaa (α:=Bool) (
     if 0<(s2.length:Int)then
      (idx t1 x5).bind λx9=>
      (idx s2 0).bind λx10=>
      (idx t1 x10).bind λx11=>
      some (decide (x11<x9))
     else
     some false) λj12=>
    if j12=true then
     some ([])
    else
    some s2) λj14=>
   eaa (α:=Bool) (
    if¬(j14.length:Int)=0 then
     (idx t1 x5).bind λx16=>
     (idx j14 0).bind λx17=>
     (idx t1 x17).bind λx18=>
     some (x16==x18)
    else
    some true) λj19=>
   if j19=true then
    (app 8 j14 ([x5])).bind λx21=>
    some x21
   else
   some j14) λj22=>
  some (Ex.go (j22,(da .i64 (s3+1))))
 else
 some (Ex.brk s2)
def wo(R347:((List Int)->(List Int)->(List Bool)->Int->Option Int)) (R348:((List Int)->(List Int)->(List Bool)->Int->Option (List Int))) (R460:((List Int)->(List Int)->(List Bool)->Int->Option Int)) (t0:List Int) (t1:List Int) (t2:List Bool) (t3:Int):Option (List Int):=
 (Cl t0 t3).bind λx1=>
 (fa (Kp t0 t1 t2 x1 R460) ([],0)).bind λy=>match y with
 |.inr _=>none
 |.inl b25=>
 some b25
def Pj(R347:((List Int)->(List Int)->(List Bool)->Int->Option Int)) (R348:((List Int)->(List Int)->(List Bool)->Int->Option (List Int))) (R460:((List Int)->(List Int)->(List Bool)->Int->Option Int)) (t0:List Int) (t1:List Int) (t2:List Bool) (t3:Int):Option Int:=
 (R347 t0 t1 t2 t3).bind λx1=>
 eaa (α:=Bool) (
  if x1=(-1)then
   (idx t2 t3).bind λx3=>
   some x3
  else
  some false) λj4=>
 if j4=true then
  some t3
 else
 some x1
def ma:Nat->((List Int)->(List Int)->(List Bool)->Int->Option Int)×((List Int)->(List Int)->(List Bool)->Int->Option (List Int))×((List Int)->(List Int)->(List Bool)->Int->Option Int)
 |0=>(λ_ _ _ _=>none,λ_ _ _ _=>none,λ_ _ _ _=>none)
 |n+1=>(Ti (ma n).1 (ma n).2.1 (ma n).2.2,wo (ma n).1 (ma n).2.1 (ma n).2.2,Pj (ma n).1 (ma n).2.1 (ma n).2.2)
def xo(t0:List Int) (t1:List Int) (t2:List Bool) (t3:Int):Option Int:=(ma vd).1 t0 t1 t2 t3
def VD(t0:List Int) (t1:List Int) (t2:List Bool) (t3:Int):Option (List Int):=(ma vd).2.1 t0 t1 t2 t3
def Lx(t0:List Int) (t1:List Int) (t2:List Bool) (t3:Int):Option Int:=(ma vd).2.2 t0 t1 t2 t3
def vo(t0:List Int) (t1:List Int) (t2:List Bool):Option Int:=
 eaa (α:=Bool) (
  (Dl t0 t1).bind λx1=>
  if x1=0 then
   some ((t2.length:Int) !=(t0.length:Int))
  else
  some true) λj3=>
 if j3=true then
  some (-1)
 else
 (xo t0 t1 t2 (-1)).bind λx5=>
 some x5
def Qh(t0:GScope) (t2:Int) (t3:List GValue) (x1:((List Int)×(List Int)×(List Int))):((List Bool)×Int)->Option (Ex ((List Bool)×Int) (List Bool) Unit):=λ(s2,s3)=>
 if s3<(x1.1.length:Int)then
  eaa (α:=(List Bool)) (
   (idx x1.1 s3).bind λx5=>
   (idx t0.Rules x5).bind λx6=>
   eaa (α:=(Int×Int×Int×Int)) (
    if 0<(x6.Guard.length:Int)then
     (lp x6.Guard (GEnv.mk t2 t3 ([]) ([]) ([]) ([]))).bind λx8=>
     some (x8.1.Kind,x8.1.Enum,x8.1.N,x8.2)
    else
    some (0,0,1,0)) λ(j9,j10,j11,j12)=>
   if j12=0 then
    (app 1 s2 ([(j11==1)])).bind λx14=>
    some x14
   else
   (app 1 s2 ([false])).bind λx15=>
   some x15) λj16=>
  some (Ex.go (j16,(da .i64 (s3+1))))
 else
 some (Ex.brk s2)
def Hl(t0:GScope) (t1:Int) (t2:Int) (t3:List GValue):Option Int:=
 (Ao t0 t1 t2).bind λx1=>
 (fa (Qh t0 t2 t3 x1) ([],0)).bind λy=>match y with
 |.inr _=>none
 |.inl b19=>
 (vo x1.2.1 x1.2.2 b19).bind λx20=>
 if x20<0 then
  some x20
 else
 (idx x1.1 x20).bind λx22=>
 some x22
def Fk(t0:GScope) (t1:(List (List Int))) (s2:List Int):((List GValue)×Int)->Option (Ex ((List GValue)×Int) (List GValue) Unit):=λ(s5,s6)=>
 if s6<(t1.length:Int)then
  (idx t0.Inputs s6).bind λx8=>
  (idx t1 s6).bind λx9=>
  (idx s2 s6).bind λx10=>
  (idx x9 x10).bind λx11=>
  (app 24 s5 ([(GValue.mk x8.Type_.Kind x8.Type_.Enum x11)])).bind λx12=>
  some (Ex.go (x12,(da .i64 (s6+1))))
 else
 some (Ex.brk s5)
def Dk(t0:GScope) (t1:(List (List Int))) (s2:List Int):Option (List GValue):=
 (fa (Fk t0 t1 s2) ([],0)).bind λy=>match y with
 |.inr _=>none
 |.inl b15=>
 some b15
def Gk(t1:(List (List Int))):((List Int)×Int)->Option (Ex ((List Int)×Int) (List Int) ((List Int)×Bool)):=λ(s20,s21)=>
 if 0<=s21 then
  (idx s20 s21).bind λx23=>
  (put s20 s21 (da .i64 (x23+1))).bind λx24=>
  (idx x24 s21).bind λx25=>
  (idx t1 s21).bind λx26=>
  if x25<(x26.length:Int)then
   some (Ex.ret (x24,true))
  else
  (put x24 s21 0).bind λx28=>
  some (Ex.go (x28,(da .i64 (s21-1))))
 else
 some (Ex.brk s20)
def Ek(t1:(List (List Int))) (s2:List Int):Option ((List Int)×Bool):=
 (fa (Gk t1) (s2,(da .i64 ((t1.length:Int)-1)))).bind λy=>match y with
 |.inr v=>some v
 |.inl b31=>
 some (b31,false)
def lf(t0:GScope) (t1:(List (List Int))) (t2:Int) (t3:Int):((List Int)×Bool)->Option (Ex ((List Int)×Bool) Unit ((List GValue)×Bool)):=λ(s2,s3)=>
 if s3=true then
  (Dk t0 t1 s2).bind λi16=>
  (idx t0.Rules t2).bind λx17=>
  (Hl t0 x17.Def t3 i16).bind λx18=>
  if x18=t2 then
   some (Ex.ret (i16,true))
  else
  (Ek t1 s2).bind λ(i32,i33)=>
  some (Ex.go (i32,i33))
 else
 some (Ex.brk ())
def Mm(t0:GScope) (t1:(List (List Int))) (t2:Int) (t3:Int):Option ((List GValue)×Bool):=
 (GD 8 0 (t1.length:Int) (t1.length:Int)).bind λx1=>
 (fa (lf t0 t1 t2 t3) (x1,true)).bind λy=>match y with
 |.inr v=>some v
 |.inl _=>
 some ([],false)
def Lm(t3:Int) (x1:((List (List Int))×Int)) (x3:GScope) (x4:List Int):((List Int)×Int)->Option (Ex ((List Int)×Int) (List Int) Unit):=λ(s5,s6)=>
 if s6<(x4.length:Int)then
  eaa (α:=(List Int)) (
   (idx x4 s6).bind λx8=>
   (Mm x3 x1.1 x8 t3).bind λx9=>
   if x9.2=false then
    (app 8 s5 ([x8])).bind λx11=>
    some x11
   else
   some s5) λj12=>
  some (Ex.go (j12,(da .i64 (s6+1))))
 else
 some (Ex.brk s5)
def nn(t0:GLaw) (t1:Int) (t2:Int) (t3:Int):Option ((List Int)×Int):=
 (qp t0 t1 t2 t3).bind λx1=>
 if¬x1.2=0 then
  some ([],x1.2)
 else
 (idx t0.Scopes t1).bind λx3=>
 (oi x3 t2 t3).bind λx4=>
 (fa (Lm t3 x1 x3 x4) ([],0)).bind λy=>match y with
 |.inr _=>none
 |.inl b15=>
 some (b15,0)
def Bf(t0:GLaw) (t1:GA3):Option Bool:=
 (Yp t0 t1.I0 t1.I1 t1.I2).bind λx1=>
 if x1=false then
  (bl).bind λx3=>
  some x3
 else
 (Cd t0 t1.I0 t1.I1 t1.I2).bind λx4=>
 (nn t0 t1.I0 t1.I1 t1.I2).bind λx5=>
 eaa (α:=Bool) (
  (mr x4.1 x5.1).bind λx6=>
  if x6=true then
   if x4.2=x5.2 then
    (bl).bind λx9=>
    some x9
   else
   some false
  else
  some false) λj10=>
 some j10
end
end Go.Proofs.Dev
