/-
  The functions as plain partial functions, and plain lemmas about them: no condition.
-/
import Derived.Test.YtnlamdfggbdblaaGreatDoorEC
import Derived.Lib.SlicesCompact
open Bool renaming and_self->waa,and_true->paa
open ByteArray renaming mk->faa
open Eq renaming trans->daa
open Int renaming tdiv->Baa,tmod->Jaa
open List renaming range->uaa
open Option renaming bind->baa
set_option linter.all false
namespace Go.Tm
def Si:List Int->Int->List Int
 |[],n=>[n]
 |x::l,n=>if n<=x then(if n<x then n::x::l else x::l)else x::Si l n
def oe(l:List Int):List Int:=l.foldl Si []
inductive ReachL (g:List (List Int)):Int->Int->Prop
 |one {a b:Int} {l:List Int} (h:g[a.toNat]?=some l) (hb:b∈l):ReachL g a b
 |step {a b c:Int} {l:List Int} (h:ReachL g a b) (hl:g[b.toNat]?=some l) (hc:c∈l):ReachL g a c
open Classical in
noncomputable def GD(g:List (List Int)) (a:Int):List Int:=((uaa g.length).map λ(k:Nat)=>(k:Int)).filter λb=>decide (ReachL g a b)
@[irreducible] def Gc:Nat:=1000000
end Go.Tm
set_option maxHeartbeats 1000000
set_option maxRecDepth 10000
namespace Go.Proofs.Dev
open Go Go.Tm
def Df(x:ByteArray):D:=.v (.string x)
instance:Fr Df:=⟨λx=>by simp only[Df,na,ia,Fr.l,waa,paa]⟩
theorem oS{x}:Df x=.v (.string x):=daa rfl rfl
def Ms(x:List ByteArray):D:=.sl 1 (x.map Df)
instance:Fr Ms:=⟨λx=>Fr.s _ x⟩
theorem gM{x}:Ms x=.sl 1 (x.map Df):=daa rfl rfl
structure GEnum where
 Name:ByteArray
 Members:(List ByteArray)
def Af(x:GEnum):D:=.agg [.v (.string x.Name),.sl 1 (x.Members.map Df)]
instance:Fr Af:=⟨λx=>by simp only[Af,na,ia,Fr.l,waa,paa]⟩
theorem XL{x}:Af x=.agg [.v (.string x.Name),.sl 1 (x.Members.map Df)]:=daa rfl rfl
def Tb(x:List GEnum):D:=.sl 2 (x.map Af)
instance:Fr Tb:=⟨λx=>Fr.s _ x⟩
theorem BH{x}:Tb x=.sl 2 (x.map Af):=daa rfl rfl
def aa(x:Int):D:=.v (.int .i64 x)
instance:Fr aa:=⟨λx=>by simp only[aa,na,ia,Fr.l,waa,paa]⟩
theorem nS{x}:aa x=.v (.int .i64 x):=daa rfl rfl
structure GType where
 Kind:Int
 Enum:Int
def qa(x:GType):D:=.agg [.v (.int .i64 x.Kind),.v (.int .i64 x.Enum)]
instance:Fr qa:=⟨λx=>by simp only[qa,na,ia,Fr.l,waa,paa]⟩
theorem cM{x}:qa x=.agg [.v (.int .i64 x.Kind),.v (.int .i64 x.Enum)]:=daa rfl rfl
structure GDateRange where
 From:Int
 To:Int
def Bb(x:GDateRange):D:=.agg [.v (.int .i64 x.From),.v (.int .i64 x.To)]
instance:Fr Bb:=⟨λx=>by simp only[Bb,na,ia,Fr.l,waa,paa]⟩
theorem LC{x}:Bb x=.agg [.v (.int .i64 x.From),.v (.int .i64 x.To)]:=daa rfl rfl
structure GRow where
 Valid:GDateRange
 Lo:Int
 Hi:Int
 N:Int
def Eg(x:GRow):D:=.agg [.v (.int .i64 x.Valid.From),.v (.int .i64 x.Valid.To),.v (.int .i64 x.Lo),.v (.int .i64 x.Hi),.v (.int .i64 x.N)]
instance:Fr Eg:=⟨λx=>by simp only[Eg,na,ia,Fr.l,waa,paa]⟩
theorem AO{x}:Eg x=.agg [.v (.int .i64 x.Valid.From),.v (.int .i64 x.Valid.To),.v (.int .i64 x.Lo),.v (.int .i64 x.Hi),.v (.int .i64 x.N)]:=daa rfl rfl
def vr(x:List GRow):D:=.sl 5 (x.map Eg)
instance:Fr vr:=⟨λx=>Fr.s _ x⟩
theorem oJ{x}:vr x=.sl 5 (x.map Eg):=daa rfl rfl
structure GTable where
 Name:ByteArray
 Key:GType
 Value:GType
 Rows:(List GRow)
def mb(x:GTable):D:=.agg [.v (.string x.Name),.v (.int .i64 x.Key.Kind),.v (.int .i64 x.Key.Enum),.v (.int .i64 x.Value.Kind),.v (.int .i64 x.Value.Enum),.sl 5 (x.Rows.map Eg)]
instance:Fr mb:=⟨λx=>by simp only[mb,na,ia,Fr.l,waa,paa]⟩
theorem kJ{x}:mb x=.agg [.v (.string x.Name),.v (.int .i64 x.Key.Kind),.v (.int .i64 x.Key.Enum),.v (.int .i64 x.Value.Kind),.v (.int .i64 x.Value.Enum),.sl 5 (x.Rows.map Eg)]:=daa rfl rfl
def Fg(x:List GTable):D:=.sl 6 (x.map mb)
instance:Fr Fg:=⟨λx=>Fr.s _ x⟩
theorem rG{x}:Fg x=.sl 6 (x.map mb):=daa rfl rfl
structure GField where
 Name:ByteArray
 Type_:GType
def eb(x:GField):D:=.agg [.v (.string x.Name),.v (.int .i64 x.Type_.Kind),.v (.int .i64 x.Type_.Enum)]
instance:Fr eb:=⟨λx=>by simp only[eb,na,ia,Fr.l,waa,paa]⟩
theorem iJ{x}:eb x=.agg [.v (.string x.Name),.v (.int .i64 x.Type_.Kind),.v (.int .i64 x.Type_.Enum)]:=daa rfl rfl
def Ud(x:List GField):D:=.sl 3 (x.map eb)
instance:Fr Ud:=⟨λx=>Fr.s _ x⟩
theorem pG{x}:Ud x=.sl 3 (x.map eb):=daa rfl rfl
structure GNode where
 Op:Int
 N:Int
def Ga(x:GNode):D:=.agg [.v (.int .i64 x.Op),.v (.int .i64 x.N)]
instance:Fr Ga:=⟨λx=>by simp only[Ga,na,ia,Fr.l,waa,paa]⟩
theorem ZL{x}:Ga x=.agg [.v (.int .i64 x.Op),.v (.int .i64 x.N)]:=daa rfl rfl
def ya(x:List GNode):D:=.sl 2 (x.map Ga)
instance:Fr ya:=⟨λx=>Fr.s _ x⟩
theorem DH{x}:ya x=.sl 2 (x.map Ga):=daa rfl rfl
structure GRule where
 Name:ByteArray
 Def:Int
 Parent:Int
 Priority:Int
 Valid:GDateRange
 Guard:(List GNode)
 Value:(List GNode)
 Source:ByteArray
def bb(x:GRule):D:=.agg [.v (.string x.Name),.v (.int .i64 x.Def),.v (.int .i64 x.Parent),.v (.int .i64 x.Priority),.v (.int .i64 x.Valid.From),.v (.int .i64 x.Valid.To),.sl 2 (x.Guard.map Ga),.sl 2 (x.Value.map Ga),.v (.string x.Source)]
instance:Fr bb:=⟨λx=>by simp only[bb,na,ia,Fr.l,waa,paa]⟩
theorem aM{x}:bb x=.agg [.v (.string x.Name),.v (.int .i64 x.Def),.v (.int .i64 x.Parent),.v (.int .i64 x.Priority),.v (.int .i64 x.Valid.From),.v (.int .i64 x.Valid.To),.sl 2 (x.Guard.map Ga),.sl 2 (x.Value.map Ga),.v (.string x.Source)]:=daa rfl rfl
def Cf(x:List GRule):D:=.sl 9 (x.map bb)
instance:Fr Cf:=⟨λx=>Fr.s _ x⟩
theorem EH{x}:Cf x=.sl 9 (x.map bb):=daa rfl rfl
structure GScope where
 Name:ByteArray
 MemberScope:Int
 Inputs:(List GField)
 Defs:(List GField)
 Rules:(List GRule)
def Da(x:GScope):D:=.agg [.v (.string x.Name),.v (.int .i64 x.MemberScope),.sl 3 (x.Inputs.map eb),.sl 3 (x.Defs.map eb),.sl 9 (x.Rules.map bb)]
instance:Fr Da:=⟨λx=>by simp only[Da,na,ia,Fr.l,waa,paa]⟩
theorem jJ{x}:Da x=.agg [.v (.string x.Name),.v (.int .i64 x.MemberScope),.sl 3 (x.Inputs.map eb),.sl 3 (x.Defs.map eb),.sl 9 (x.Rules.map bb)]:=daa rfl rfl
def gn(x:List GScope):D:=.sl 5 (x.map Da)
instance:Fr gn:=⟨λx=>Fr.s _ x⟩
theorem qG{x}:gn x=.sl 5 (x.map Da):=daa rfl rfl
structure GLaw where
 Enums:(List GEnum)
 Tables:(List GTable)
 Scopes:(List GScope)
def Jb(x:GLaw):D:=.agg [.sl 2 (x.Enums.map Af),.sl 6 (x.Tables.map mb),.sl 5 (x.Scopes.map Da)]
instance:Fr Jb:=⟨λx=>by simp only[Jb,na,ia,Fr.l,waa,paa]⟩
theorem zO{x}:Jb x=.agg [.sl 2 (x.Enums.map Af),.sl 6 (x.Tables.map mb),.sl 5 (x.Scopes.map Da)]:=daa rfl rfl
def ba(x:Bool):D:=.v (.bool x)
instance:Fr ba:=⟨λx=>by simp only[ba,na,ia,Fr.l,waa,paa]⟩
theorem BO{x}:ba x=.v (.bool x):=daa rfl rfl
def da(x:List Int):D:=.sl 1 (x.map aa)
instance:Fr da:=⟨λx=>Fr.s _ x⟩
theorem fM{x}:da x=.sl 1 (x.map aa):=daa rfl rfl
def vc(x:List (List Int)):D:=.sl 1 (x.map da)
instance:Fr vc:=⟨λx=>Fr.s _ x⟩
theorem GH{x}:vc x=.sl 1 (x.map da):=daa rfl rfl
structure GLawError where
 Code:Int
 Section:Int
 Item:Int
 Element:Int
def Gd(x:GLawError):D:=.agg [.v (.int .i64 x.Code),.v (.int .i64 x.Section),.v (.int .i64 x.Item),.v (.int .i64 x.Element)]
instance:Fr Gd:=⟨λx=>by simp only[Gd,na,ia,Fr.l,waa,paa]⟩
theorem CE{x}:Gd x=.agg [.v (.int .i64 x.Code),.v (.int .i64 x.Section),.v (.int .i64 x.Item),.v (.int .i64 x.Element)]:=daa rfl rfl
def Mi(x:List GType):D:=.sl 2 (x.map qa)
instance:Fr Mi:=⟨λx=>Fr.s _ x⟩
theorem FH{x}:Mi x=.sl 2 (x.map qa):=daa rfl rfl
structure GSignature where
 Enums:(List GEnum)
 Tables:(List GTable)
 Inputs:(List GType)
 Defs:(List GType)
 MemberDefs:(List GType)
 HasMembers:Bool
def ta(x:GSignature):D:=.agg [.sl 2 (x.Enums.map Af),.sl 6 (x.Tables.map mb),.sl 2 (x.Inputs.map qa),.sl 2 (x.Defs.map qa),.sl 2 (x.MemberDefs.map qa),.v (.bool x.HasMembers)]
instance:Fr ta:=⟨λx=>by simp only[ta,na,ia,Fr.l,waa,paa]⟩
theorem PC{x}:ta x=.agg [.sl 2 (x.Enums.map Af),.sl 6 (x.Tables.map mb),.sl 2 (x.Inputs.map qa),.sl 2 (x.Defs.map qa),.sl 2 (x.MemberDefs.map qa),.v (.bool x.HasMembers)]:=daa rfl rfl
def Eh(x:List (List GNode)):D:=.sl 1 (x.map ya)
instance:Fr Eh:=⟨λx=>Fr.s _ x⟩
theorem EE{x}:Eh x=.sl 1 (x.map ya):=daa rfl rfl
def HH(x:Int):D:=.v (.int .u8 x)
instance:Fr HH:=⟨λx=>by simp only[HH,na,ia,Fr.l,waa,paa]⟩
theorem qX{x}:HH x=.v (.int .u8 x):=daa rfl rfl
def mh(x:Int):D:=.pt (aa x)
instance:Fr mh:=⟨λx=>Fr.h (e:=aa) x⟩
theorem dM{x}:mh x=.pt (aa x):=daa rfl rfl
def Vo(x:GScope):D:=.pt (Da x)
instance:Fr Vo:=⟨λx=>Fr.h (e:=Da) x⟩
theorem nG{x}:Vo x=.pt (Da x):=daa rfl rfl
def Xt(x:GRule):D:=.pt (bb x)
instance:Fr Xt:=⟨λx=>Fr.h (e:=bb) x⟩
theorem AH{x}:Xt x=.pt (bb x):=daa rfl rfl
def Uo(x:GField):D:=.pt (eb x)
instance:Fr Uo:=⟨λx=>Fr.h (e:=eb) x⟩
theorem mG{x}:Uo x=.pt (eb x):=daa rfl rfl
def Bp(x:ByteArray):D:=.pt (Df x)
instance:Fr Bp:=⟨λx=>Fr.h (e:=Df) x⟩
theorem eM{x}:Bp x=.pt (Df x):=daa rfl rfl
def Wt(x:GRow):D:=.pt (Eg x)
instance:Fr Wt:=⟨λx=>Fr.h (e:=Eg) x⟩
theorem nJ{x}:Wt x=.pt (Eg x):=daa rfl rfl
structure GValue where
 Kind:Int
 Enum:Int
 N:Int
def ka(x:GValue):D:=.agg [.v (.int .i64 x.Kind),.v (.int .i64 x.Enum),.v (.int .i64 x.N)]
instance:Fr ka:=⟨λx=>by simp only[ka,na,ia,Fr.l,waa,paa]⟩
theorem lJ{x}:ka x=.agg [.v (.int .i64 x.Kind),.v (.int .i64 x.Enum),.v (.int .i64 x.N)]:=daa rfl rfl
def wb(x:List GValue):D:=.sl 3 (x.map ka)
instance:Fr wb:=⟨λx=>Fr.s _ x⟩
theorem sG{x}:wb x=.sl 3 (x.map ka):=daa rfl rfl
structure GCoverageHole where
 Outcome:Int
 RuleA:Int
 RuleB:Int
 Inputs:(List GValue)
def va(x:GCoverageHole):D:=.agg [.v (.int .i64 x.Outcome),.v (.int .i64 x.RuleA),.v (.int .i64 x.RuleB),.sl 3 (x.Inputs.map ka)]
instance:Fr va:=⟨λx=>by simp only[va,na,ia,Fr.l,waa,paa]⟩
theorem gz{x}:va x=.agg [.v (.int .i64 x.Outcome),.v (.int .i64 x.RuleA),.v (.int .i64 x.RuleB),.sl 3 (x.Inputs.map ka)]:=daa rfl rfl
def fb(x:List GCoverageHole):D:=.sl 4 (x.map va)
instance:Fr fb:=⟨λx=>Fr.s _ x⟩
theorem Zw{x}:fb x=.sl 4 (x.map va):=daa rfl rfl
def Bf(x:GCoverageHole):D:=.pt (va x)
instance:Fr Bf:=⟨λx=>Fr.h (e:=va) x⟩
theorem Xw{x}:Bf x=.pt (va x):=daa rfl rfl
structure GRuletree_tree where
 parent:(List Int)
 priority:(List Int)
 outcome:(List Int)
def tg(x:GRuletree_tree):D:=.agg [.sl 1 (x.parent.map aa),.sl 1 (x.priority.map aa),.sl 1 (x.outcome.map aa)]
instance:Fr tg:=⟨λx=>by simp only[tg,na,ia,Fr.l,waa,paa]⟩
theorem Ux{x}:tg x=.agg [.sl 1 (x.parent.map aa),.sl 1 (x.priority.map aa),.sl 1 (x.outcome.map aa)]:=daa rfl rfl
def nb(x:List Bool):D:=.sl 1 (x.map ba)
instance:Fr nb:=⟨λx=>Fr.s _ x⟩
theorem pJ{x}:nb x=.sl 1 (x.map ba):=daa rfl rfl
def Fu(x:List (List GValue)):D:=.sl 1 (x.map wb)
instance:Fr Fu:=⟨λx=>Fr.s _ x⟩
theorem RC{x}:Fu x=.sl 1 (x.map wb):=daa rfl rfl
structure GEnv where
 Date:Int
 Inputs:(List GValue)
 Defs:(List GValue)
 Members:(List (List GValue))
 MemberTypes:(List GType)
 Tables:(List GTable)
def Uc(x:GEnv):D:=.agg [.v (.int .i64 x.Date),.sl 3 (x.Inputs.map ka),.sl 3 (x.Defs.map ka),.sl 1 (x.Members.map wb),.sl 2 (x.MemberTypes.map qa),.sl 6 (x.Tables.map mb)]
instance:Fr Uc:=⟨λx=>by simp only[Uc,na,ia,Fr.l,waa,paa]⟩
theorem yO{x}:Uc x=.agg [.v (.int .i64 x.Date),.sl 3 (x.Inputs.map ka),.sl 3 (x.Defs.map ka),.sl 1 (x.Members.map wb),.sl 2 (x.MemberTypes.map qa),.sl 6 (x.Tables.map mb)]:=daa rfl rfl
structure GEval_evaluator where
 nodes:(List GNode)
 starts:(List Int)
 env:GEnv
def oa(x:GEval_evaluator):D:=.agg [.sl 2 (x.nodes.map Ga),.sl 1 (x.starts.map aa),.v (.int .i64 x.env.Date),.sl 3 (x.env.Inputs.map ka),.sl 3 (x.env.Defs.map ka),.sl 1 (x.env.Members.map wb),.sl 2 (x.env.MemberTypes.map qa),.sl 6 (x.env.Tables.map mb)]
instance:Fr oa:=⟨λx=>by simp only[oa,na,ia,Fr.l,waa,paa]⟩
theorem Ww{x}:oa x=.agg [.sl 2 (x.nodes.map Ga),.sl 1 (x.starts.map aa),.v (.int .i64 x.env.Date),.sl 3 (x.env.Inputs.map ka),.sl 3 (x.env.Defs.map ka),.sl 1 (x.env.Members.map wb),.sl 2 (x.env.MemberTypes.map qa),.sl 6 (x.env.Tables.map mb)]:=daa rfl rfl
def EO(x:Int):D:=.v (.int .u64 x)
instance:Fr EO:=⟨λx=>by simp only[EO,na,ia,Fr.l,waa,paa]⟩
theorem pS{x}:EO x=.v (.int .u64 x):=daa rfl rfl
structure GA3 where
 I0:Int
 I1:Int
 I2:Int
def wK(x:GA3):D:=.agg [.v (.int .i64 x.I0),.v (.int .i64 x.I1),.v (.int .i64 x.I2)]
instance:Fr wK:=⟨λx=>by simp only[wK,na,ia,Fr.l,waa,paa]⟩
theorem lS{x}:wK x=.agg [.v (.int .i64 x.I0),.v (.int .i64 x.I1),.v (.int .i64 x.I2)]:=daa rfl rfl
structure GDeadrules_tree where
 scope:GScope
 tables:(List GTable)
 date:Int
 rules:(List Int)
 parents:(List Int)
 priorities:(List Int)
def Td(x:GDeadrules_tree):D:=.agg [.v (.string x.scope.Name),.v (.int .i64 x.scope.MemberScope),.sl 3 (x.scope.Inputs.map eb),.sl 3 (x.scope.Defs.map eb),.sl 9 (x.scope.Rules.map bb),.sl 6 (x.tables.map mb),.v (.int .i64 x.date),.sl 1 (x.rules.map aa),.sl 1 (x.parents.map aa),.sl 1 (x.priorities.map aa)]
instance:Fr Td:=⟨λx=>by simp only[Td,na,ia,Fr.l,waa,paa]⟩
theorem Vw{x}:Td x=.agg [.v (.string x.scope.Name),.v (.int .i64 x.scope.MemberScope),.sl 3 (x.scope.Inputs.map eb),.sl 3 (x.scope.Defs.map eb),.sl 9 (x.scope.Rules.map bb),.sl 6 (x.tables.map mb),.v (.int .i64 x.date),.sl 1 (x.rules.map aa),.sl 1 (x.parents.map aa),.sl 1 (x.priorities.map aa)]:=daa rfl rfl
def Fq(x:GDeadrules_tree):D:=.pt (Td x)
instance:Fr Fq:=⟨λx=>Fr.h (e:=Td) x⟩
theorem Av{x}:Fq x=.pt (Td x):=daa rfl rfl
structure GCase where
 Date:Int
 Inputs:(List GValue)
 Members:(List (List GValue))
def iC(x:GCase):D:=.agg [.v (.int .i64 x.Date),.sl 3 (x.Inputs.map ka),.sl 1 (x.Members.map wb)]
instance:Fr iC:=⟨λx=>by simp only[iC,na,ia,Fr.l,waa,paa]⟩
theorem WL{x}:iC x=.agg [.v (.int .i64 x.Date),.sl 3 (x.Inputs.map ka),.sl 1 (x.Members.map wb)]:=daa rfl rfl
structure GEvalError where
 Code:Int
 Member:Int
 Def:Int
 Rule:Int
def Nq(x:GEvalError):D:=.agg [.v (.int .i64 x.Code),.v (.int .i64 x.Member),.v (.int .i64 x.Def),.v (.int .i64 x.Rule)]
instance:Fr Nq:=⟨λx=>by simp only[Nq,na,ia,Fr.l,waa,paa]⟩
theorem MC{x}:Nq x=.agg [.v (.int .i64 x.Code),.v (.int .i64 x.Member),.v (.int .i64 x.Def),.v (.int .i64 x.Rule)]:=daa rfl rfl
structure GInterp_needs where
 scope:GScope
 memberScope:GScope
 defs:(List Bool)
 memberDefs:(List Bool)
def Nf(x:GInterp_needs):D:=.agg [.v (.string x.scope.Name),.v (.int .i64 x.scope.MemberScope),.sl 3 (x.scope.Inputs.map eb),.sl 3 (x.scope.Defs.map eb),.sl 9 (x.scope.Rules.map bb),.v (.string x.memberScope.Name),.v (.int .i64 x.memberScope.MemberScope),.sl 3 (x.memberScope.Inputs.map eb),.sl 3 (x.memberScope.Defs.map eb),.sl 9 (x.memberScope.Rules.map bb),.sl 1 (x.defs.map ba),.sl 1 (x.memberDefs.map ba)]
instance:Fr Nf:=⟨λx=>by simp only[Nf,na,ia,Fr.l,waa,paa]⟩
theorem iz{x}:Nf x=.agg [.v (.string x.scope.Name),.v (.int .i64 x.scope.MemberScope),.sl 3 (x.scope.Inputs.map eb),.sl 3 (x.scope.Defs.map eb),.sl 9 (x.scope.Rules.map bb),.v (.string x.memberScope.Name),.v (.int .i64 x.memberScope.MemberScope),.sl 3 (x.memberScope.Inputs.map eb),.sl 3 (x.memberScope.Defs.map eb),.sl 9 (x.memberScope.Rules.map bb),.sl 1 (x.defs.map ba),.sl 1 (x.memberDefs.map ba)]:=daa rfl rfl
structure GMemberResult where
 Values:(List GValue)
 Rules:(List Int)
def pe(x:GMemberResult):D:=.agg [.sl 3 (x.Values.map ka),.sl 1 (x.Rules.map aa)]
instance:Fr pe:=⟨λx=>by simp only[pe,na,ia,Fr.l,waa,paa]⟩
theorem jz{x}:pe x=.agg [.sl 3 (x.Values.map ka),.sl 1 (x.Rules.map aa)]:=daa rfl rfl
def Un(x:List GMemberResult):D:=.sl 2 (x.map pe)
instance:Fr Un:=⟨λx=>Fr.s _ x⟩
theorem bx{x}:Un x=.sl 2 (x.map pe):=daa rfl rfl
structure GResult where
 Values:(List GValue)
 Rules:(List Int)
 Members:(List GMemberResult)
def Gw(x:GResult):D:=.agg [.sl 3 (x.Values.map ka),.sl 1 (x.Rules.map aa),.sl 2 (x.Members.map pe)]
instance:Fr Gw:=⟨λx=>by simp only[Gw,na,ia,Fr.l,waa,paa]⟩
theorem yH{x}:Gw x=.agg [.sl 3 (x.Values.map ka),.sl 1 (x.Rules.map aa),.sl 2 (x.Members.map pe)]:=daa rfl rfl
def Ls(x:GInterp_needs):D:=.pt (Nf x)
instance:Fr Ls:=⟨λx=>Fr.h (e:=Nf) x⟩
theorem Yw{x}:Ls x=.pt (Nf x):=daa rfl rfl
def zH(x:GEnv):D:=.pt (Uc x)
instance:Fr zH:=⟨λx=>Fr.h (e:=Uc) x⟩
theorem mJ{x}:zH x=.pt (Uc x):=daa rfl rfl
structure GA2 where
 I0:Int
 I1:Int
def vK(x:GA2):D:=.agg [.v (.int .i64 x.I0),.v (.int .i64 x.I1)]
instance:Fr vK:=⟨λx=>by simp only[vK,na,ia,Fr.l,waa,paa]⟩
theorem kS{x}:vK x=.agg [.v (.int .i64 x.I0),.v (.int .i64 x.I1)]:=daa rfl rfl
structure GCalendar where
 Weekend:Int
 Holidays:(List Int)
def Ks(x:GCalendar):D:=.agg [.v (.int .i64 x.Weekend),.sl 1 (x.Holidays.map aa)]
instance:Fr Ks:=⟨λx=>by simp only[Ks,na,ia,Fr.l,waa,paa]⟩
theorem BE{x}:Ks x=.agg [.v (.int .i64 x.Weekend),.sl 1 (x.Holidays.map aa)]:=daa rfl rfl
structure GPayConfig where
 Def:Int
 Rounding:Int
 PayDay:Int
 RecoveryCap:Int
 RecoveryFloor:Int
 FirstMonth:Int
 AppealDays:Int
 Calendar:GCalendar
def Pq(x:GPayConfig):D:=.agg [.v (.int .i64 x.Def),.v (.int .i64 x.Rounding),.v (.int .i64 x.PayDay),.v (.int .i64 x.RecoveryCap),.v (.int .i64 x.RecoveryFloor),.v (.int .i64 x.FirstMonth),.v (.int .i64 x.AppealDays),.v (.int .i64 x.Calendar.Weekend),.sl 1 (x.Calendar.Holidays.map aa)]
instance:Fr Pq:=⟨λx=>by simp only[Pq,na,ia,Fr.l,waa,paa]⟩
theorem OC{x}:Pq x=.agg [.v (.int .i64 x.Def),.v (.int .i64 x.Rounding),.v (.int .i64 x.PayDay),.v (.int .i64 x.RecoveryCap),.v (.int .i64 x.RecoveryFloor),.v (.int .i64 x.FirstMonth),.v (.int .i64 x.AppealDays),.v (.int .i64 x.Calendar.Weekend),.sl 1 (x.Calendar.Holidays.map aa)]:=daa rfl rfl
structure GFact where
 Id:Int
 Member:Int
 Input:Int
 Value:GValue
 Valid:GDateRange
 Recorded:Int
def Ap(x:GFact):D:=.agg [.v (.int .i64 x.Id),.v (.int .i64 x.Member),.v (.int .i64 x.Input),.v (.int .i64 x.Value.Kind),.v (.int .i64 x.Value.Enum),.v (.int .i64 x.Value.N),.v (.int .i64 x.Valid.From),.v (.int .i64 x.Valid.To),.v (.int .i64 x.Recorded)]
instance:Fr Ap:=⟨λx=>by simp only[Ap,na,ia,Fr.l,waa,paa]⟩
theorem YL{x}:Ap x=.agg [.v (.int .i64 x.Id),.v (.int .i64 x.Member),.v (.int .i64 x.Input),.v (.int .i64 x.Value.Kind),.v (.int .i64 x.Value.Enum),.v (.int .i64 x.Value.N),.v (.int .i64 x.Valid.From),.v (.int .i64 x.Valid.To),.v (.int .i64 x.Recorded)]:=daa rfl rfl
def rA(x:List GFact):D:=.sl 9 (x.map Ap)
instance:Fr rA:=⟨λx=>Fr.s _ x⟩
theorem CH{x}:rA x=.sl 9 (x.map Ap):=daa rfl rfl
structure GHousehold where
 Id:Int
 Scope:Int
 Members:Int
 Facts:(List GFact)
def Oq(x:GHousehold):D:=.agg [.v (.int .i64 x.Id),.v (.int .i64 x.Scope),.v (.int .i64 x.Members),.sl 9 (x.Facts.map Ap)]
instance:Fr Oq:=⟨λx=>by simp only[Oq,na,ia,Fr.l,waa,paa]⟩
theorem NC{x}:Oq x=.agg [.v (.int .i64 x.Id),.v (.int .i64 x.Scope),.v (.int .i64 x.Members),.sl 9 (x.Facts.map Ap)]:=daa rfl rfl
structure GAward where
 Month:Int
 Cents:Int
 Code:Int
def Ut(x:GAward):D:=.agg [.v (.int .i64 x.Month),.v (.int .i64 x.Cents),.v (.int .i64 x.Code)]
instance:Fr Ut:=⟨λx=>by simp only[Ut,na,ia,Fr.l,waa,paa]⟩
theorem hJ{x}:Ut x=.agg [.v (.int .i64 x.Month),.v (.int .i64 x.Cents),.v (.int .i64 x.Code)]:=daa rfl rfl
def ur(x:List GDateRange):D:=.sl 2 (x.map Bb)
instance:Fr ur:=⟨λx=>Fr.s _ x⟩
theorem qA{x}:ur x=.sl 2 (x.map Bb):=daa rfl rfl
structure GGuerdonlaw36_Query where
 Month:Int
 Recorded:Int
 Day:Int
def lh(x:GGuerdonlaw36_Query):D:=.agg [.v (.int .i64 x.Month),.v (.int .i64 x.Recorded),.v (.int .i64 x.Day)]
instance:Fr lh:=⟨λx=>by simp only[lh,na,ia,Fr.l,waa,paa]⟩
theorem Vt{x}:lh x=.agg [.v (.int .i64 x.Month),.v (.int .i64 x.Recorded),.v (.int .i64 x.Day)]:=daa rfl rfl
def Vx(x:List GAward):D:=.sl 3 (x.map Ut)
instance:Fr Vx:=⟨λx=>Fr.s _ x⟩
theorem oG{x}:Vx x=.sl 3 (x.map Ut):=daa rfl rfl
structure GPosting where
 Date:Int
 Month:Int
 Kind:Int
 Cents:Int
def Tk(x:GPosting):D:=.agg [.v (.int .i64 x.Date),.v (.int .i64 x.Month),.v (.int .i64 x.Kind),.v (.int .i64 x.Cents)]
instance:Fr Tk:=⟨λx=>by simp only[Tk,na,ia,Fr.l,waa,paa]⟩
theorem lG{x}:Tk x=.agg [.v (.int .i64 x.Date),.v (.int .i64 x.Month),.v (.int .i64 x.Kind),.v (.int .i64 x.Cents)]:=daa rfl rfl
def Eu(x:List GPosting):D:=.sl 4 (x.map Tk)
instance:Fr Eu:=⟨λx=>Fr.s _ x⟩
theorem QC{x}:Eu x=.sl 4 (x.map Tk):=daa rfl rfl
structure GAppeal where
 Id:Int
 From:Int
 To:Int
 Filed:Int
 Deadline:Int
 State:Int
 Cents:Int
def An(x:GAppeal):D:=.agg [.v (.int .i64 x.Id),.v (.int .i64 x.From),.v (.int .i64 x.To),.v (.int .i64 x.Filed),.v (.int .i64 x.Deadline),.v (.int .i64 x.State),.v (.int .i64 x.Cents)]
instance:Fr An:=⟨λx=>by simp only[An,na,ia,Fr.l,waa,paa]⟩
theorem xH{x}:An x=.agg [.v (.int .i64 x.Id),.v (.int .i64 x.From),.v (.int .i64 x.To),.v (.int .i64 x.Filed),.v (.int .i64 x.Deadline),.v (.int .i64 x.State),.v (.int .i64 x.Cents)]:=daa rfl rfl
def Pv(x:List GAppeal):D:=.sl 7 (x.map An)
instance:Fr Pv:=⟨λx=>Fr.s _ x⟩
theorem DE{x}:Pv x=.sl 7 (x.map An):=daa rfl rfl
structure GAccount where
 Household:GHousehold
 Postings:(List GPosting)
 Appeals:(List GAppeal)
 Date:Int
 LastMonth:Int
def Du(x:GAccount):D:=.agg [.v (.int .i64 x.Household.Id),.v (.int .i64 x.Household.Scope),.v (.int .i64 x.Household.Members),.sl 9 (x.Household.Facts.map Ap),.sl 4 (x.Postings.map Tk),.sl 7 (x.Appeals.map An),.v (.int .i64 x.Date),.v (.int .i64 x.LastMonth)]
instance:Fr Du:=⟨λx=>by simp only[Du,na,ia,Fr.l,waa,paa]⟩
theorem kG{x}:Du x=.agg [.v (.int .i64 x.Household.Id),.v (.int .i64 x.Household.Scope),.v (.int .i64 x.Household.Members),.sl 9 (x.Household.Facts.map Ap),.sl 4 (x.Postings.map Tk),.sl 7 (x.Appeals.map An),.v (.int .i64 x.Date),.v (.int .i64 x.LastMonth)]:=daa rfl rfl
def ze:=(And.intro (And.intro (And.intro (And.intro (And.intro (And.intro (And.intro @oS @gM) (And.intro @XL @BH)) (And.intro (And.intro @nS @cM) (And.intro @LC @AO))) (And.intro (And.intro (And.intro @oJ @kJ) (And.intro @rG @iJ)) (And.intro (And.intro @pG @ZL) (And.intro @DH @aM)))) (And.intro (And.intro (And.intro (And.intro @EH @jJ) (And.intro @qG @zO)) (And.intro (And.intro @BO @fM) (And.intro @GH @CE))) (And.intro (And.intro (And.intro @FH @PC) (And.intro @EE @qX)) (And.intro (And.intro @dM @nG) (And.intro @AH @mG))))) (And.intro (And.intro (And.intro (And.intro (And.intro @eM @nJ) (And.intro @lJ @sG)) (And.intro (And.intro @gz @Zw) (And.intro @Xw @Ux))) (And.intro (And.intro (And.intro @pJ @RC) (And.intro @yO @Ww)) (And.intro (And.intro @pS @lS) (And.intro @Vw @Av)))) (And.intro (And.intro (And.intro (And.intro @WL @MC) (And.intro @iz @jz)) (And.intro (And.intro @bx @yH) (And.intro @Yw @mJ))) (And.intro (And.intro (And.intro @kS @BE) (And.intro @OC @YL)) (And.intro (And.intro @CH @NC) (And.intro @hJ @qA)))))) (And.intro (And.intro (And.intro @Vt @oG) (And.intro @lG @QC)) (And.intro (And.intro @xH @DE) @kG)))
theorem zz:type_of% (And.intro @zx @ze):=And.intro @zx @ze
theorem zg:type_of% (And.intro @zq @ze):=And.intro @zq @ze
theorem tz{N:Nat}{s S:St}(ρ:Jo) (h:WA (Sq ρ s.m 9) s.t S.t/\VA ρ s.m ρ S.m:=by first|(simp only[zg];done)|(simp only[zg, *];done)) (hk:Zv ρ N=true:=by rfl) (h3:(ρ.filterMap (·.1)).Nodup:=by decide):Tells N s S:=Tells.q ρ hk h3 h
theorem ez{rs:List RV}{o:D}{s:St}(h:JH (sd s rs) s.m o:=by simp only[zz,zr];exact fq (by first|(simp only[zg];done)|(simp only[zg, *];done)|(simp only[zg, *,List.drop_zero,Nat.zero_add,List.length_map];done))):uE rs o .ret s:=er h
instance:Enc (List (List GNode)) Eh:=⟨trivial⟩
instance:Enc (List (List GValue)) Fu:=⟨trivial⟩
instance:Enc (List (List Int)) vc:=⟨trivial⟩
instance:Enc (List Bool) nb:=⟨trivial⟩
instance:Enc (List ByteArray) Ms:=⟨trivial⟩
instance:Enc (List GAppeal) Pv:=⟨trivial⟩
instance:Enc (List GAward) Vx:=⟨trivial⟩
instance:Enc (List GCoverageHole) fb:=⟨trivial⟩
instance:Enc (List GDateRange) ur:=⟨trivial⟩
instance:Enc (List GEnum) Tb:=⟨trivial⟩
instance:Enc (List GFact) rA:=⟨trivial⟩
instance:Enc (List GField) Ud:=⟨trivial⟩
instance:Enc (List GMemberResult) Un:=⟨trivial⟩
instance:Enc (List GNode) ya:=⟨trivial⟩
instance:Enc (List GPosting) Eu:=⟨trivial⟩
instance:Enc (List GRow) vr:=⟨trivial⟩
instance:Enc (List GRule) Cf:=⟨trivial⟩
instance:Enc (List GScope) gn:=⟨trivial⟩
instance:Enc (List GTable) Fg:=⟨trivial⟩
instance:Enc (List GType) Mi:=⟨trivial⟩
instance:Enc (List GValue) wb:=⟨trivial⟩
instance:Enc (List Int) da:=⟨trivial⟩
instance:Enc Bool ba:=⟨trivial⟩
instance:Enc ByteArray Df:=⟨trivial⟩
instance:Enc GA2 vK:=⟨trivial⟩
instance:Enc GA3 wK:=⟨trivial⟩
instance:Enc GAccount Du:=⟨trivial⟩
instance:Enc GAppeal An:=⟨trivial⟩
instance:Enc GAward Ut:=⟨trivial⟩
instance:Enc GCalendar Ks:=⟨trivial⟩
instance:Enc GCase iC:=⟨trivial⟩
instance:Enc GCoverageHole va:=⟨trivial⟩
instance:Enc GDateRange Bb:=⟨trivial⟩
instance:Enc GDeadrules_tree Td:=⟨trivial⟩
instance:Enc GEnum Af:=⟨trivial⟩
instance:Enc GEnv Uc:=⟨trivial⟩
instance:Enc GEvalError Nq:=⟨trivial⟩
instance:Enc GEval_evaluator oa:=⟨trivial⟩
instance:Enc GFact Ap:=⟨trivial⟩
instance:Enc GField eb:=⟨trivial⟩
instance:Enc GGuerdonlaw36_Query lh:=⟨trivial⟩
instance:Enc GHousehold Oq:=⟨trivial⟩
instance:Enc GInterp_needs Nf:=⟨trivial⟩
instance:Enc GLaw Jb:=⟨trivial⟩
instance:Enc GLawError Gd:=⟨trivial⟩
instance:Enc GMemberResult pe:=⟨trivial⟩
instance:Enc GNode Ga:=⟨trivial⟩
instance:Enc GPayConfig Pq:=⟨trivial⟩
instance:Enc GPosting Tk:=⟨trivial⟩
instance:Enc GResult Gw:=⟨trivial⟩
instance:Enc GRow Eg:=⟨trivial⟩
instance:Enc GRule bb:=⟨trivial⟩
instance:Enc GRuletree_tree tg:=⟨trivial⟩
instance:Enc GScope Da:=⟨trivial⟩
instance:Enc GSignature ta:=⟨trivial⟩
instance:Enc GTable mb:=⟨trivial⟩
instance:Enc GType qa:=⟨trivial⟩
instance:Enc GValue ka:=⟨trivial⟩
instance:Enc Int aa:=⟨trivial⟩
noncomputable def gh(t0:GScope):Int->Option (Ex Int Unit Bool):=λs6=>
 if s6<(t0.Inputs.length:Int)then
  (idx t0.Inputs s6).bind λx8=>
  if 80<(x8.Name.size:Int)then
   some (Ex.ret false)
  else
  some (Ex.go (ea .i64 (s6+1)))
 else
 some (Ex.brk ())
noncomputable def fh(t0:GScope):Int->Option (Ex Int Unit Bool):=λs11=>
 if s11<(t0.Defs.length:Int)then
  (idx t0.Defs s11).bind λx13=>
  if 80<(x13.Name.size:Int)then
   some (Ex.ret false)
  else
  some (Ex.go (ea .i64 (s11+1)))
 else
 some (Ex.brk ())
noncomputable def dh(t0:GScope):Int->Option (Ex Int Unit Bool):=λs16=>
 if s16<(t0.Rules.length:Int)then
  (idx t0.Rules s16).bind λx18=>
  baa (α:=Bool) (
   if¬80<(x18.Name.size:Int)then
    if¬80<(x18.Source.size:Int)then
     if¬50<(x18.Guard.length:Int)then
      some (decide (50<(x18.Value.length:Int)))
     else
     some true
    else
    some true
   else
   some true) λj22=>
  if j22=true then
   some (Ex.ret false)
  else
  some (Ex.go (ea .i64 (s16+1)))
 else
 some (Ex.brk ())
noncomputable def Rf(t0:GScope):Option Bool:=
 baa (α:=Bool) (
  if¬80<(t0.Name.size:Int)then
   if¬14<(t0.Inputs.length:Int)then
    if¬14<(t0.Defs.length:Int)then
     some (decide (60<(t0.Rules.length:Int)))
    else
    some true
   else
   some true
  else
  some true) λj4=>
 if j4=true then
  some false
 else
 (fa (gh t0) 0).bind λy=>match y with
 |.inr v=>some v
 |.inl _=>
 (fa (fh t0) 0).bind λy=>match y with
 |.inr v=>some v
 |.inl _=>
 (fa (dh t0) 0).bind λy=>match y with
 |.inr v=>some v
 |.inl _=>
 some true
noncomputable def Ag(t0:GLaw) (s5:Int):Int->Option (Ex Int Unit (Ex Int Unit Bool)):=λs11=>
 (idx t0.Enums s5).bind λx12=>
 if s11<(x12.Members.length:Int)then
  (idx x12.Members s11).bind λx14=>
  if 80<(x14.size:Int)then
   some (Ex.ret (Ex.ret false))
  else
  some (Ex.go (ea .i64 (s11+1)))
 else
 some (Ex.brk ())
noncomputable def oi(t0:GLaw):Int->Option (Ex Int Unit Bool):=λs5=>
 if s5<(t0.Enums.length:Int)then
  baa (α:=Bool) (
   (idx t0.Enums s5).bind λx7=>
   if¬80<(x7.Name.size:Int)then
    some (decide (20<(x7.Members.length:Int)))
   else
   some true) λj9=>
  if j9=true then
   some (Ex.ret false)
  else
  (fa (Ag t0 s5) 0).bind λy=>match y with
  |.inr v=>some v
  |.inl _=>
  some (Ex.go (ea .i64 (s5+1)))
 else
 some (Ex.brk ())
noncomputable def ni(t0:GLaw):(Int×Int)->Option (Ex (Int×Int) Unit Bool):=λ(s18,s19)=>
 if s19<(t0.Tables.length:Int)then
  (idx t0.Tables s19).bind λx21=>
  baa (α:=Bool) (
   if¬80<(x21.Name.size:Int)then
    some (decide (150<(ea .i64 (s18+(x21.Rows.length:Int)))))
   else
   some true) λj23=>
  if j23=true then
   some (Ex.ret false)
  else
  some (Ex.go ((ea .i64 (s18+(x21.Rows.length:Int))),(ea .i64 (s19+1))))
 else
 some (Ex.brk ())
noncomputable def mi(t0:GLaw):(Int×Int)->Option (Ex (Int×Int) Unit Bool):=λ(s27,s28)=>
 if s28<(t0.Scopes.length:Int)then
  (idx t0.Scopes s28).bind λx30=>
  baa (α:=Bool) (
   if¬60<(ea .i64 (s27+(x30.Rules.length:Int)))then
    (Rf x30).bind λx32=>
    some (!x32)
   else
   some true) λj33=>
  if j33=true then
   some (Ex.ret false)
  else
  some (Ex.go ((ea .i64 (s27+(x30.Rules.length:Int))),(ea .i64 (s28+1))))
 else
 some (Ex.brk ())
noncomputable def xk(t0:GLaw):Option Bool:=
 baa (α:=Bool) (
  if¬9<(t0.Enums.length:Int)then
   if¬9<(t0.Tables.length:Int)then
    some (decide (5<(t0.Scopes.length:Int)))
   else
   some true
  else
  some true) λj3=>
 if j3=true then
  some false
 else
 (fa (oi t0) 0).bind λy=>match y with
 |.inr v=>some v
 |.inl _=>
 (fa (ni t0) (0,0)).bind λy=>match y with
 |.inr v=>some v
 |.inl _=>
 (fa (mi t0) (0,0)).bind λy=>match y with
 |.inr v=>some v
 |.inl _=>
 some true
noncomputable def Jm(t0:Int):Option Bool:=
 baa (α:=Bool) (
  if 97<=t0 then
   some (decide (t0<=122))
  else
  some false) λj2=>
 some j2
noncomputable def Dp(t0:Int):Option Bool:=
 baa (α:=Bool) (
  if 48<=t0 then
   some (decide (t0<=57))
  else
  some false) λj2=>
 some j2
noncomputable def Wc(t0:ByteArray):Int->Option (Ex Int Int Unit):=λs1=>
 baa (α:=Bool) (
  if s1<(t0.size:Int)then
   (Zr t0 s1).bind λx3=>
   (Jm x3).bind λx4=>
   if x4=false then
    (Dp x3).bind λx6=>
    if x6=false then
     some (x3==95)
    else
    some true
   else
   some true
  else
  some false) λj8=>
 if j8=true then
  some (Ex.go (ea .i64 (s1+1)))
 else
 some (Ex.brk s1)
noncomputable def Wi(t0:ByteArray):Option Int:=
 (fa (Wc t0) 0).bind λy=>match y with
 |.inr _=>none
 |.inl b11=>
 some b11
noncomputable def Xd(t0:ByteArray):Option Bool:=
 baa (α:=Bool) (
  if t0=(faa #[105,102])then
   some true
  else
  if t0=(faa #[116,104,101,110])then
   some true
  else
  if t0=(faa #[101,108,115,101])then
   some true
  else
  if t0=(faa #[111,114])then
   some true
  else
  if t0=(faa #[97,110,100])then
   some true
  else
  if t0=(faa #[110,111,116])then
   some true
  else
  if t0=(faa #[116,114,117,101])then
   some true
  else
  if t0=(faa #[102,97,108,115,101])then
   some true
  else
  if t0=(faa #[116,111,100,97,121])then
   some true
  else
  if t0=(faa #[115,104,97,114,101])then
   some true
  else
  if t0=(faa #[100,105,118])then
   some true
  else
  if t0=(faa #[114,111,117,110,100])then
   some true
  else
  if t0=(faa #[109,105,110])then
   some true
  else
  if t0=(faa #[109,97,120])then
   some true
  else
  if t0=(faa #[112,108,117,115])then
   some true
  else
  if t0=(faa #[109,111,110,116,104,115])then
   some true
  else
  if t0=(faa #[100,97,121,115])then
   some true
  else
  if t0=(faa #[121,101,97,114,115])then
   some true
  else
  if t0=(faa #[121,101,97,114])then
   some true
  else
  if t0=(faa #[109,111,110,116,104])then
   some true
  else
  if t0=(faa #[116,97,98])then
   some true
  else
  if t0=(faa #[98,97,110,100])then
   some true
  else
  if t0=(faa #[99,111,117,110,116])then
   some true
  else
  if t0=(faa #[115,117,109])then
   some true
  else
  if t0=(faa #[97,108,108])then
   some true
  else
  if t0=(faa #[97,110,121])then
   some true
  else
  if t0=(faa #[109,111,115,116])then
   some true
  else
  if t0=(faa #[101,110,117,109])then
   some true
  else
  if t0=(faa #[116,97,98,108,101])then
   some true
  else
  if t0=(faa #[114,111,119])then
   some true
  else
  if t0=(faa #[115,99,111,112,101])then
   some true
  else
  if t0=(faa #[109,101,109,98,101,114,115])then
   some true
  else
  if t0=(faa #[105,110,112,117,116])then
   some true
  else
  if t0=(faa #[100,101,102])then
   some true
  else
  if t0=(faa #[114,117,108,101])then
   some true
  else
  if t0=(faa #[111,102])then
   some true
  else
  if t0=(faa #[111,118,101,114])then
   some true
  else
  if t0=(faa #[112,114,105,111])then
   some true
  else
  if t0=(faa #[102,114,111,109])then
   some true
  else
  if t0=(faa #[116,111])then
   some true
  else
  if t0=(faa #[101,110,100])then
   some true
  else
  if t0=(faa #[119,104,101,110])then
   some true
  else
  if t0=(faa #[105,115])then
   some true
  else
  if t0=(faa #[115,114,99])then
   some true
  else
  if t0=(faa #[98,111,111,108])then
   some true
  else
  if t0=(faa #[105,110,116])then
   some true
  else
  if t0=(faa #[109,111,110,101,121])then
   some true
  else
  if t0=(faa #[114,97,116,101])then
   some true
  else
  if t0=(faa #[100,97,116,101])then
   some true
  else
  if t0=(faa #[100,111,119,110])then
   some true
  else
  if t0=(faa #[117,112])then
   some true
  else
  if t0=(faa #[122,101,114,111])then
   some true
  else
  if t0=(faa #[97,119,97,121])then
   some true
  else
  if t0=(faa #[104,97,108,102])then
   some true
  else
  some (decide (t0=(faa #[101,118,101,110])))) λj55=>
 if j55=true then
  some true
 else
 some false
noncomputable def qb(t0:ByteArray):Option Bool:=
 baa (α:=Bool) (
  if¬t0=(faa #[])then
   (Zr t0 0).bind λx2=>
   (Jm x2).bind λx3=>
   if x3=true then
    (Wi t0).bind λx5=>
    if x5=(t0.size:Int)then
     if(t0.size:Int)<=16 then
      (Xd t0).bind λx8=>
      some (!x8)
     else
     some false
    else
    some false
   else
   some false
  else
  some false) λj9=>
 some j9
noncomputable def Oc(t0:List GEnum) (t1:(GEnum->Option Bool)):Int->Option (Ex Int Unit Int):=λs1=>
 if s1<(t0.length:Int)then
  (idx t0 s1).bind λx3=>
  (t1 x3).bind λx4=>
  if x4=true then
   some (Ex.ret s1)
  else
  some (Ex.go (ea .i64 (s1+1)))
 else
 some (Ex.brk ())
noncomputable def mc(t0:List GEnum) (t1:(GEnum->Option Bool)):Option Int:=
 (fa (Oc t0 t1) 0).bind λy=>match y with
 |.inr v=>some v
 |.inl _=>
 some (-1)
noncomputable def ib(t0:List GEnum) (t1:(GEnum->Option Bool)):Option Bool:=
 (mc t0 t1).bind λx1=>
 some (decide (0<=x1))
noncomputable def ef(t0:GEnum) (t1:ByteArray):Option Bool:=
 some (decide (t0.Name=t1))
noncomputable def rj(t0:List GEnum) (t1:ByteArray):Option Bool:=
 (ib t0 (λx900=>ef x900 t1)).bind λx1=>
 some x1
noncomputable def kd(t0:List ByteArray) (t1:ByteArray):Int->Option (Ex Int Unit Int):=λs1=>
 if s1<(t0.length:Int)then
  (idx t0 s1).bind λx3=>
  if t1=x3 then
   some (Ex.ret s1)
  else
  some (Ex.go (ea .i64 (s1+1)))
 else
 some (Ex.brk ())
noncomputable def kh(t0:List ByteArray) (t1:ByteArray):Option Int:=
 (fa (kd t0 t1) 0).bind λy=>match y with
 |.inr v=>some v
 |.inl _=>
 some (-1)
noncomputable def jd(t0:List ByteArray) (t1:ByteArray):Option Bool:=
 (kh t0 t1).bind λx1=>
 some (decide (0<=x1))
noncomputable def Ti(t2:GEnum):Int->Option (Ex Int Unit (Int×Int)):=λs8=>
 if s8<(t2.Members.length:Int)then
  (idx t2.Members s8).bind λx10=>
  (qb x10).bind λx11=>
  if x11=false then
   some (Ex.ret (2,(ea .i64 (100+s8))))
  else
  (Zq t2.Members s8).bind λx13=>
  (jd x13 x10).bind λx14=>
  if x14=true then
   some (Ex.ret (7,(ea .i64 (100+s8))))
  else
  some (Ex.go (ea .i64 (s8+1)))
 else
 some (Ex.brk ())
noncomputable def Im(t0:GLaw) (t1:Int) (t2:GEnum):Option (Int×Int):=
 (qb t2.Name).bind λx1=>
 if x1=false then
  some (2,0)
 else
 (Zq t0.Enums t1).bind λx3=>
 (rj x3 t2.Name).bind λx4=>
 if x4=true then
  some (7,0)
 else
 if(t2.Members.length:Int)=0 then
  some (5,0)
 else
 if 16<(t2.Members.length:Int)then
  some (4,116)
 else
 (fa (Ti t2) 0).bind λy=>match y with
 |.inr v=>some v
 |.inl _=>
 some (0,0)
noncomputable def Ih(t0:GLaw):Int->Option (Ex Int Unit GLawError):=λs2=>
 if s2<(t0.Enums.length:Int)then
  (idx t0.Enums s2).bind λx4=>
  (Im t0 s2 x4).bind λx5=>
  if¬x5.1=0 then
   some (Ex.ret (GLawError.mk x5.1 1 s2 x5.2))
  else
  some (Ex.go (ea .i64 (s2+1)))
 else
 some (Ex.brk ())
noncomputable def jo(t0:GLaw):Option GLawError:=
 if 8<(t0.Enums.length:Int)then
  some (GLawError.mk 4 1 8 0)
 else
 (fa (Ih t0) 0).bind λy=>match y with
 |.inr v=>some v
 |.inl _=>
 some (GLawError.mk 0 0 0 0)
noncomputable def Sb(t0:GType) (t1:List GEnum):Option Bool:=
 baa (α:=Bool) (
  if t0.Kind=1 then
   some true
  else
  if t0.Kind=2 then
   some true
  else
  if t0.Kind=3 then
   some true
  else
  if t0.Kind=4 then
   some true
  else
  some (t0.Kind==5)) λj5=>
 if j5=true then
  some (t0.Enum==0)
 else
 if t0.Kind=6 then
  baa (α:=Bool) (
   if 0<=t0.Enum then
    some (decide (t0.Enum<(t1.length:Int)))
   else
   some false) λj9=>
  some j9
 else
 some false
noncomputable def vd(t0:GType) (t1:List GEnum):Option (Int×Int):=
 (Sb t0 t1).bind λx1=>
 if x1=false then
  some (0,(-1))
 else
 if t0.Kind=1 then
  some (0,1)
 else
 if t0.Kind=2 then
  some ((-1000000000000),1000000000000)
 else
 if t0.Kind=3 then
  some ((-1000000000000000),1000000000000000)
 else
 if t0.Kind=4 then
  some ((-1000000000),1000000000)
 else
 if t0.Kind=5 then
  some (0,109572)
 else
 (idx t1 t0.Enum).bind λx8=>
 some (0,(ea .i64 ((x8.Members.length:Int)-1)))
noncomputable def Mf(t0:GDateRange):Option Bool:=
 baa (α:=Bool) (
  if 0<=t0.From then
   if t0.From<=t0.To then
    some (decide (t0.To<=109573))
   else
   some false
  else
  some false) λj3=>
 some j3
noncomputable def fe(t0:List GRow) (t1:(GRow->Option Bool)):Int->Option (Ex Int Unit (Int×Bool)):=λs1=>
 if s1<(t0.length:Int)then
  (idx t0 s1).bind λx3=>
  (t1 x3).bind λx4=>
  if x4=true then
   some (Ex.ret (s1,true))
  else
  some (Ex.go (ea .i64 (s1+1)))
 else
 some (Ex.brk ())
noncomputable def me(t0:List GRow) (t1:(GRow->Option Bool)):Option (Int×Bool):=
 (fa (fe t0 t1) 0).bind λy=>match y with
 |.inr v=>some v
 |.inl _=>
 some (0,false)
noncomputable def Dh(t0:GDateRange):Option Bool:=
 baa (α:=Bool) (
  (Mf t0).bind λx1=>
  if x1=true then
   some (decide (t0.From<t0.To))
  else
  some false) λj3=>
 some j3
noncomputable def Fi(t0:GDateRange) (t1:GDateRange):Option (GDateRange×Bool):=
 baa (α:=Bool) (
  (Dh t0).bind λx1=>
  if x1=true then
   (Dh t1).bind λx3=>
   some (!x3)
  else
  some true) λj4=>
 if j4=true then
  some ((GDateRange.mk 0 0),false)
 else
 if(min t0.To t1.To)<=(max t0.From t1.From)then
  some ((GDateRange.mk 0 0),false)
 else
 some ((GDateRange.mk (max t0.From t1.From) (min t0.To t1.To)),true)
noncomputable def Nl(t0:GRow) (t1:GRow):Option Bool:=
 (Fi t0.Valid t1.Valid).bind λx1=>
 baa (α:=Bool) (
  if x1.2=true then
   some (decide ((max t0.Lo t1.Lo)<(min t0.Hi t1.Hi)))
  else
  some false) λj3=>
 some j3
noncomputable def ld(t0:GRow) (t1:GRow):Option Bool:=
 (Nl t0 t1).bind λx1=>
 some x1
noncomputable def qi(t0:GTable) (x7:(Int×Int)) (x8:(Int×Int)):Int->Option (Ex Int Unit (Int×Int)):=λs9=>
 if s9<(t0.Rows.length:Int)then
  (idx t0.Rows s9).bind λx11=>
  baa (α:=Bool) (
   (Mf x11.Valid).bind λx12=>
   if x12=true then
    if¬x11.Valid.From=x11.Valid.To then
     some (decide (x11.Hi<=x11.Lo))
    else
    some true
   else
   some true) λj15=>
  if j15=true then
   some (Ex.ret (s9,3))
  else
  baa (α:=Bool) (
   if¬x11.Lo<x7.1 then
    if¬x7.2<x11.Lo then
     if¬(ea .i64 (x11.Hi-1))<x7.1 then
      some (decide (x7.2<(ea .i64 (x11.Hi-1))))
     else
     some true
    else
    some true
   else
   some true) λj20=>
  if j20=true then
   some (Ex.ret (s9,3))
  else
  baa (α:=Bool) (
   if¬x11.N<x8.1 then
    some (decide (x8.2<x11.N))
   else
   some true) λj23=>
  if j23=true then
   some (Ex.ret (s9,3))
  else
  (Zq t0.Rows s9).bind λx25=>
  (me x25 (λx900=>ld x900 x11)).bind λx26=>
  if x26.2=true then
   some (Ex.ret (s9,11))
  else
  some (Ex.go (ea .i64 (s9+1)))
 else
 some (Ex.brk ())
noncomputable def pj(t0:GTable) (t1:List GEnum):Option (Int×Int):=
 if 64<(t0.Rows.length:Int)then
  some (64,4)
 else
 baa (α:=Bool) (
  (Sb t0.Key t1).bind λx2=>
  if x2=true then
   (Sb t0.Value t1).bind λx4=>
   some (!x4)
  else
  some true) λj5=>
 if j5=true then
  some ((-1),8)
 else
 (vd t0.Key t1).bind λx7=>
 (vd t0.Value t1).bind λx8=>
 (fa (qi t0 x7 x8) 0).bind λy=>match y with
 |.inr v=>some v
 |.inl _=>
 some (0,0)
noncomputable def Fc(t0:List GTable) (t1:(GTable->Option Bool)):Int->Option (Ex Int Unit Int):=λs1=>
 if s1<(t0.length:Int)then
  (idx t0 s1).bind λx3=>
  (t1 x3).bind λx4=>
  if x4=true then
   some (Ex.ret s1)
  else
  some (Ex.go (ea .i64 (s1+1)))
 else
 some (Ex.brk ())
noncomputable def Nb(t0:List GTable) (t1:(GTable->Option Bool)):Option Int:=
 (fa (Fc t0 t1) 0).bind λy=>match y with
 |.inr v=>some v
 |.inl _=>
 some (-1)
noncomputable def Xa(t0:List GTable) (t1:(GTable->Option Bool)):Option Bool:=
 (Nb t0 t1).bind λx1=>
 some (decide (0<=x1))
noncomputable def qe(t0:GTable) (t1:ByteArray):Option Bool:=
 some (decide (t0.Name=t1))
noncomputable def zj(t0:List GTable) (t1:ByteArray):Option Bool:=
 (Xa t0 (λx900=>qe x900 t1)).bind λx1=>
 some x1
noncomputable def Mg(t0:GLaw):Int->Option (Ex Int Unit GLawError):=λs2=>
 if s2<(t0.Tables.length:Int)then
  (idx t0.Tables s2).bind λx4=>
  (pj x4 t0.Enums).bind λx5=>
  baa (α:=(Int×Int)) (
   (qb x4.Name).bind λx6=>
   if x6=false then
    some (2,0)
   else
   baa (α:=Bool) (
    (rj t0.Enums x4.Name).bind λx8=>
    if x8=false then
     (Zq t0.Tables s2).bind λx10=>
     (zj x10 x4.Name).bind λx11=>
     some x11
    else
    some true) λj12=>
   if j12=true then
    some (7,0)
   else
   if¬x5.2=0 then
    if¬x5.1=(-1)then
     some (x5.2,(ea .i64 (100+x5.1)))
    else
    some (x5.2,0)
   else
   some (0,0)) λ(j16,j17)=>
  if¬j16=0 then
   some (Ex.ret (GLawError.mk j16 2 s2 j17))
  else
  some (Ex.go (ea .i64 (s2+1)))
 else
 some (Ex.brk ())
noncomputable def Xm(t0:GLaw):Option GLawError:=
 if 8<(t0.Tables.length:Int)then
  some (GLawError.mk 4 2 8 0)
 else
 (fa (Mg t0) 0).bind λy=>match y with
 |.inr v=>some v
 |.inl _=>
 some (GLawError.mk 0 0 0 0)
noncomputable def Ph(t0:List GField):((List GType)×Int)->Option (Ex ((List GType)×Int) (List GType) Unit):=λ(s1,s2)=>
 if s2<(t0.length:Int)then
  (idx t0 s2).bind λx4=>
  (app 16 s1 ([x4.Type_])).bind λx5=>
  some (Ex.go (x5,(ea .i64 (s2+1))))
 else
 some (Ex.brk s1)
noncomputable def Og(t0:List GField):Option (List GType):=
 (fa (Ph t0) (([]:List GType),0)).bind λy=>match y with
 |.inr _=>none
 |.inl b8=>
 some b8
noncomputable def Vc(t0:GLaw) (t1:Int):Option GSignature:=
 (idx t0.Scopes t1).bind λx1=>
 (Og x1.Inputs).bind λx2=>
 (Og x1.Defs).bind λx3=>
 baa (α:=((List GType)×Bool)) (
  baa (α:=Bool) (
   if 0<=x1.MemberScope then
    some (decide (x1.MemberScope<(t0.Scopes.length:Int)))
   else
   some false) λj5=>
  if j5=true then
   (idx t0.Scopes x1.MemberScope).bind λx7=>
   (Og x7.Defs).bind λx8=>
   some (x8,true)
  else
  some (([]:List GType),false)) λ(j9,j10)=>
 some (GSignature.mk t0.Enums t0.Tables x2 x3 j9 j10)
noncomputable def Wl(t0:List (List Int)) (t1:Int):Option (List Int):=
 if t0.length<=1048576/\(∀l∈t0,l.length<=1048576/\∀e∈l,0<=e/\e<t0.length)/\0<=t1/\t1<t0.length then
  some (GD t0 t1)
 else none
noncomputable def ob(t0:List Int):Option (List Int):=if t0.length<=8796093022208 then some (t0.mergeSort λx y=>decide (x<=y))else none
noncomputable def Pa(t0:List Int):Option (List Int):=if t0.length<=8796093022208 then some (Go.Lib.compact t0)else none
noncomputable def ti(t0:List Int):Option (List Int):=
 (ob t0).bind λx1=>
 (Pa x1).bind λx2=>
 some x2
noncomputable def Ig(t0:List GNode):((List Int)×(List Int)×(List Int)×Int)->Option (Ex ((List Int)×(List Int)×(List Int)×Int) ((List Int)×(List Int)×(List Int)) Unit):=λ(s1,s2,s3,s4)=>
 if s4<(t0.length:Int)then
  baa (α:=((List Int)×(List Int)×(List Int))) (
   (idx t0 s4).bind λx6=>
   if x6.Op=7 then
    (app 8 s1 ([x6.N])).bind λx8=>
    some (x8,s2,s3)
   else
   if x6.Op=8 then
    (app 8 s2 ([x6.N])).bind λx10=>
    some (s1,x10,s3)
   else
   baa (α:=Bool) (
    if x6.Op=36 then
     some true
    else
    if x6.Op=37 then
     some true
    else
    if x6.Op=38 then
     some true
    else
    some (x6.Op==39)) λj14=>
   if j14=true then
    (app 8 s3 ([x6.N])).bind λx16=>
    some (s1,s2,x16)
   else
   some (s1,s2,s3)) λ(j17,j18,j19)=>
  some (Ex.go (j17,j18,j19,(ea .i64 (s4+1))))
 else
 some (Ex.brk (s1,s2,s3))
noncomputable def ph(t0:List GNode):Option ((List Int)×(List Int)×(List Int)):=
 (fa (Ig t0) (([]:List Int),([]:List Int),([]:List Int),0)).bind λy=>match y with
 |.inr _=>none
 |.inl (b24,b25,b26)=>
 (ti b24).bind λx27=>
 (ti b25).bind λx28=>
 (ti b26).bind λx29=>
 some (x27,x28,x29)
noncomputable def Ae(t1:Int) (x1:((List Int)×(List Int)×(List Int))):((List Int)×Int)->Option (Ex ((List Int)×Int) (List Int) Unit):=λ(s3,s4)=>
 if s4<(x1.2.1.length:Int)then
  baa (α:=(List Int)) (
   (idx x1.2.1 s4).bind λx6=>
   baa (α:=Bool) (
    if 0<=x6 then
     some (decide (x6<t1))
    else
    some false) λj8=>
   if j8=true then
    (app 8 s3 ([x6])).bind λx10=>
    some x10
   else
   some s3) λj11=>
  some (Ex.go (j11,(ea .i64 (s4+1))))
 else
 some (Ex.brk s3)
noncomputable def xe(t1:Int) (x2:((List Int)×(List Int)×(List Int))):((List Int)×Int)->Option (Ex ((List Int)×Int) (List Int) Unit):=λ(s15,s16)=>
 if s16<(x2.2.1.length:Int)then
  baa (α:=(List Int)) (
   (idx x2.2.1 s16).bind λx18=>
   baa (α:=Bool) (
    if 0<=x18 then
     some (decide (x18<t1))
    else
    some false) λj20=>
   if j20=true then
    (app 8 s15 ([x18])).bind λx22=>
    some x22
   else
   some s15) λj23=>
  some (Ex.go (j23,(ea .i64 (s16+1))))
 else
 some (Ex.brk s15)
noncomputable def Bd(t0:GRule) (t1:Int):Option (List Int):=
 (ph t0.Guard).bind λx1=>
 (ph t0.Value).bind λx2=>
 (fa (Ae t1 x1) (([]:List Int),0)).bind λy=>match y with
 |.inr _=>none
 |.inl b14=>
 (fa (xe t1 x2) (b14,0)).bind λy=>match y with
 |.inr _=>none
 |.inl b26=>
 some b26
noncomputable def Li(t0:List Int):Option (List Int):=
 (ob t0).bind λx1=>
 (Pa x1).bind λx2=>
 some x2
noncomputable def Ki(t0:GScope):Option (List (List Int)):=
 if t0.Defs.length<=1048576/\t0.Rules.length<=1048576/\(∀r∈t0.Rules,r.Guard.length<=1048576/\r.Value.length<=1048576)then
  ((uaa t0.Defs.length).mapM λ(d:Nat)=>((t0.Rules.filter λ(r:GRule)=>r.Def==(d:Int)).mapM λr=>Bd r t0.Defs.length).bind λls=>some (oe ls.flatten))
 else none
noncomputable def Nj(t0:GScope) (t1:Int):Option (List Int):=
 baa (α:=Bool) (
  if¬t1<0 then
   some (decide ((t0.Defs.length:Int)<=t1))
  else
  some true) λj2=>
 if j2=true then
  some ([])
 else
 (Ki t0).bind λx4=>
 (Wl x4 t1).bind λx5=>
 some x5
noncomputable def Ec(t0:List GScope) (t1:(GScope->Option Bool)):Int->Option (Ex Int Unit Int):=λs1=>
 if s1<(t0.length:Int)then
  (idx t0 s1).bind λx3=>
  (t1 x3).bind λx4=>
  if x4=true then
   some (Ex.ret s1)
  else
  some (Ex.go (ea .i64 (s1+1)))
 else
 some (Ex.brk ())
noncomputable def Mb(t0:List GScope) (t1:(GScope->Option Bool)):Option Int:=
 (fa (Ec t0 t1) 0).bind λy=>match y with
 |.inr v=>some v
 |.inl _=>
 some (-1)
noncomputable def Wa(t0:List GScope) (t1:(GScope->Option Bool)):Option Bool:=
 (Mb t0 t1).bind λx1=>
 some (decide (0<=x1))
noncomputable def Yc(t0:GScope) (t1:GScope):Option Bool:=
 some (decide (t0.Name=t1.Name))
noncomputable def Bc(t0:GField) (t1:GField):Option Bool:=
 some (decide (t0.Name=t1.Name))
noncomputable def Dc(t0:List GField) (t1:(GField->Option Bool)):Int->Option (Ex Int Unit Int):=λs1=>
 if s1<(t0.length:Int)then
  (idx t0 s1).bind λx3=>
  (t1 x3).bind λx4=>
  if x4=true then
   some (Ex.ret s1)
  else
  some (Ex.go (ea .i64 (s1+1)))
 else
 some (Ex.brk ())
noncomputable def Lb(t0:List GField) (t1:(GField->Option Bool)):Option Int:=
 (fa (Dc t0 t1) 0).bind λy=>match y with
 |.inr v=>some v
 |.inl _=>
 some (-1)
noncomputable def La(t0:List GField) (t1:(GField->Option Bool)):Option Bool:=
 (Lb t0 t1).bind λx1=>
 some (decide (0<=x1))
noncomputable def Kg(t0:GLaw) (t1:GField) (t2:List GField) (t3:List GField):Option Int:=
 (qb t1.Name).bind λx1=>
 if x1=false then
  some 2
 else
 baa (α:=Bool) (
  (La t2 (λx900=>Bc x900 t1)).bind λx3=>
  if x3=false then
   (La t3 (λx900=>Bc x900 t1)).bind λx5=>
   some x5
  else
  some true) λj6=>
 if j6=true then
  some 7
 else
 (Sb t1.Type_ t0.Enums).bind λx8=>
 if x8=false then
  some 8
 else
 some 0
noncomputable def Pc(t0:List GRule) (t1:(GRule->Option Bool)):Int->Option (Ex Int Unit Int):=λs1=>
 if s1<(t0.length:Int)then
  (idx t0 s1).bind λx3=>
  (t1 x3).bind λx4=>
  if x4=true then
   some (Ex.ret s1)
  else
  some (Ex.go (ea .i64 (s1+1)))
 else
 some (Ex.brk ())
noncomputable def nc(t0:List GRule) (t1:(GRule->Option Bool)):Option Int:=
 (fa (Pc t0 t1) 0).bind λy=>match y with
 |.inr v=>some v
 |.inl _=>
 some (-1)
noncomputable def Ib(t0:List GRule) (t1:(GRule->Option Bool)):Option Bool:=
 (nc t0 t1).bind λx1=>
 some (decide (0<=x1))
noncomputable def Me(t0:GRule) (t1:GRule):Option Bool:=
 some (decide (t0.Name=t1.Name))
noncomputable def strings_Contains(t0:ByteArray) (t1:ByteArray):Option Bool:=
 if t1.size=1 then some (t0.data.toList.contains (t1.data.toList.headD 0))else none
noncomputable def Pg(t0:ByteArray):Int->Option (Ex Int Unit Bool):=λs5=>
 if s5<(t0.size:Int)then
  baa (α:=Bool) (
   (Zr t0 s5).bind λx7=>
   if¬x7<32 then
    some (decide (126<x7))
   else
   some true) λj9=>
  if j9=true then
   some (Ex.ret false)
  else
  some (Ex.go (ea .i64 (s5+1)))
 else
 some (Ex.brk ())
noncomputable def rh(t0:ByteArray):Option Bool:=
 baa (α:=Bool) (
  if¬64<(t0.size:Int)then
   (strings_Contains t0 (faa #[34])).bind λx2=>
   some x2
  else
  some true) λj3=>
 if j3=true then
  some false
 else
 (fa (Pg t0) 0).bind λy=>match y with
 |.inr v=>some v
 |.inl _=>
 some true
noncomputable def Hg(t0:Int):Option Int:=
 baa (α:=Bool) (
  if t0=1 then
   some true
  else
  if t0=2 then
   some true
  else
  if t0=3 then
   some true
  else
  if t0=4 then
   some true
  else
  if t0=5 then
   some true
  else
  if t0=6 then
   some true
  else
  if t0=7 then
   some true
  else
  if t0=8 then
   some true
  else
  if t0=9 then
   some true
  else
  if t0=35 then
   some true
  else
  if t0=36 then
   some true
  else
  if t0=37 then
   some true
  else
  if t0=38 then
   some true
  else
  some (t0==39)) λj14=>
 if j14=true then
  some 0
 else
 baa (α:=Bool) (
  if t0=10 then
   some true
  else
  if t0=25 then
   some true
  else
  if t0=31 then
   some true
  else
  if t0=32 then
   some true
  else
  if t0=33 then
   some true
  else
  some (t0==34)) λj21=>
 if j21=true then
  some 1
 else
 baa (α:=Bool) (
  if t0=11 then
   some true
  else
  if t0=12 then
   some true
  else
  if t0=13 then
   some true
  else
  if t0=14 then
   some true
  else
  if t0=15 then
   some true
  else
  if t0=16 then
   some true
  else
  if t0=17 then
   some true
  else
  if t0=18 then
   some true
  else
  if t0=19 then
   some true
  else
  if t0=20 then
   some true
  else
  if t0=21 then
   some true
  else
  if t0=22 then
   some true
  else
  if t0=23 then
   some true
  else
  if t0=24 then
   some true
  else
  if t0=27 then
   some true
  else
  if t0=28 then
   some true
  else
  if t0=29 then
   some true
  else
  some (t0==30)) λj40=>
 if j40=true then
  some 2
 else
 if t0=26 then
  some 3
 else
 some (-1)
noncomputable def Hh(t0:List GNode):((List Int)×(List Int)×Int)->Option (Ex ((List Int)×(List Int)×Int) ((List Int)×(List Int)) ((List Int)×Int×Int)):=λ(s4,s5,s6)=>
 if s6<(t0.length:Int)then
  (idx t0 s6).bind λx8=>
  (Hg x8.Op).bind λx9=>
  if x9<0 then
   some (Ex.ret ([],s6,2))
  else
  if(s5.length:Int)<x9 then
   some (Ex.ret ([],s6,5))
  else
  (idx s4 s6).bind λx12=>
  (put s4 s6 s6).bind λx13=>
  baa (α:=(List Int)) (
   if 0<x9 then
    (idx s5 (ea .i64 ((s5.length:Int)-x9))).bind λx15=>
    (idx x13 s6).bind λx16=>
    (put x13 s6 x15).bind λx17=>
    some x17
   else
   some x13) λj18=>
  (Zq s5 (ea .i64 ((s5.length:Int)-x9))).bind λx19=>
  (idx j18 s6).bind λx20=>
  (app 8 x19 ([x20])).bind λx21=>
  if 12<(x21.length:Int)then
   some (Ex.ret ([],s6,16))
  else
  some (Ex.go (j18,x21,(ea .i64 (s6+1))))
 else
 some (Ex.brk (s4,s5))
noncomputable def Oi(t0:List GNode):Option ((List Int)×Int×Int):=
 if 48<(t0.length:Int)then
  some ([],0,4)
 else
 if(t0.length:Int)=0 then
  some ([],0,5)
 else
 (sE 8 0 (t0.length:Int) (t0.length:Int)).bind λx3=>
 (fa (Hh t0) (x3,([]:List Int),0)).bind λy=>match y with
 |.inr v=>some v
 |.inl (b26,b27)=>
 if 1<(b27.length:Int)then
  some ([],(t0.length:Int),4)
 else
 some (b26,0,0)
noncomputable def Vk(t0:Int):Option Bool:=
 baa (α:=Bool) (
  if t0=1 then
   some true
  else
  if t0=2 then
   some true
  else
  if t0=3 then
   some true
  else
  if t0=4 then
   some true
  else
  if t0=5 then
   some true
  else
  if t0=6 then
   some true
  else
  if t0=7 then
   some true
  else
  if t0=8 then
   some true
  else
  if t0=14 then
   some true
  else
  if t0=15 then
   some true
  else
  if t0=16 then
   some true
  else
  if t0=33 then
   some true
  else
  if t0=34 then
   some true
  else
  if t0=36 then
   some true
  else
  if t0=37 then
   some true
  else
  if t0=38 then
   some true
  else
  some (t0==39)) λj17=>
 if j17=true then
  some true
 else
 some false
noncomputable def Mc(t0:Int) (t1:Int) (t2:GSignature):Option (GType×Int):=
 (vd (GType.mk t1 0) t2.Enums).bind λx1=>
 baa (α:=Bool) (
  if¬t0<x1.1 then
   some (decide (x1.2<t0))
  else
  some true) λj3=>
 if j3=true then
  some ((GType.mk 0 0),3)
 else
 some ((GType.mk t1 0),0)
noncomputable def Gm(t0:Int) (t1:GSignature):Option (GType×Int):=
 if t0<0 then
  some ((GType.mk 0 0),3)
 else
 baa (α:=Bool) (
  if¬(t1.Enums.length:Int)<=(ea .i64 (Baa t0 16))then
   (idx t1.Enums (ea .i64 (Baa t0 16))).bind λx3=>
   some (decide ((x3.Members.length:Int)<=(Jaa t0 16)))
  else
  some true) λj4=>
 if j4=true then
  some ((GType.mk 0 0),6)
 else
 some ((GType.mk 6 (ea .i64 (Baa t0 16))),0)
noncomputable def Ob(t0:Int) (t1:List GType) (t2:GSignature):Option (GType×Int):=
 baa (α:=Bool) (
  if¬t0<0 then
   some (decide ((t1.length:Int)<=t0))
  else
  some true) λj2=>
 if j2=true then
  some ((GType.mk 0 0),6)
 else
 (idx t1 t0).bind λx4=>
 (Sb x4 t2.Enums).bind λx5=>
 if x5=false then
  some ((GType.mk 0 0),8)
 else
 some (x4,0)
noncomputable def cf(t0:Int):Option Bool:=
 baa (α:=Bool) (
  if 0<=t0 then
   some (decide (t0<=5))
  else
  some false) λj2=>
 some j2
noncomputable def Jg(t0:GNode) (t1:GType) (t2:GSignature):Option (GType×Int):=
 baa (α:=(Int⊕(GType×Int))) (
  if t0.Op=34 then
   baa (α:=Bool) (
    if¬t0.N<0 then
     (cf (Jaa t0.N 8)).bind λx3=>
     some (!x3)
    else
    some true) λj4=>
   if j4=true then
    some (Sum.inr ((GType.mk 0 0),3))
   else
   some (Sum.inl (ea .i64 (Baa t0.N 8)))
  else
  some (Sum.inl t0.N)) λz=>match z with
 |.inr v=>some v
 |.inl j6=>
 baa (α:=Bool) (
  if¬j6<0 then
   some (decide ((t2.Tables.length:Int)<=j6))
  else
  some true) λj8=>
 if j8=true then
  some ((GType.mk 0 0),6)
 else
 (idx t2.Tables j6).bind λx10=>
 baa (α:=Bool) (
  (Sb x10.Key t2.Enums).bind λx11=>
  if x11=true then
   (Sb x10.Value t2.Enums).bind λx13=>
   if x13=true then
    some (!((t1.Kind==x10.Key.Kind)&&(t1.Enum==x10.Key.Enum)))
   else
   some true
  else
  some true) λj15=>
 if j15=true then
  some ((GType.mk 0 0),8)
 else
 if t0.Op=34 then
  baa (α:=Bool) (
   if x10.Key.Kind=3 then
    some (x10.Value.Kind !=4)
   else
   some true) λj19=>
  if j19=true then
   some ((GType.mk 0 0),8)
  else
  some (x10.Key,0)
 else
 some (x10.Value,0)
noncomputable def Ve(t0:Int):Option Bool:=
 baa (α:=Bool) (
  if¬t0=2 then
   if¬t0=3 then
    some (t0==4)
   else
   some true
  else
  some true) λj3=>
 some j3
noncomputable def Pf(t0:GNode) (t1:GSignature):Option (GType×Int):=
 if t1.HasMembers=false then
  some ((GType.mk 0 0),6)
 else
 if t0.Op=35 then
  some ((GType.mk 2 0),0)
 else
 (Ob t0.N t1.MemberDefs t1).bind λx3=>
 if¬x3.2=0 then
  some ((GType.mk 0 0),x3.2)
 else
 baa (α:=Bool) (
  if t0.Op=36 then
   if¬x3.1.Kind=2 then
    some (x3.1.Kind==3)
   else
   some true
  else
  baa (α:=Bool) (
   if t0.Op=37 then
    some true
   else
   some (t0.Op==38)) λj8=>
  if j8=true then
   some (x3.1.Kind==1)
  else
  if t0.Op=39 then
   (Ve x3.1.Kind).bind λx11=>
   if x11=false then
    some (x3.1.Kind==5)
   else
   some true
  else
  some false) λj13=>
 if j13=false then
  some ((GType.mk 0 0),8)
 else
 some (x3.1,0)
noncomputable def vg(t0:Int) (t1:Int) (t2:Int):Option (GType×Bool):=
 if t0=14 then
  baa (α:=Bool) (
   if t2=4 then
    if¬t1=3 then
     some (t1==4)
    else
    some true
   else
   some false) λj4=>
  some ((GType.mk t1 0),j4)
 else
 if t2=2 then
  baa (α:=Bool) (
   if¬t1=2 then
    some (t1==3)
   else
   some true) λj7=>
  some ((GType.mk t1 0),j7)
 else
 baa (α:=Bool) (
  if t0=15 then
   if t1=3 then
    some (t2==3)
   else
   some false
  else
  some false) λj10=>
 if j10=true then
  some ((GType.mk 4 0),true)
 else
 some ((GType.mk 0 0),false)
noncomputable def Fa(t0:Int) (t1:List GType):Option (GType×Bool):=
 if t0=10 then
  (idx t1 0).bind λx2=>
  (Ve x2.Kind).bind λx3=>
  some (x2,x3)
 else
 if t0=25 then
  (idx t1 0).bind λx5=>
  some ((GType.mk 1 0),(x5.Kind==1))
 else
 baa (α:=Bool) (
  if t0=11 then
   some true
  else
  some (t0==12)) λj7=>
 if j7=true then
  baa (α:=(Int×Int×Bool)) (
   (idx t1 0).bind λx9=>
   (idx t1 1).bind λx10=>
   if x9.Kind=x10.Kind/\x9.Enum=x10.Enum then
    (Ve x9.Kind).bind λx12=>
    some (x9.Kind,x9.Enum,x12)
   else
   some (x9.Kind,x9.Enum,false)) λ(j13,j14,j15)=>
  some ((GType.mk j13 j14),j15)
 else
 baa (α:=Bool) (
  if t0=13 then
   some true
  else
  if t0=14 then
   some true
  else
  some (t0==15)) λj18=>
 if j18=true then
  (idx t1 0).bind λx20=>
  (idx t1 1).bind λx21=>
  (vg t0 x20.Kind x21.Kind).bind λx22=>
  some (x22.1,x22.2)
 else
 if t0=16 then
  baa (α:=(Int×Int×Bool)) (
   (idx t1 0).bind λx24=>
   if x24.Kind=3 then
    (idx t1 1).bind λx26=>
    some (x24.Kind,x24.Enum,(x26.Kind==3))
   else
   some (x24.Kind,x24.Enum,false)) λ(j27,j28,j29)=>
  some ((GType.mk j27 j28),j29)
 else
 baa (α:=Bool) (
  if t0=17 then
   some true
  else
  some (t0==18)) λj31=>
 if j31=true then
  baa (α:=(Int×Int×Bool)) (
   (idx t1 0).bind λx33=>
   (idx t1 1).bind λx34=>
   if x33.Kind=x34.Kind/\x33.Enum=x34.Enum then
    (Ve x33.Kind).bind λx36=>
    if x36=false then
     some (x33.Kind,x33.Enum,(x33.Kind==5))
    else
    some (x33.Kind,x33.Enum,true)
   else
   some (x33.Kind,x33.Enum,false)) λ(j38,j39,j40)=>
  some ((GType.mk j38 j39),j40)
 else
 baa (α:=Bool) (
  if t0=19 then
   some true
  else
  some (t0==20)) λj42=>
 if j42=true then
  (idx t1 0).bind λx44=>
  (idx t1 1).bind λx45=>
  some ((GType.mk 1 0),((x44.Kind==x45.Kind)&&(x44.Enum==x45.Enum)))
 else
 baa (α:=Bool) (
  if t0=21 then
   some true
  else
  some (t0==22)) λj47=>
 if j47=true then
  baa (α:=Bool) (
   (idx t1 0).bind λx49=>
   (idx t1 1).bind λx50=>
   if x49.Kind=x50.Kind/\x49.Enum=x50.Enum then
    (Ve x49.Kind).bind λx52=>
    if x52=false then
     some (x49.Kind==5)
    else
    some true
   else
   some false) λj54=>
  some ((GType.mk 1 0),j54)
 else
 baa (α:=Bool) (
  if t0=23 then
   some true
  else
  some (t0==24)) λj56=>
 if j56=true then
  baa (α:=Bool) (
   (idx t1 0).bind λx58=>
   if x58.Kind=1 then
    (idx t1 1).bind λx60=>
    some (x60.Kind==1)
   else
   some false) λj61=>
  some ((GType.mk 1 0),j61)
 else
 if t0=26 then
  baa (α:=(Int×Int×Bool)) (
   (idx t1 1).bind λx63=>
   (idx t1 0).bind λx64=>
   if x64.Kind=1 then
    (idx t1 2).bind λx66=>
    some (x63.Kind,x63.Enum,((x63.Kind==x66.Kind)&&(x63.Enum==x66.Enum)))
   else
   some (x63.Kind,x63.Enum,false)) λ(j67,j68,j69)=>
  some ((GType.mk j67 j68),j69)
 else
 baa (α:=Bool) (
  if t0=27 then
   some true
  else
  some (t0==28)) λj71=>
 if j71=true then
  baa (α:=(Int×Int×Bool)) (
   (idx t1 0).bind λx73=>
   if x73.Kind=5 then
    (idx t1 1).bind λx75=>
    some (x73.Kind,x73.Enum,(x75.Kind==2))
   else
   some (x73.Kind,x73.Enum,false)) λ(j76,j77,j78)=>
  some ((GType.mk j76 j77),j78)
 else
 baa (α:=Bool) (
  if t0=29 then
   some true
  else
  some (t0==30)) λj80=>
 if j80=true then
  baa (α:=Bool) (
   (idx t1 0).bind λx82=>
   if x82.Kind=5 then
    (idx t1 1).bind λx84=>
    some (x84.Kind==5)
   else
   some false) λj85=>
  some ((GType.mk 2 0),j85)
 else
 baa (α:=Bool) (
  if t0=31 then
   some true
  else
  some (t0==32)) λj87=>
 if j87=true then
  (idx t1 0).bind λx89=>
  some ((GType.mk 2 0),(x89.Kind==5))
 else
 some ((GType.mk 0 0),false)
noncomputable def ra(t0:GNode) (t1:List GType) (t2:GSignature):Option (GType×Int):=
 baa (α:=(Unit⊕(GType×Int))) (
  if t0.Op=1 then
   (Mc t0.N 1 t2).bind λx2=>
   some (Sum.inr (x2.1,x2.2))
  else
  if t0.Op=2 then
   (Mc t0.N 2 t2).bind λx4=>
   some (Sum.inr (x4.1,x4.2))
  else
  if t0.Op=3 then
   (Mc t0.N 3 t2).bind λx6=>
   some (Sum.inr (x6.1,x6.2))
  else
  if t0.Op=4 then
   (Mc t0.N 4 t2).bind λx8=>
   some (Sum.inr (x8.1,x8.2))
  else
  if t0.Op=5 then
   (Mc t0.N 5 t2).bind λx10=>
   some (Sum.inr (x10.1,x10.2))
  else
  if t0.Op=6 then
   (Gm t0.N t2).bind λx12=>
   some (Sum.inr (x12.1,x12.2))
  else
  if t0.Op=7 then
   (Ob t0.N t2.Inputs t2).bind λx14=>
   some (Sum.inr (x14.1,x14.2))
  else
  if t0.Op=8 then
   (Ob t0.N t2.Defs t2).bind λx16=>
   some (Sum.inr (x16.1,x16.2))
  else
  if t0.Op=9 then
   some (Sum.inr ((GType.mk 5 0),0))
  else
  baa (α:=Bool) (
   if t0.Op=33 then
    some true
   else
   some (t0.Op==34)) λj19=>
  if j19=true then
   (idx t1 0).bind λx21=>
   (Jg t0 x21 t2).bind λx22=>
   some (Sum.inr (x22.1,x22.2))
  else
  baa (α:=Bool) (
   if t0.Op=35 then
    some true
   else
   if t0.Op=36 then
    some true
   else
   if t0.Op=37 then
    some true
   else
   if t0.Op=38 then
    some true
   else
   some (t0.Op==39)) λj27=>
  if j27=true then
   (Pf t0 t2).bind λx29=>
   some (Sum.inr (x29.1,x29.2))
  else
  baa (α:=Bool) (
   if t0.Op=14 then
    some true
   else
   if t0.Op=15 then
    some true
   else
   some (t0.Op==16)) λj32=>
  if j32=true then
   (cf t0.N).bind λx34=>
   if x34=false then
    some (Sum.inr ((GType.mk 0 0),3))
   else
   some (Sum.inl ())
  else
  some (Sum.inl ())) λz=>match z with
 |.inr v=>some v
 |.inl _=>
 (Fa t0.Op t1).bind λx36=>
 if x36.2=false then
  some ((GType.mk 0 0),8)
 else
 some (x36.1,0)
noncomputable def Uk(t0:List GNode) (t1:GSignature):((List GType)×Int)->Option (Ex ((List GType)×Int) (List GType) (GType×Int×Int)):=λ(s3,s4)=>
 if s4<(t0.length:Int)then
  (idx t0 s4).bind λx6=>
  baa (α:=Bool) (
   if¬x6.N=0 then
    (Vk x6.Op).bind λx8=>
    some (!x8)
   else
   some false) λj9=>
  if j9=true then
   some (Ex.ret ((GType.mk 0 0),s4,2))
  else
  (Hg x6.Op).bind λx11=>
  (aC s3 (ea .i64 ((s3.length:Int)-x11))).bind λx12=>
  (ra x6 x12 t1).bind λx13=>
  if¬x13.2=0 then
   some (Ex.ret ((GType.mk 0 0),s4,x13.2))
  else
  (Zq s3 (ea .i64 ((s3.length:Int)-x11))).bind λx15=>
  (app 16 x15 ([x13.1])).bind λx16=>
  some (Ex.go (x16,(ea .i64 (s4+1))))
 else
 some (Ex.brk s3)
noncomputable def Dn(t0:List GNode) (t1:GSignature):Option (GType×Int×Int):=
 (Oi t0).bind λx1=>
 if¬x1.2.2=0 then
  some ((GType.mk 0 0),x1.2.1,x1.2.2)
 else
 (fa (Uk t0 t1) (([]:List GType),0)).bind λy=>match y with
 |.inr v=>some v
 |.inl b19=>
 (idx b19 0).bind λx20=>
 some (x20,0,0)
noncomputable def vi(t0:List GNode) (t1:GSignature) (t2:GType):Option Int:=
 (Dn t0 t1).bind λx1=>
 if¬x1.2.2=0 then
  some x1.2.2
 else
 if¬(x1.1.Kind=t2.Kind/\x1.1.Enum=t2.Enum)then
  some 8
 else
 some 0
noncomputable def Ui(x1:GRule) (x2:List GRule):(Int×Int)->Option (Ex (Int×Int) Int Unit):=λ(s3,s4)=>
 if s4<(x2.length:Int)then
  baa (α:=Int) (
   (idx x2 s4).bind λx6=>
   if x6.Def=x1.Def then
    some (ea .i64 (s3+1))
   else
   some s3) λj8=>
  some (Ex.go (j8,(ea .i64 (s4+1))))
 else
 some (Ex.brk s3)
noncomputable def qk(t0:GScope) (t1:Int) (t2:GSignature):Option Int:=
 (idx t0.Rules t1).bind λx1=>
 (Zq t0.Rules t1).bind λx2=>
 (fa (Ui x1 x2) (0,0)).bind λy=>match y with
 |.inr _=>none
 |.inl b11=>
 (qb x1.Name).bind λx12=>
 if x12=false then
  some 2
 else
 (Zq t0.Rules t1).bind λx14=>
 (Ib x14 (λx900=>Me x900 x1)).bind λx15=>
 if x15=true then
  some 7
 else
 baa (α:=Bool) (
  if¬x1.Def<0 then
   some (decide ((t0.Defs.length:Int)<=x1.Def))
  else
  some true) λj18=>
 if j18=true then
  some 6
 else
 baa (α:=Bool) (
  if¬x1.Parent=(-1)then
   if¬x1.Parent<0 then
    if¬t1<=x1.Parent then
     (idx t0.Rules x1.Parent).bind λx23=>
     some (x23.Def !=x1.Def)
    else
    some true
   else
   some true
  else
  some false) λj24=>
 if j24=true then
  some 9
 else
 baa (α:=Bool) (
  if¬x1.Priority<0 then
   some (decide (9<x1.Priority))
  else
  some true) λj27=>
 if j27=true then
  some 3
 else
 baa (α:=Bool) (
  if¬x1.Valid.From<0 then
   if¬x1.Valid.To<=x1.Valid.From then
    some (decide (109573<x1.Valid.To))
   else
   some true
  else
  some true) λj31=>
 if j31=true then
  some 3
 else
 if 8<=b11 then
  some 4
 else
 (rh x1.Source).bind λx34=>
 if x34=false then
  some 2
 else
 baa (α:=(Unit⊕Int)) (
  if 0<(x1.Guard.length:Int)then
   (vi x1.Guard t2 (GType.mk 1 0)).bind λx37=>
   if¬x37=0 then
    some (Sum.inr x37)
   else
   some (Sum.inl ())
  else
  some (Sum.inl ())) λz=>match z with
 |.inr v=>some v
 |.inl _=>
 (idx t0.Defs x1.Def).bind λx39=>
 (vi x1.Value t2 x39.Type_).bind λx40=>
 some x40
noncomputable def Jf(t0:List Int) (t1:Int):Int->Option (Ex Int Unit Int):=λs1=>
 if s1<(t0.length:Int)then
  (idx t0 s1).bind λx3=>
  if t1=x3 then
   some (Ex.ret s1)
  else
  some (Ex.go (ea .i64 (s1+1)))
 else
 some (Ex.brk ())
noncomputable def Ll(t0:List Int) (t1:Int):Option Int:=
 (fa (Jf t0 t1) 0).bind λy=>match y with
 |.inr v=>some v
 |.inl _=>
 some (-1)
noncomputable def Nd(t0:List Int) (t1:Int):Option Bool:=
 (Ll t0 t1).bind λx1=>
 some (decide (0<=x1))
noncomputable def Nh(t0:GLaw) (x1:GScope):Int->Option (Ex Int Unit (Int×Int)):=λs20=>
 if s20<(x1.Inputs.length:Int)then
  (idx x1.Inputs s20).bind λx22=>
  (Zq x1.Inputs s20).bind λx23=>
  (Kg t0 x22 x23 ([])).bind λx24=>
  if¬x24=0 then
   some (Ex.ret (x24,(ea .i64 (100+s20))))
  else
  some (Ex.go (ea .i64 (s20+1)))
 else
 some (Ex.brk ())
noncomputable def Mh(t0:GLaw) (x1:GScope):Int->Option (Ex Int Unit (Int×Int)):=λs27=>
 if s27<(x1.Defs.length:Int)then
  (idx x1.Defs s27).bind λx29=>
  (Zq x1.Defs s27).bind λx30=>
  (Kg t0 x29 x1.Inputs x30).bind λx31=>
  if¬x31=0 then
   some (Ex.ret (x31,(ea .i64 (200+s27))))
  else
  some (Ex.go (ea .i64 (s27+1)))
 else
 some (Ex.brk ())
noncomputable def Kh(x1:GScope) (x34:GSignature):Int->Option (Ex Int Unit (Int×Int)):=λs35=>
 if s35<(x1.Rules.length:Int)then
  (qk x1 s35 x34).bind λx37=>
  if¬x37=0 then
   some (Ex.ret (x37,(ea .i64 (300+s35))))
  else
  some (Ex.go (ea .i64 (s35+1)))
 else
 some (Ex.brk ())
noncomputable def Jh(x1:GScope):Int->Option (Ex Int Unit (Int×Int)):=λs40=>
 if s40<(x1.Defs.length:Int)then
  (Nj x1 s40).bind λx42=>
  (Nd x42 s40).bind λx43=>
  if x43=true then
   some (Ex.ret (9,(ea .i64 (200+s40))))
  else
  some (Ex.go (ea .i64 (s40+1)))
 else
 some (Ex.brk ())
noncomputable def Vi(t0:GLaw) (t1:Int):Option (Int×Int):=
 (idx t0.Scopes t1).bind λx1=>
 (Zq t0.Scopes t1).bind λx2=>
 baa (α:=Bool) (
  (rj t0.Enums x1.Name).bind λx3=>
  if x3=false then
   (zj t0.Tables x1.Name).bind λx5=>
   if x5=false then
    (Wa x2 (λx900=>Yc x900 x1)).bind λx7=>
    some x7
   else
   some true
  else
  some true) λj8=>
 (qb x1.Name).bind λx9=>
 if x9=false then
  some (2,0)
 else
 if j8=true then
  some (7,0)
 else
 baa (α:=Bool) (
  if¬x1.MemberScope=(-1)then
   if¬x1.MemberScope<0 then
    if¬t1<=x1.MemberScope then
     (idx x2 x1.MemberScope).bind λx15=>
     some (x15.MemberScope !=(-1))
    else
    some true
   else
   some true
  else
  some false) λj16=>
 if j16=true then
  some (6,0)
 else
 if 12<(x1.Inputs.length:Int)then
  some (4,112)
 else
 if 12<(x1.Defs.length:Int)then
  some (4,212)
 else
 (fa (Nh t0 x1) 0).bind λy=>match y with
 |.inr v=>some v
 |.inl _=>
 (fa (Mh t0 x1) 0).bind λy=>match y with
 |.inr v=>some v
 |.inl _=>
 (Vc t0 t1).bind λx34=>
 (fa (Kh x1 x34) 0).bind λy=>match y with
 |.inr v=>some v
 |.inl _=>
 (fa (Jh x1) 0).bind λy=>match y with
 |.inr v=>some v
 |.inl _=>
 some (0,0)
noncomputable def Lg(t0:GLaw):Int->Option (Ex Int Unit GLawError):=λs2=>
 if s2<(t0.Scopes.length:Int)then
  (Vi t0 s2).bind λx4=>
  if¬x4.1=0 then
   some (Ex.ret (GLawError.mk x4.1 3 s2 x4.2))
  else
  some (Ex.go (ea .i64 (s2+1)))
 else
 some (Ex.brk ())
noncomputable def Wm(t0:GLaw):Option GLawError:=
 if 4<(t0.Scopes.length:Int)then
  some (GLawError.mk 4 3 4 0)
 else
 (fa (Lg t0) 0).bind λy=>match y with
 |.inr v=>some v
 |.inl _=>
 some (GLawError.mk 0 0 0 0)
noncomputable def fo(t0:GLaw):Option GLawError:=
 (jo t0).bind λx1=>
 if¬x1.Code=0 then
  some x1
 else
 (Xm t0).bind λx3=>
 if¬x3.Code=0 then
  some x3
 else
 (Wm t0).bind λx5=>
 some x5
noncomputable def Vd(t0:List GRule) (t1:(GRule->Option Bool)):((List Int)×(List Int)×(List Int)×Int)->Option (Ex ((List Int)×(List Int)×(List Int)×Int) ((List Int)×(List Int)) Unit):=λ(s2,s3,s4,s5)=>
 if s5<(t0.length:Int)then
  baa (α:=((List Int)×(List Int)×(List Int))) (
   (idx t0 s5).bind λx7=>
   baa (α:=Int) (
    baa (α:=Bool) (
     if 0<=x7.Parent then
      some (decide (x7.Parent<s5))
     else
     some false) λj9=>
    if j9=true then
     (idx s4 x7.Parent).bind λx11=>
     some x11
    else
    some (-1)) λj12=>
   (idx s4 s5).bind λx13=>
   (put s4 s5 j12).bind λx14=>
   (t1 x7).bind λx15=>
   if x15=true then
    (idx x14 s5).bind λx17=>
    (put x14 s5 (s2.length:Int)).bind λx18=>
    (app 8 s2 ([s5])).bind λx19=>
    (app 8 s3 ([j12])).bind λx20=>
    some (x19,x20,x18)
   else
   some (s2,s3,x14)) λ(j21,j22,j23)=>
  some (Ex.go (j21,j22,j23,(ea .i64 (s5+1))))
 else
 some (Ex.brk (s2,s3))
noncomputable def xc(t0:List GRule) (t1:(GRule->Option Bool)):Option ((List Int)×(List Int)):=
 (sE 8 0 (t0.length:Int) (t0.length:Int)).bind λx1=>
 (fa (Vd t0 t1) (([]:List Int),([]:List Int),x1,0)).bind λy=>match y with
 |.inr _=>none
 |.inl (b28,b29)=>
 some (b28,b29)
noncomputable def Je(t0:GDateRange) (t1:Int):Option Bool:=
 baa (α:=Bool) (
  (Mf t0).bind λx1=>
  if x1=true then
   if t0.From<=t1 then
    some (decide (t1<t0.To))
   else
   some false
  else
  some false) λj4=>
 some j4
noncomputable def Hc(t0:GRule) (t1:Int) (t2:Int):Option Bool:=
 baa (α:=Bool) (
  if t0.Def=t1 then
   (Je t0.Valid t2).bind λx2=>
   some x2
  else
  some false) λj3=>
 some j3
noncomputable def Ef(t0:GScope) (t1:Int) (t2:Int):Option (List Int):=
 (xc t0.Rules (λx900=>Hc x900 t1 t2)).bind λx1=>
 some x1.1
noncomputable def Ze(t0:GScope) (x1:List Int):((List (List GNode))×Int)->Option (Ex ((List (List GNode))×Int) (List (List GNode)) Unit):=λ(s2,s3)=>
 if s3<(x1.length:Int)then
  baa (α:=(List (List GNode))) (
   (idx x1 s3).bind λx5=>
   (idx t0.Rules x5).bind λx6=>
   if 0<(x6.Guard.length:Int)then
    (app 24 s2 ([x6.Guard])).bind λx8=>
    some x8
   else
   some s2) λj9=>
  some (Ex.go (j9,(ea .i64 (s3+1))))
 else
 some (Ex.brk s2)
noncomputable def Ah(t0:GScope) (t1:Int) (t2:Int):Option (List (List GNode)):=
 (Ef t0 t1 t2).bind λx1=>
 (fa (Ze t0 x1) (([]:List (List GNode)),0)).bind λy=>match y with
 |.inr _=>none
 |.inl b12=>
 some b12
noncomputable def ee(t0:List ByteArray):Option (List ByteArray):=if t0.length<=1099511627776 then some t0 else none
noncomputable def Oh(t0:List GEnum):((List GEnum)×Int)->Option (Ex ((List GEnum)×Int) (List GEnum) Unit):=λ(s1,s2)=>
 if s2<(t0.length:Int)then
  (idx t0 s2).bind λx4=>
  (ee x4.Members).bind λx5=>
  (app 40 s1 ([(GEnum.mk x4.Name x5)])).bind λx6=>
  some (Ex.go (x6,(ea .i64 (s2+1))))
 else
 some (Ex.brk s1)
noncomputable def ml(t0:List GEnum):Option (List GEnum):=
 (fa (Oh t0) (([]:List GEnum),0)).bind λy=>match y with
 |.inr _=>none
 |.inl b9=>
 some b9
noncomputable def ud(t0:List GRow):Option (List GRow):=if t0.length<=1099511627776 then some t0 else none
noncomputable def Ng(t0:List GTable):((List GTable)×Int)->Option (Ex ((List GTable)×Int) (List GTable) Unit):=λ(s1,s2)=>
 if s2<(t0.length:Int)then
  (idx t0 s2).bind λx4=>
  (ud x4.Rows).bind λx5=>
  (app 72 s1 ([(GTable.mk x4.Name x4.Key x4.Value x5)])).bind λx6=>
  some (Ex.go (x6,(ea .i64 (s2+1))))
 else
 some (Ex.brk s1)
noncomputable def Qj(t0:List GTable):Option (List GTable):=
 (fa (Ng t0) (([]:List GTable),0)).bind λy=>match y with
 |.inr _=>none
 |.inl b9=>
 some b9
noncomputable def Hm(t0:GLaw) (t1:Int):Option GSignature:=
 baa (α:=Bool) (
  if¬t1<0 then
   some (decide ((t0.Scopes.length:Int)<=t1))
  else
  some true) λj2=>
 if j2=true then
  some (GSignature.mk ([]) ([]) ([]) ([]) ([]) false)
 else
 (Vc t0 t1).bind λx4=>
 (ml x4.Enums).bind λx5=>
 (Qj x4.Tables).bind λx6=>
 some (GSignature.mk x5 x6 x4.Inputs x4.Defs x4.MemberDefs x4.HasMembers)
noncomputable def Lf(t0:GNode):Option Bool:=
 baa (α:=Bool) (
  if t0.Op=2 then
   some true
  else
  if t0.Op=3 then
   some true
  else
  if t0.Op=4 then
   some true
  else
  if t0.Op=5 then
   some true
  else
  some (t0.Op==6)) λj5=>
 if j5=true then
  some true
 else
 some false
noncomputable def Ie(t0:GNode):Option Bool:=
 baa (α:=Bool) (
  if t0.Op=19 then
   some true
  else
  if t0.Op=20 then
   some true
  else
  if t0.Op=21 then
   some true
  else
  some (t0.Op==22)) λj4=>
 if j4=true then
  some true
 else
 some false
noncomputable def Fh(t0:List GNode):Option ((List Int)×Int):=
 (Oi t0).bind λx1=>
 some (x1.1,x1.2.2)
noncomputable def Ni(x1:((List Int)×Int)):((List Int)×Int×Int)->Option (Ex ((List Int)×Int×Int) (List Int) Unit):=λ(s9,s10,s11)=>
 if 0<=s11 then
  (idx s9 s11).bind λx13=>
  (put s9 s11 s10).bind λx14=>
  (idx x1.1 s10).bind λx15=>
  some (Ex.go (x14,(ea .i64 (x15-1)),(ea .i64 (s11-1))))
 else
 some (Ex.brk s9)
noncomputable def Fm(t0:List GNode) (t1:Int):Option (List Int):=
 (Fh t0).bind λx1=>
 baa (α:=Bool) (
  if x1.2=0 then
   if¬t1<0 then
    some (decide ((t0.length:Int)<=t1))
   else
   some true
  else
  some true) λj4=>
 if j4=true then
  some ([])
 else
 (idx t0 t1).bind λx6=>
 (Hg x6.Op).bind λx7=>
 (sE 8 0 x7 x7).bind λx8=>
 (fa (Ni x1) (x8,(ea .i64 (t1-1)),(ea .i64 ((x8.length:Int)-1)))).bind λy=>match y with
 |.inr _=>none
 |.inl b19=>
 some b19
noncomputable def Lc(t0:List GNode) (t1:Int):Option (Int×GNode×Bool):=
 (Fm t0 t1).bind λx1=>
 if¬(x1.length:Int)=2 then
  some (0,(GNode.mk 0 0),false)
 else
 (idx x1 0).bind λx3=>
 (idx t0 x3).bind λx4=>
 (idx x1 1).bind λx5=>
 (idx t0 x5).bind λx6=>
 baa (α:=Bool) (
  if x4.Op=7 then
   (Lf x6).bind λx8=>
   some x8
  else
  some false) λj9=>
 if j9=true then
  some (x4.N,x6,true)
 else
 baa (α:=Bool) (
  if x6.Op=7 then
   (Lf x4).bind λx12=>
   some x12
  else
  some false) λj13=>
 if j13=true then
  some (x6.N,x4,true)
 else
 some (0,(GNode.mk 0 0),false)
noncomputable def Lj(t0:List GNode):Int->Option (Ex Int Unit Bool):=λs5=>
 if s5<(t0.length:Int)then
  baa (α:=(Unit⊕(Ex Int Unit Bool))) (
   (idx t0 s5).bind λx7=>
   baa (α:=Bool) (
    if x7.Op=1 then
     some true
    else
    if x7.Op=23 then
     some true
    else
    if x7.Op=24 then
     some true
    else
    if x7.Op=25 then
     some true
    else
    some (x7.Op==7)) λj12=>
   if j12=true then
    some (Sum.inl ())
   else
   (Lf x7).bind λx14=>
   if x14=true then
    some (Sum.inl ())
   else
   (Ie x7).bind λx16=>
   if x16=false then
    some (Sum.inr (Ex.ret false))
   else
   (Lc t0 s5).bind λx18=>
   if x18.2.2=false then
    some (Sum.inr (Ex.ret false))
   else
   some (Sum.inl ())) λz=>match z with
  |.inr v=>some v
  |.inl _=>
  some (Ex.go (ea .i64 (s5+1)))
 else
 some (Ex.brk ())
noncomputable def Ul(t0:List GNode) (t1:GSignature):Option Bool:=
 (Dn t0 t1).bind λx1=>
 baa (α:=Bool) (
  if x1.2.2=0 then
   some (!((x1.1.Kind==1)&&(x1.1.Enum==0)))
  else
  some true) λj3=>
 if j3=true then
  some false
 else
 (fa (Lj t0) 0).bind λy=>match y with
 |.inr v=>some v
 |.inl _=>
 some true
noncomputable def tc(t0:List GNode) (t1:GNode):Int->Option (Ex Int Unit Int):=λs1=>
 if s1<(t0.length:Int)then
  (idx t0 s1).bind λx3=>
  if t1.Op=x3.Op/\t1.N=x3.N then
   some (Ex.ret s1)
  else
  some (Ex.go (ea .i64 (s1+1)))
 else
 some (Ex.brk ())
noncomputable def Re(t0:List GNode) (t1:GNode):Option Int:=
 (fa (tc t0 t1) 0).bind λy=>match y with
 |.inr v=>some v
 |.inl _=>
 some (-1)
noncomputable def qc(t0:List GNode) (t1:GNode):Option Bool:=
 (Re t0 t1).bind λx1=>
 some (decide (0<=x1))
noncomputable def af(t0:(List (List GNode))) (t1:Int):Int->Option (Ex Int Unit Bool):=λs1=>
 if s1<(t0.length:Int)then
  (idx t0 s1).bind λx3=>
  (qc x3 (GNode.mk 7 t1)).bind λx4=>
  if x4=true then
   some (Ex.ret true)
  else
  some (Ex.go (ea .i64 (s1+1)))
 else
 some (Ex.brk ())
noncomputable def Bh(t0:(List (List GNode))) (t1:Int):Option Bool:=
 (fa (af t0 t1) 0).bind λy=>match y with
 |.inr v=>some v
 |.inl _=>
 some false
noncomputable def od(x3:(Int×Int)):((List Int)×Int)->Option (Ex ((List Int)×Int) (List Int) Unit):=λ(s7,s8)=>
 if s8<=x3.2 then
  (app 8 s7 ([s8])).bind λx10=>
  some (Ex.go (x10,(ea .i64 (s8+1))))
 else
 some (Ex.brk s7)
noncomputable def pd(t2:List Int) (x3:(Int×Int)):((List Int)×Int)->Option (Ex ((List Int)×Int) (List Int) Unit):=λ(s14,s15)=>
 if s15<(t2.length:Int)then
  baa (α:=(List Int)) (
   (idx t2 s15).bind λx17=>
   baa (α:=Bool) (
    if x3.1<=x17 then
     some (decide (x17<=x3.2))
    else
    some false) λj19=>
   if j19=true then
    (app 8 s14 ([x17])).bind λx21=>
    some x21
   else
   some s14) λj22=>
  some (Ex.go (j22,(ea .i64 (s15+1))))
 else
 some (Ex.brk s14)
noncomputable def we(t0:GType) (t1:List GEnum) (t2:List Int):Option (List Int):=
 (Sb t0 t1).bind λx1=>
 if x1=false then
  some ([])
 else
 (vd t0 t1).bind λx3=>
 baa (α:=Bool) (
  if¬t0.Kind=1 then
   some (t0.Kind==6)
  else
  some true) λj5=>
 if j5=true then
  (fa (od x3) (([]:List Int),x3.1)).bind λy=>match y with
  |.inr _=>none
  |.inl b13=>
  some b13
 else
 (fa (pd t2 x3) ([x3.1],0)).bind λy=>match y with
 |.inr _=>none
 |.inl b25=>
 (ob b25).bind λx26=>
 (Pa x26).bind λx27=>
 some x27
noncomputable def Cg(t1:Int) (x4:List GNode):((List Int)×Int)->Option (Ex ((List Int)×Int) (List Int) Unit):=λ(s7,s8)=>
 if s8<(x4.length:Int)then
  baa (α:=(List Int)) (
   (idx x4 s8).bind λx10=>
   (Ie x10).bind λx11=>
   if x11=false then
    some s7
   else
   (Lc x4 s8).bind λx13=>
   baa (α:=Bool) (
    if x13.2.2=true then
     if x13.1=t1 then
      some (x13.2.1.Op==6)
     else
     some true
    else
    some true) λj16=>
   if j16=true then
    some s7
   else
   (app 8 s7 ([x13.2.1.N])).bind λx18=>
   if x13.2.1.N<9223372036854775807 then
    (app 8 x18 ([(ea .i64 (x13.2.1.N+1))])).bind λx20=>
    some x20
   else
   some x18) λj21=>
  some (Ex.go (j21,(ea .i64 (s8+1))))
 else
 some (Ex.brk s7)
noncomputable def Dg(t0:(List (List GNode))) (t1:Int):((List Int)×Int)->Option (Ex ((List Int)×Int) (List Int) Unit):=λ(s1,s2)=>
 if s2<(t0.length:Int)then
  baa (α:=(List Int)) (
   (idx t0 s2).bind λx4=>
   (Fh x4).bind λx5=>
   if¬x5.2=0 then
    some s1
   else
   (fa (Cg t1 x4) (s1,0)).bind λy=>match y with
   |.inr _=>none
   |.inl b24=>
   some b24) λj25=>
  some (Ex.go (j25,(ea .i64 (s2+1))))
 else
 some (Ex.brk s1)
noncomputable def Kj(t0:(List (List GNode))) (t1:Int):Option (List Int):=
 (fa (Dg t0 t1) (([]:List Int),0)).bind λy=>match y with
 |.inr _=>none
 |.inl b28=>
 (ob b28).bind λx29=>
 (Pa x29).bind λx30=>
 some x30
noncomputable def Sk(t0:(List (List Int))):(Int×Int)->Option (Ex (Int×Int) Int Int):=λ(s1,s2)=>
 if s2<(t0.length:Int)then
  baa (α:=(Int⊕(Ex (Int×Int) Int Int))) (
   (idx t0 s2).bind λx4=>
   if(x4.length:Int)=0 then
    some (Sum.inr (Ex.ret 0))
   else
   if s1<=4096 then
    some (Sum.inl (ea .i64 (s1*(x4.length:Int))))
   else
   some (Sum.inl s1)) λz=>match z with
  |.inr v=>some v
  |.inl j7=>
  some (Ex.go (j7,(ea .i64 (s2+1))))
 else
 some (Ex.brk s1)
noncomputable def Jp(t0:(List (List Int))):Option Int:=
 (fa (Sk t0) (1,0)).bind λy=>match y with
 |.inr v=>some v
 |.inl b10=>
 some (min b10 4097)
noncomputable def Ii(x13:(List (List GNode))) (x14:GSignature):Int->Option (Ex Int Unit ((List (List Int))×Int)):=λs15=>
 if s15<(x13.length:Int)then
  (idx x13 s15).bind λx17=>
  (Ul x17 x14).bind λx18=>
  if x18=false then
   some (Ex.ret ([],17))
  else
  some (Ex.go (ea .i64 (s15+1)))
 else
 some (Ex.brk ())
noncomputable def Gi(t0:GLaw) (x12:GScope) (x13:(List (List GNode))):((List (List Int))×Int)->Option (Ex ((List (List Int))×Int) (List (List Int)) Unit):=λ(s21,s22)=>
 if s22<(x12.Inputs.length:Int)then
  (idx x12.Inputs s22).bind λx24=>
  baa (α:=(List Int)) (
   (Bh x13 s22).bind λx25=>
   if x25=true then
    (Kj x13 s22).bind λx27=>
    (we x24.Type_ t0.Enums x27).bind λx28=>
    some x28
   else
   some ([0])) λj29=>
  (app 24 s21 ([j29])).bind λx30=>
  some (Ex.go (x30,(ea .i64 (s22+1))))
 else
 some (Ex.brk s21)
noncomputable def pk(t0:GLaw) (t1:Int) (t2:Int) (t3:Int):Option ((List (List Int))×Int):=
 (fo t0).bind λx1=>
 if¬x1.Code=0 then
  some ([],1)
 else
 baa (α:=Bool) (
  if¬t1<0 then
   if¬(t0.Scopes.length:Int)<=t1 then
    if¬t2<0 then
     (idx t0.Scopes t1).bind λx6=>
     some (decide ((x6.Defs.length:Int)<=t2))
    else
    some true
   else
   some true
  else
  some true) λj7=>
 if j7=true then
  some ([],6)
 else
 baa (α:=Bool) (
  if¬t3<0 then
   some (decide (109572<t3))
  else
  some true) λj10=>
 if j10=true then
  some ([],3)
 else
 (idx t0.Scopes t1).bind λx12=>
 (Ah x12 t2 t3).bind λx13=>
 (Hm t0 t1).bind λx14=>
 (fa (Ii x13 x14) 0).bind λy=>match y with
 |.inr v=>some v
 |.inl _=>
 (fa (Gi t0 x12 x13) (([]:List (List Int)),0)).bind λy=>match y with
 |.inr _=>none
 |.inl b33=>
 (Jp b33).bind λx34=>
 if 4096<x34 then
  some ([],4)
 else
 some (b33,0)
noncomputable def Ho(t0:List Int) (t1:List Int):Int->Option (Ex Int Unit Bool):=λs2=>
 baa (α:=Bool) (
  if s2<(t0.length:Int)then
   some (decide (s2<(t1.length:Int)))
  else
  some false) λj4=>
 if j4=true then
  (idx t0 s2).bind λx6=>
  (idx t1 s2).bind λx7=>
  if¬x6=x7 then
   some (Ex.ret false)
  else
  some (Ex.go (ea .i64 (s2+1)))
 else
 some (Ex.brk ())
noncomputable def um(t0:List Int) (t1:List Int):Option Bool:=
 if¬(t0.length:Int)=(t1.length:Int)then
  some false
 else
 (fa (Ho t0 t1) 0).bind λy=>match y with
 |.inr v=>some v
 |.inl _=>
 some true
noncomputable def oj(t0:(List (List Int))) (t1:(List (List Int))):Int->Option (Ex Int Unit Bool):=λs2=>
 baa (α:=Bool) (
  if s2<(t0.length:Int)then
   some (decide (s2<(t1.length:Int)))
  else
  some false) λj4=>
 if j4=true then
  (idx t0 s2).bind λx6=>
  (idx t1 s2).bind λx7=>
  (um x6 x7).bind λx8=>
  if x8=false then
   some (Ex.ret false)
  else
  some (Ex.go (ea .i64 (s2+1)))
 else
 some (Ex.brk ())
noncomputable def Rm(t0:(List (List Int))) (t1:(List (List Int))):Option Bool:=
 if¬(t0.length:Int)=(t1.length:Int)then
  some false
 else
 (fa (oj t0 t1) 0).bind λy=>match y with
 |.inr v=>some v
 |.inl _=>
 some true
noncomputable def je(t0:GRule) (t1:Int) (t2:Int):Option Bool:=
 baa (α:=Bool) (
  if t0.Def=t1 then
   (Je t0.Valid t2).bind λx2=>
   some x2
  else
  some false) λj3=>
 some j3
noncomputable def Tf(t0:GScope) (x1:((List Int)×(List Int))):((List Int)×Int)->Option (Ex ((List Int)×Int) (List Int) Unit):=λ(s2,s3)=>
 if s3<(x1.1.length:Int)then
  (idx x1.1 s3).bind λx5=>
  (idx t0.Rules x5).bind λx6=>
  (app 8 s2 ([x6.Priority])).bind λx7=>
  some (Ex.go (x7,(ea .i64 (s3+1))))
 else
 some (Ex.brk s2)
noncomputable def ug(t0:GScope) (t1:Int) (t2:Int):Option ((List Int)×(List Int)×(List Int)):=
 (xc t0.Rules (λx900=>je x900 t1 t2)).bind λx1=>
 (fa (Tf t0 x1) (([]:List Int),0)).bind λy=>match y with
 |.inr _=>none
 |.inl b10=>
 some (x1.1,x1.2,b10)
noncomputable def Gg(t0:GEval_evaluator):((List Int)×Int×Int)->Option (Ex ((List Int)×Int×Int) (List Int) Unit):=λ(s4,s5,s6)=>
 if 0<=s6 then
  (idx s4 s6).bind λx8=>
  (put s4 s6 s5).bind λx9=>
  (idx t0.starts s5).bind λx10=>
  some (Ex.go (x9,(ea .i64 (x10-1)),(ea .i64 (s6-1))))
 else
 some (Ex.brk s4)
noncomputable def Jd(t0:GEval_evaluator) (t1:Int):Option (List Int):=
 (idx t0.nodes t1).bind λx1=>
 (Hg x1.Op).bind λx2=>
 (sE 8 0 x2 x2).bind λx3=>
 (fa (Gg t0) (x3,(ea .i64 (t1-1)),(ea .i64 ((x3.length:Int)-1)))).bind λy=>match y with
 |.inr _=>none
 |.inl b14=>
 some b14
noncomputable def Pj(t0:GNode):Option Bool:=
 baa (α:=Bool) (
  (Hg t0.Op).bind λx1=>
  if¬x1<0 then
   if¬t0.N=0 then
    (Vk t0.Op).bind λx4=>
    some (!x4)
   else
   some false
  else
  some true) λj5=>
 if j5=true then
  some false
 else
 baa (α:=Bool) (
  if t0.Op=14 then
   some true
  else
  if t0.Op=15 then
   some true
  else
  some (t0.Op==16)) λj9=>
 if j9=true then
  baa (α:=Bool) (
   if 0<=t0.N then
    some (decide (t0.N<=5))
   else
   some false) λj12=>
  some j12
 else
 if t0.Op=34 then
  baa (α:=Bool) (
   if 0<=t0.N then
    some (decide ((Jaa t0.N 8)<=5))
   else
   some false) λj15=>
  some j15
 else
 if t0.Op=6 then
  some (decide (0<=t0.N))
 else
 some true
noncomputable def Qp(t0:GNode) (t1:GEnv):Option Bool:=
 if t0.Op=7 then
  baa (α:=Bool) (
   if 0<=t0.N then
    some (decide (t0.N<(t1.Inputs.length:Int)))
   else
   some false) λj3=>
  some j3
 else
 if t0.Op=8 then
  baa (α:=Bool) (
   if 0<=t0.N then
    if t0.N<(t1.Defs.length:Int)then
     (idx t1.Defs t0.N).bind λx7=>
     some (x7.Kind !=0)
    else
    some false
   else
   some false) λj8=>
  some j8
 else
 if t0.Op=33 then
  baa (α:=Bool) (
   if 0<=t0.N then
    some (decide (t0.N<(t1.Tables.length:Int)))
   else
   some false) λj11=>
  some j11
 else
 if t0.Op=34 then
  some (decide ((ea .i64 (Baa t0.N 8))<(t1.Tables.length:Int)))
 else
 baa (α:=Bool) (
  if t0.Op=36 then
   some true
  else
  if t0.Op=37 then
   some true
  else
  if t0.Op=38 then
   some true
  else
  some (t0.Op==39)) λj16=>
 if j16=true then
  baa (α:=Bool) (
   if 0<=t0.N then
    some (decide (t0.N<(t1.MemberTypes.length:Int)))
   else
   some false) λj19=>
  some j19
 else
 some true
noncomputable def Ub(t0:GValue):Option Bool:=
 baa (α:=Bool) (
  if¬t0.Kind=6 then
   some (t0.Enum !=0)
  else
  some false) λj2=>
 if j2=true then
  some false
 else
 if t0.Kind=1 then
  baa (α:=Bool) (
   if¬t0.N=0 then
    some (t0.N==1)
   else
   some true) λj6=>
  some j6
 else
 if t0.Kind=2 then
  baa (α:=Bool) (
   if(-1000000000000)<=t0.N then
    some (decide (t0.N<=1000000000000))
   else
   some false) λj9=>
  some j9
 else
 if t0.Kind=3 then
  baa (α:=Bool) (
   if(-1000000000000000)<=t0.N then
    some (decide (t0.N<=1000000000000000))
   else
   some false) λj12=>
  some j12
 else
 if t0.Kind=4 then
  baa (α:=Bool) (
   if(-1000000000)<=t0.N then
    some (decide (t0.N<=1000000000))
   else
   some false) λj15=>
  some j15
 else
 if t0.Kind=5 then
  baa (α:=Bool) (
   if 0<=t0.N then
    some (decide (t0.N<=109572))
   else
   some false) λj18=>
  some j18
 else
 if t0.Kind=6 then
  baa (α:=Bool) (
   if 0<=t0.Enum then
    if t0.Enum<8 then
     if 0<=t0.N then
      some (decide (t0.N<16))
     else
     some false
    else
    some false
   else
   some false) λj23=>
  some j23
 else
 some false
noncomputable def Zb(t0:List GValue):Int->Option (Ex Int Unit Bool):=λs1=>
 if s1<(t0.length:Int)then
  (idx t0 s1).bind λx3=>
  (Ub x3).bind λx4=>
  if x4=false then
   some (Ex.ret false)
  else
  some (Ex.go (ea .i64 (s1+1)))
 else
 some (Ex.brk ())
noncomputable def Wd(t0:List GValue):Option Bool:=
 (fa (Zb t0) 0).bind λy=>match y with
 |.inr v=>some v
 |.inl _=>
 some true
noncomputable def Ku(t0:GValue) (t1:GType):Option Bool:=
 baa (α:=Bool) (
  (Ub t0).bind λx1=>
  if x1=true then
   if t0.Kind=t1.Kind then
    some (t0.Enum==t1.Enum)
   else
   some false
  else
  some false) λj4=>
 some j4
noncomputable def mg(t0:Int):Option Bool:=
 baa (α:=Bool) (
  if¬t0=2 then
   if¬t0=3 then
    some (t0==4)
   else
   some true
  else
  some true) λj3=>
 some j3
noncomputable def ln(t0:Int) (t1:GType):Option Bool:=
 if¬t1.Enum=0 then
  some false
 else
 if t0=36 then
  baa (α:=Bool) (
   if¬t1.Kind=2 then
    some (t1.Kind==3)
   else
   some true) λj4=>
  some j4
 else
 if t0=39 then
  baa (α:=Bool) (
   (mg t1.Kind).bind λx6=>
   if x6=false then
    some (t1.Kind==5)
   else
   some true) λj8=>
  some j8
 else
 some (t1.Kind==1)
noncomputable def Ac(t0:Int) (t1:Int):Option Bool:=
 if t0=10 then
  (mg t1).bind λx2=>
  some x2
 else
 if t0=25 then
  some (t1==1)
 else
 some (t1==5)
noncomputable def ng(t0:GValue) (t1:GValue):Option Bool:=
 baa (α:=Bool) (
  if t0.Kind=t1.Kind then
   some (t0.Enum==t1.Enum)
  else
  some false) λj2=>
 some j2
noncomputable def ic(t0:Int) (t1:GValue) (t2:GValue):Option Bool:=
 baa (α:=Bool) (
  if t0=11 then
   some true
  else
  some (t0==12)) λj2=>
 if j2=true then
  baa (α:=Bool) (
   (ng t1 t2).bind λx4=>
   if x4=true then
    (mg t1.Kind).bind λx6=>
    some x6
   else
   some false) λj7=>
  some j7
 else
 if t0=13 then
  baa (α:=Bool) (
   if t2.Kind=2 then
    if¬t1.Kind=2 then
     some (t1.Kind==3)
    else
    some true
   else
   some false) λj11=>
  some j11
 else
 if t0=14 then
  baa (α:=Bool) (
   if t2.Kind=4 then
    if¬t1.Kind=3 then
     some (t1.Kind==4)
    else
    some true
   else
   some false) λj15=>
  some j15
 else
 if t0=15 then
  if t2.Kind=2 then
   baa (α:=Bool) (
    if¬t1.Kind=2 then
     some (t1.Kind==3)
    else
    some true) λj19=>
   some j19
  else
  baa (α:=Bool) (
   if t1.Kind=3 then
    some (t2.Kind==3)
   else
   some false) λj21=>
  some j21
 else
 if t0=16 then
  baa (α:=Bool) (
   if t1.Kind=3 then
    some (t2.Kind==3)
   else
   some false) λj24=>
  some j24
 else
 baa (α:=Bool) (
  if t0=17 then
   some true
  else
  if t0=18 then
   some true
  else
  if t0=21 then
   some true
  else
  some (t0==22)) λj28=>
 if j28=true then
  baa (α:=Bool) (
   (ng t1 t2).bind λx30=>
   if x30=true then
    (mg t1.Kind).bind λx32=>
    if x32=false then
     some (t1.Kind==5)
    else
    some true
   else
   some false) λj34=>
  some j34
 else
 baa (α:=Bool) (
  if t0=19 then
   some true
  else
  some (t0==20)) λj36=>
 if j36=true then
  (ng t1 t2).bind λx38=>
  some x38
 else
 baa (α:=Bool) (
  if t0=23 then
   some true
  else
  some (t0==24)) λj40=>
 if j40=true then
  baa (α:=Bool) (
   if t1.Kind=1 then
    some (t2.Kind==1)
   else
   some false) λj43=>
  some j43
 else
 baa (α:=Bool) (
  if t0=27 then
   some true
  else
  some (t0==28)) λj45=>
 if j45=true then
  baa (α:=Bool) (
   if t1.Kind=5 then
    some (t2.Kind==2)
   else
   some false) λj48=>
  some j48
 else
 baa (α:=Bool) (
  if t1.Kind=5 then
   some (t2.Kind==5)
  else
  some false) λj50=>
 some j50
noncomputable def sa(t0:GNode) (t1:List GValue) (t2:GEnv):Option Bool:=
 if t0.Op=7 then
  (idx t2.Inputs t0.N).bind λx2=>
  (Ub x2).bind λx3=>
  some x3
 else
 if t0.Op=8 then
  (idx t2.Defs t0.N).bind λx5=>
  (Ub x5).bind λx6=>
  some x6
 else
 if t0.Op=33 then
  (idx t2.Tables t0.N).bind λx8=>
  baa (α:=Bool) (
   (idx t1 0).bind λx9=>
   (Ku x9 x8.Key).bind λx10=>
   if x10=true then
    if 1<=x8.Value.Kind then
     some (decide (x8.Value.Kind<=6))
    else
    some false
   else
   some false) λj13=>
  some j13
 else
 if t0.Op=34 then
  (idx t2.Tables (ea .i64 (Baa t0.N 8))).bind λx15=>
  baa (α:=Bool) (
   (idx t1 0).bind λx16=>
   if x16.Kind=3 then
    if x15.Key.Kind=3/\x15.Key.Enum=0 then
     some ((x15.Value.Kind==4)&&(x15.Value.Enum==0))
    else
    some false
   else
   some false) λj19=>
  some j19
 else
 baa (α:=Bool) (
  if t0.Op=36 then
   some true
  else
  if t0.Op=37 then
   some true
  else
  if t0.Op=38 then
   some true
  else
  some (t0.Op==39)) λj23=>
 if j23=true then
  (idx t2.MemberTypes t0.N).bind λx25=>
  (ln t0.Op x25).bind λx26=>
  some x26
 else
 if(t1.length:Int)=1 then
  (idx t1 0).bind λx28=>
  (Ac t0.Op x28.Kind).bind λx29=>
  some x29
 else
 if(t1.length:Int)=2 then
  (idx t1 0).bind λx31=>
  (idx t1 1).bind λx32=>
  (ic t0.Op x31 x32).bind λx33=>
  some x33
 else
 if(t1.length:Int)=3 then
  baa (α:=Bool) (
   (idx t1 0).bind λx35=>
   if x35.Kind=1 then
    (idx t1 1).bind λx37=>
    (idx t1 2).bind λx38=>
    (ng x37 x38).bind λx39=>
    some x39
   else
   some false) λj40=>
  some j40
 else
 some true
noncomputable def Wo(t0:GNode) (t1:GEnv):Option (GValue×Int):=none
noncomputable def Vu(t0:GTable) (t1:Int) (t2:Int):Option (Int×Bool):=none
noncomputable def As(t0:GTable) (t1:Int) (t2:Int) (t3:Int):Option (Int×Int):=none
noncomputable def Of(t0:Bool):Option GValue:=
 if t0=true then
  some (GValue.mk 1 0 1)
 else
 some (GValue.mk 1 0 0)
noncomputable def Tx(t0:Int):Option (Int×Int×Int):=none
noncomputable def Xo(t0:Int) (t1:GValue):Option GValue:=
 if t0=10 then
  some (GValue.mk t1.Kind 0 (ea .i64 (-t1.N)))
 else
 if t0=25 then
  (Of (t1.N==0)).bind λx3=>
  some x3
 else
 (Tx t1.N).bind λx4=>
 if t0=31 then
  some (GValue.mk 2 0 x4.1)
 else
 some (GValue.mk 2 0 x4.2.1)
noncomputable def Tv(t0:GNode) (t1:GValue) (t2:GValue):Option (GValue×Int):=none
noncomputable def nr(t0:Int) (t1:Int):Option (Int×Int):=none
noncomputable def Rn(t0:Int) (t1:Int):Option Int:=none
noncomputable def Hd(t0:GNode) (t1:GValue) (t2:GValue):Option (GValue×Int):=
 baa (α:=Bool) (
  if t0.Op=11 then
   some true
  else
  some (t0.Op==27)) λj2=>
 if j2=true then
  some ((GValue.mk t1.Kind 0 (ea .i64 (t1.N+t2.N))),0)
 else
 if t0.Op=12 then
  some ((GValue.mk t1.Kind 0 (ea .i64 (t1.N-t2.N))),0)
 else
 baa (α:=Bool) (
  if t0.Op=13 then
   some true
  else
  if t0.Op=14 then
   some true
  else
  if t0.Op=15 then
   some true
  else
  some (t0.Op==16)) λj8=>
 if j8=true then
  (Tv t0 t1 t2).bind λx10=>
  some (x10.1,x10.2)
 else
 baa (α:=Bool) (
  if t0.Op=17 then
   some true
  else
  some (t0.Op==18)) λj12=>
 if j12=true then
  if(t0.Op==17)=(decide (t2.N<t1.N))then
   some (t2,0)
  else
  some (t1,0)
 else
 if t0.Op=19 then
  (Of (t1.N==t2.N)).bind λx16=>
  some (x16,0)
 else
 if t0.Op=20 then
  (Of (t1.N !=t2.N)).bind λx18=>
  some (x18,0)
 else
 if t0.Op=21 then
  (Of (decide (t1.N<t2.N))).bind λx20=>
  some (x20,0)
 else
 if t0.Op=22 then
  (Of (decide (t1.N<=t2.N))).bind λx22=>
  some (x22,0)
 else
 if t0.Op=23 then
  baa (α:=(Int×Int×Int)) (
   if t1.N=1 then
    (Of (t2.N==1)).bind λx25=>
    some (x25.Kind,x25.Enum,x25.N)
   else
   (Of false).bind λx26=>
   some (x26.Kind,x26.Enum,x26.N)) λ(j27,j28,j29)=>
  some ((GValue.mk j27 j28 j29),0)
 else
 if t0.Op=24 then
  baa (α:=(Int×Int×Int)) (
   if¬t1.N=1 then
    (Of (t2.N==1)).bind λx32=>
    some (x32.Kind,x32.Enum,x32.N)
   else
   (Of true).bind λx33=>
   some (x33.Kind,x33.Enum,x33.N)) λ(j34,j35,j36)=>
  some ((GValue.mk j34 j35 j36),0)
 else
 if t0.Op=28 then
  (nr t1.N t2.N).bind λx38=>
  some ((GValue.mk 5 0 x38.1),x38.2)
 else
 if t0.Op=29 then
  some ((GValue.mk 2 0 (ea .i64 (t2.N-t1.N))),0)
 else
 (Rn t1.N t2.N).bind λx40=>
 some ((GValue.mk 2 0 x40),0)
noncomputable def Ia(t0:GNode) (t1:List GValue) (t2:GEnv):Option (GValue×Int):=
 baa (α:=Bool) (
  if t0.Op=1 then
   some true
  else
  if t0.Op=2 then
   some true
  else
  if t0.Op=3 then
   some true
  else
  if t0.Op=4 then
   some true
  else
  some (t0.Op==5)) λj5=>
 if j5=true then
  some ((GValue.mk t0.Op 0 t0.N),0)
 else
 if t0.Op=6 then
  some ((GValue.mk 6 (ea .i64 (Baa t0.N 16)) (Jaa t0.N 16)),0)
 else
 if t0.Op=7 then
  (idx t2.Inputs t0.N).bind λx9=>
  some (x9,0)
 else
 if t0.Op=8 then
  (idx t2.Defs t0.N).bind λx11=>
  some (x11,0)
 else
 if t0.Op=9 then
  some ((GValue.mk 5 0 t2.Date),0)
 else
 if t0.Op=35 then
  some ((GValue.mk 2 0 (t2.Members.length:Int)),0)
 else
 baa (α:=Bool) (
  if t0.Op=36 then
   some true
  else
  if t0.Op=37 then
   some true
  else
  if t0.Op=38 then
   some true
  else
  some (t0.Op==39)) λj17=>
 if j17=true then
  (Wo t0 t2).bind λx19=>
  some (x19.1,x19.2)
 else
 if t0.Op=33 then
  (idx t2.Tables t0.N).bind λx21=>
  (idx t1 0).bind λx22=>
  (Vu x21 t2.Date x22.N).bind λx23=>
  if x23.2=false then
   some ((GValue.mk 0 0 0),6)
  else
  (idx x21.Rows x23.1).bind λx25=>
  some ((GValue.mk x21.Value.Kind x21.Value.Enum x25.N),0)
 else
 if t0.Op=34 then
  (idx t2.Tables (ea .i64 (Baa t0.N 8))).bind λx27=>
  (idx t1 0).bind λx28=>
  (As x27 t2.Date x28.N (Jaa t0.N 8)).bind λx29=>
  some ((GValue.mk 3 0 x29.1),x29.2)
 else
 if(t1.length:Int)=1 then
  (idx t1 0).bind λx31=>
  (Xo t0.Op x31).bind λx32=>
  some (x32,0)
 else
 if(t1.length:Int)=2 then
  (idx t1 0).bind λx34=>
  (idx t1 1).bind λx35=>
  (Hd t0 x34 x35).bind λx36=>
  some (x36.1,x36.2)
 else
 (idx t1 0).bind λx37=>
 if x37.N=1 then
  (idx t1 1).bind λx39=>
  some (x39,0)
 else
 (idx t1 2).bind λx40=>
 some (x40,0)
noncomputable def ab(t0:GNode) (t1:List GValue) (t2:GEnv):Option (GValue×Int):=
 baa (α:=Bool) (
  (Pj t0).bind λx1=>
  if x1=true then
   (Hg t0.Op).bind λx3=>
   some ((t1.length:Int) !=x3)
  else
  some true) λj4=>
 if j4=true then
  some ((GValue.mk 0 0 0),2)
 else
 (Qp t0 t2).bind λx6=>
 if x6=false then
  some ((GValue.mk 0 0 0),6)
 else
 baa (α:=Bool) (
  (Wd t1).bind λx8=>
  if x8=true then
   (sa t0 t1 t2).bind λx10=>
   some (!x10)
  else
  some true) λj11=>
 if j11=true then
  some ((GValue.mk 0 0 0),8)
 else
 (Ia t0 t1 t2).bind λx13=>
 if¬x13.2=0 then
  some ((GValue.mk 0 0 0),x13.2)
 else
 (Ub x13.1).bind λx15=>
 if x15=false then
  some ((GValue.mk 0 0 0),3)
 else
 some (x13.1,0)
noncomputable def Ya(t0:GEval_evaluator) (x2:List Int) (R341:(GEval_evaluator->Int->Option (GValue×Int))):((List GValue)×Int)->Option (Ex ((List GValue)×Int) (List GValue) (GValue×Int)):=λ(s9,s10)=>
 if s10<(x2.length:Int)then
  (idx x2 s10).bind λx12=>
  (R341 t0 x12).bind λx13=>
  if¬x13.2=0 then
   some (Ex.ret ((GValue.mk 0 0 0),x13.2))
  else
  (idx s9 s10).bind λx15=>
  (put s9 s10 x13.1).bind λx16=>
  some (Ex.go (x16,(ea .i64 (s10+1))))
 else
 some (Ex.brk s9)
noncomputable def Va(R341:(GEval_evaluator->Int->Option (GValue×Int))) (R455:(GEval_evaluator->GNode->(List Int)->Option (GValue×Int))) (R512:(GEval_evaluator->Int->Option (GValue×Int))) (t0:GEval_evaluator) (t1:Int):Option (GValue×Int):=
 (idx t0.nodes t1).bind λx1=>
 (Jd t0 t1).bind λx2=>
 baa (α:=Bool) (
  if x1.Op=23 then
   some true
  else
  if x1.Op=24 then
   some true
  else
  some (x1.Op==26)) λj5=>
 if j5=true then
  (R455 t0 x1 x2).bind λx7=>
  some (x7.1,x7.2)
 else
 (sE 24 (GValue.mk 0 0 0) (x2.length:Int) (x2.length:Int)).bind λx8=>
 (fa (Ya t0 x2 R341) (x8,0)).bind λy=>match y with
 |.inr v=>some v
 |.inl b19=>
 (ab x1 b19 t0.env).bind λx20=>
 some (x20.1,x20.2)
noncomputable def zc(R341:(GEval_evaluator->Int->Option (GValue×Int))) (R455:(GEval_evaluator->GNode->(List Int)->Option (GValue×Int))) (R512:(GEval_evaluator->Int->Option (GValue×Int))) (t0:GEval_evaluator) (t1:GNode) (t2:List Int):Option (GValue×Int):=
 if¬t1.N=0 then
  some ((GValue.mk 0 0 0),2)
 else
 (idx t2 0).bind λx2=>
 (R512 t0 x2).bind λx3=>
 if¬x3.2=0 then
  some ((GValue.mk 0 0 0),x3.2)
 else
 baa (α:=Bool) (
  if t1.Op=26 then
   some (x3.1.N==1)
  else
  some false) λj6=>
 if j6=true then
  (idx t2 1).bind λx8=>
  (R341 t0 x8).bind λx9=>
  some (x9.1,x9.2)
 else
 if t1.Op=26 then
  (idx t2 2).bind λx11=>
  (R341 t0 x11).bind λx12=>
  some (x12.1,x12.2)
 else
 if(t1.Op==23)=(x3.1.N==0)then
  some (x3.1,0)
 else
 (idx t2 1).bind λx14=>
 (R512 t0 x14).bind λx15=>
 some (x15.1,x15.2)
noncomputable def Db(R341:(GEval_evaluator->Int->Option (GValue×Int))) (R455:(GEval_evaluator->GNode->(List Int)->Option (GValue×Int))) (R512:(GEval_evaluator->Int->Option (GValue×Int))) (t0:GEval_evaluator) (t1:Int):Option (GValue×Int):=
 (R341 t0 t1).bind λx1=>
 if¬x1.2=0 then
  some ((GValue.mk 0 0 0),x1.2)
 else
 baa (α:=Bool) (
  if x1.1.Kind=1 then
   (Ub x1.1).bind λx4=>
   some (!x4)
  else
  some true) λj5=>
 if j5=true then
  some ((GValue.mk 0 0 0),8)
 else
 some (x1.1,0)
noncomputable def ca:Nat->(GEval_evaluator->Int->Option (GValue×Int))×(GEval_evaluator->GNode->(List Int)->Option (GValue×Int))×(GEval_evaluator->Int->Option (GValue×Int))
 |0=>(λ_ _=>none,λ_ _ _=>none,λ_ _=>none)
 |n+1=>(Va (ca n).1 (ca n).2.1 (ca n).2.2,zc (ca n).1 (ca n).2.1 (ca n).2.2,Db (ca n).1 (ca n).2.1 (ca n).2.2)
noncomputable def Uf(t0:GEval_evaluator) (t1:Int):Option (GValue×Int):=(ca Gc).1 t0 t1
noncomputable def Gq(t0:GEval_evaluator) (t1:GNode) (t2:List Int):Option (GValue×Int):=(ca Gc).2.1 t0 t1 t2
noncomputable def Xn(t0:GEval_evaluator) (t1:Int):Option (GValue×Int):=(ca Gc).2.2 t0 t1
noncomputable def Hb(t0:List GNode) (t1:GEnv):Option (GValue×Int):=
 (Fh t0).bind λx1=>
 if¬x1.2=0 then
  some ((GValue.mk 0 0 0),x1.2)
 else
 (Uf (GEval_evaluator.mk t0 x1.1 t1) (ea .i64 ((t0.length:Int)-1))).bind λx3=>
 some (x3.1,x3.2)
noncomputable def Sd(t0:GLaw) (t1:GScope) (t2:List Int) (t3:Int) (t4:List GValue):((List Bool)×Int)->Option (Ex ((List Bool)×Int) (List Bool) Unit):=λ(s2,s3)=>
 if s3<(t2.length:Int)then
  baa (α:=(List Bool)) (
   (idx t2 s3).bind λx5=>
   (idx t1.Rules x5).bind λx6=>
   if(x6.Guard.length:Int)=0 then
    (idx s2 s3).bind λx8=>
    (put s2 s3 true).bind λx9=>
    some x9
   else
   (Hb x6.Guard (GEnv.mk t3 t4 ([]) ([]) ([]) t0.Tables)).bind λx10=>
   if x10.2=0 then
    (idx s2 s3).bind λx12=>
    (put s2 s3 (x10.1.N==1)).bind λx13=>
    some x13
   else
   (idx s2 s3).bind λx14=>
   (put s2 s3 false).bind λx15=>
   some x15) λj16=>
  some (Ex.go (j16,(ea .i64 (s3+1))))
 else
 some (Ex.brk s2)
noncomputable def Sf(t0:GLaw) (t1:GScope) (t2:List Int) (t3:Int) (t4:List GValue):Option (List Bool):=
 (sE 1 false (t2.length:Int) (t2.length:Int)).bind λx1=>
 (fa (Sd t0 t1 t2 t3 t4) (x1,0)).bind λy=>match y with
 |.inr _=>none
 |.inl b19=>
 some b19
noncomputable def tf(t0:List Int) (t1:List Int):Int->Option (Ex Int Unit Int):=λs3=>
 if s3<(t0.length:Int)then
  (idx t0 s3).bind λx5=>
  baa (α:=Bool) (
   if¬x5<(-1)then
    some (decide (s3<=x5))
   else
   some true) λj7=>
  if j7=true then
   some (Ex.ret 9)
  else
  baa (α:=Bool) (
   (idx t1 s3).bind λx9=>
   if¬x9<0 then
    some (decide (9<x9))
   else
   some true) λj11=>
  if j11=true then
   some (Ex.ret 3)
  else
  some (Ex.go (ea .i64 (s3+1)))
 else
 some (Ex.brk ())
noncomputable def ki(t0:List Int) (t1:List Int):Option Int:=
 if¬(t0.length:Int)=(t1.length:Int)then
  some 2
 else
 if 8<(t0.length:Int)then
  some 4
 else
 (fa (tf t0 t1) 0).bind λy=>match y with
 |.inr v=>some v
 |.inl _=>
 some 0
noncomputable def sf(t0:List Int) (t1:Int):((List Int)×Int)->Option (Ex ((List Int)×Int) (List Int) Unit):=λ(s1,s2)=>
 if s2<(t0.length:Int)then
  baa (α:=(List Int)) (
   (idx t0 s2).bind λx4=>
   if x4=t1 then
    (app 8 s1 ([s2])).bind λx6=>
    some x6
   else
   some s1) λj7=>
  some (Ex.go (j7,(ea .i64 (s2+1))))
 else
 some (Ex.brk s1)
noncomputable def ji(t0:List Int) (t1:Int):Option (List Int):=
 (fa (sf t0 t1) (([]:List Int),0)).bind λy=>match y with
 |.inr _=>none
 |.inl b10=>
 some b10
noncomputable def nd(t0:GRuletree_tree) (x1:List Int):((List Int)×Int)->Option (Ex ((List Int)×Int) (List Int) Unit):=λ(s2,s3)=>
 if s3<(x1.length:Int)then
  baa (α:=(List Int)) (
   (idx x1 s3).bind λx5=>
   (idx t0.outcome x5).bind λx6=>
   if x6=(-1)then
    some s2
   else
   baa (α:=(List Int)) (
    baa (α:=Bool) (
     if 0<(s2.length:Int)then
      (idx t0.priority x5).bind λx9=>
      (idx s2 0).bind λx10=>
      (idx t0.priority x10).bind λx11=>
      some (decide (x11<x9))
     else
     some false) λj12=>
    if j12=true then
     (Zq s2 0).bind λx14=>
     some x14
    else
    some s2) λj15=>
   baa (α:=Bool) (
    if¬(j15.length:Int)=0 then
     (idx t0.priority x5).bind λx17=>
     (idx j15 0).bind λx18=>
     (idx t0.priority x18).bind λx19=>
     some (x17==x19)
    else
    some true) λj20=>
   if j20=true then
    (app 8 j15 ([x5])).bind λx22=>
    some x22
   else
   some j15) λj23=>
  some (Ex.go (j23,(ea .i64 (s3+1))))
 else
 some (Ex.brk s2)
noncomputable def Ic(t0:GRuletree_tree) (t1:Int):Option (List Int):=
 (ji t0.parent t1).bind λx1=>
 (fa (nd t0 x1) (([]:List Int),0)).bind λy=>match y with
 |.inr _=>none
 |.inl b26=>
 some b26
noncomputable def Fb(t0:GRuletree_tree) (t1:Int):Option Int:=
 (Ic t0 t1).bind λx1=>
 if(x1.length:Int)=0 then
  some (-1)
 else
 if(x1.length:Int)=1 then
  (idx x1 0).bind λx4=>
  (idx t0.outcome x4).bind λx5=>
  some x5
 else
 some (-2)
noncomputable def uf(t0:List Int) (t1:List Int) (t2:List Bool):((List Int)×Int)->Option (Ex ((List Int)×Int) (List Int) Unit):=λ(s2,s3)=>
 if 0<=s3 then
  baa (α:=(List Int)) (
   (Fb (GRuletree_tree.mk t0 t1 s2) s3).bind λx5=>
   (idx s2 s3).bind λx6=>
   (put s2 s3 x5).bind λx7=>
   baa (α:=Bool) (
    (idx x7 s3).bind λx8=>
    if x8=(-1)then
     (idx t2 s3).bind λx10=>
     some x10
    else
    some false) λj11=>
   if j11=true then
    (idx x7 s3).bind λx13=>
    (put x7 s3 s3).bind λx14=>
    some x14
   else
   some x7) λj15=>
  some (Ex.go (j15,(ea .i64 (s3-1))))
 else
 some (Ex.brk s2)
noncomputable def Hf(t0:List Int) (t1:List Int) (t2:List Bool):Option (List Int):=
 (sE 8 0 (t0.length:Int) (t0.length:Int)).bind λx1=>
 (fa (uf t0 t1 t2) (x1,(ea .i64 ((t0.length:Int)-1)))).bind λy=>match y with
 |.inr _=>none
 |.inl b18=>
 some b18
noncomputable def vh(t0:List Int) (t1:List Int) (t2:List Bool):Option Int:=
 baa (α:=Bool) (
  (ki t0 t1).bind λx1=>
  if x1=0 then
   some ((t2.length:Int) !=(t0.length:Int))
  else
  some true) λj3=>
 if j3=true then
  some (-1)
 else
 (Hf t0 t1 t2).bind λx5=>
 (Fb (GRuletree_tree.mk t0 t1 x5) (-1)).bind λx6=>
 some x6
noncomputable def Eb(t0:List Int) (t1:List Int) (x3:List Int):(List Int)->Option (Ex (List Int) (List Int) Unit):=λs5=>
 if(s5.length:Int)=1 then
  (idx s5 0).bind λx7=>
  (Ic (GRuletree_tree.mk t0 t1 x3) x7).bind λx8=>
  some (Ex.go x8)
 else
 some (Ex.brk s5)
noncomputable def kb(t0:List Int) (t1:List Int) (t2:List Bool):Option (Int×Int×Bool):=
 (vh t0 t1 t2).bind λx1=>
 if¬x1=(-2)then
  some (0,0,false)
 else
 (Hf t0 t1 t2).bind λx3=>
 (Ic (GRuletree_tree.mk t0 t1 x3) (-1)).bind λx4=>
 (fa (Eb t0 t1 x3) x4).bind λy=>match y with
 |.inr _=>none
 |.inl b10=>
 if(b10.length:Int)<2 then
  some (0,0,false)
 else
 (idx b10 0).bind λx12=>
 (idx b10 1).bind λx13=>
 some (x12,x13,true)
noncomputable def Ma(t0:List GCoverageHole) (t1:(GCoverageHole->Option Bool)):Int->Option (Ex Int Unit Int):=λs1=>
 if s1<(t0.length:Int)then
  (idx t0 s1).bind λx3=>
  (t1 x3).bind λx4=>
  if x4=true then
   some (Ex.ret s1)
  else
  some (Ex.go (ea .i64 (s1+1)))
 else
 some (Ex.brk ())
noncomputable def Qa(t0:List GCoverageHole) (t1:(GCoverageHole->Option Bool)):Option Int:=
 (fa (Ma t0 t1) 0).bind λy=>match y with
 |.inr v=>some v
 |.inl _=>
 some (-1)
noncomputable def wa(t0:List GCoverageHole) (t1:(GCoverageHole->Option Bool)):Option Bool:=
 (Qa t0 t1).bind λx1=>
 some (decide (0<=x1))
noncomputable def Ch(t0:GCoverageHole) (t1:GCoverageHole):Option Bool:=
 baa (α:=Bool) (
  if t0.Outcome=t1.Outcome then
   if t0.RuleA=t1.RuleA then
    some (t0.RuleB==t1.RuleB)
   else
   some false
  else
  some false) λj3=>
 some j3
noncomputable def jb(t0:GCoverageHole) (t1:GCoverageHole):Option Bool:=
 (Ch t0 t1).bind λx1=>
 some x1
noncomputable def Ab(x1:((List (List Int))×Int)) (x3:GScope) (s7:List Int):((List GValue)×Int)->Option (Ex ((List GValue)×Int) (List GValue) Unit):=λ(s10,s11)=>
 if s11<(x3.Inputs.length:Int)then
  (idx x3.Inputs s11).bind λx13=>
  (idx x1.1 s11).bind λx14=>
  (idx s7 s11).bind λx15=>
  (idx x14 x15).bind λx16=>
  (app 24 s10 ([(GValue.mk x13.Type_.Kind x13.Type_.Enum x16)])).bind λx17=>
  some (Ex.go (x17,(ea .i64 (s11+1))))
 else
 some (Ex.brk s10)
noncomputable def yb(x1:((List (List Int))×Int)) (x3:GScope) (s7:List Int):Option (List GValue):=
 (fa (Ab x1 x3 s7) (([]:List GValue),0)).bind λy=>match y with
 |.inr _=>none
 |.inl b20=>
 some b20
noncomputable def fc(x1:((List (List Int))×Int)):((List Int)×Int)->Option (Ex ((List Int)×Int) (List Int) ((List Int)×Bool)):=λ(s35,s36)=>
 if 0<=s36 then
  (idx s35 s36).bind λx38=>
  (put s35 s36 (ea .i64 (x38+1))).bind λx39=>
  (idx x39 s36).bind λx40=>
  (idx x1.1 s36).bind λx41=>
  if x40<(x41.length:Int)then
   some (Ex.ret (x39,true))
  else
  (put x39 s36 0).bind λx43=>
  some (Ex.go (x43,(ea .i64 (s36-1))))
 else
 some (Ex.brk s35)
noncomputable def zb(x1:((List (List Int))×Int)) (s7:List Int):Option ((List Int)×Bool):=
 (fa (fc x1) (s7,(ea .i64 ((s7.length:Int)-1)))).bind λy=>match y with
 |.inr v=>some v
 |.inl b46=>
 some (b46,false)
noncomputable def Ka(t0:GLaw) (t3:Int) (x1:((List (List Int))×Int)) (x3:GScope) (x4:((List Int)×(List Int)×(List Int))):((List GCoverageHole)×(List Int)×Bool)->Option (Ex ((List GCoverageHole)×(List Int)×Bool) (List GCoverageHole) Unit):=λ(s6,s7,s8)=>
 if s8=true then
  baa (α:=(List GCoverageHole)) (
   (yb x1 x3 s7).bind λi21=>
   (Sf t0 x3 x4.1 t3 i21).bind λx22=>
   (vh x4.2.1 x4.2.2 x22).bind λx23=>
   if 0<=x23 then
    some s6
   else
   baa (α:=(Int×Int)) (
    if x23=(-2)then
     (kb x4.2.1 x4.2.2 x22).bind λx26=>
     (idx x4.1 x26.1).bind λx27=>
     (idx x4.1 x26.2.1).bind λx28=>
     some (x27,x28)
    else
    some ((-1),(-1))) λ(j29,j30)=>
   (wa s6 (λx900=>jb x900 (GCoverageHole.mk x23 j29 j30 ([])))).bind λx31=>
   if x31=false then
    (app 48 s6 ([(GCoverageHole.mk x23 j29 j30 i21)])).bind λx33=>
    some x33
   else
   some s6) λj34=>
  (zb x1 s7).bind λ(i47,i48)=>
  some (Ex.go (j34,i47,i48))
 else
 some (Ex.brk s6)
noncomputable def Ca(t0:GLaw) (t1:Int) (t2:Int) (t3:Int):Option ((List GCoverageHole)×Int):=
 (pk t0 t1 t2 t3).bind λx1=>
 if¬x1.2=0 then
  some ([],x1.2)
 else
 (idx t0.Scopes t1).bind λx3=>
 (ug x3 t2 t3).bind λx4=>
 (sE 8 0 (x1.1.length:Int) (x1.1.length:Int)).bind λx5=>
 (fa (Ka t0 t3 x1 x3 x4) (([]:List GCoverageHole),x5,true)).bind λy=>match y with
 |.inr _=>none
 |.inl b52=>
 some (b52,0)
noncomputable def Kl(t0:List GValue) (t1:List GValue):Int->Option (Ex Int Unit Bool):=λs2=>
 baa (α:=Bool) (
  if s2<(t0.length:Int)then
   some (decide (s2<(t1.length:Int)))
  else
  some false) λj4=>
 if j4=true then
  (idx t0 s2).bind λx6=>
  (idx t1 s2).bind λx7=>
  if¬(x6.Kind=x7.Kind/\x6.Enum=x7.Enum/\x6.N=x7.N)then
   some (Ex.ret false)
  else
  some (Ex.go (ea .i64 (s2+1)))
 else
 some (Ex.brk ())
noncomputable def Jl(t0:List GValue) (t1:List GValue):Option Bool:=
 if¬(t0.length:Int)=(t1.length:Int)then
  some false
 else
 (fa (Kl t0 t1) 0).bind λy=>match y with
 |.inr v=>some v
 |.inl _=>
 some true
noncomputable def bd(t0:GCoverageHole) (t1:GCoverageHole):Option Bool:=
 baa (α:=Bool) (
  if t0.Outcome=t1.Outcome then
   if t0.RuleA=t1.RuleA then
    if t0.RuleB=t1.RuleB then
     (Jl t0.Inputs t1.Inputs).bind λx4=>
     some x4
    else
    some false
   else
   some false
  else
  some false) λj5=>
 some j5
noncomputable def Ge(t0:List GCoverageHole) (t1:List GCoverageHole):Int->Option (Ex Int Unit Bool):=λs2=>
 baa (α:=Bool) (
  if s2<(t0.length:Int)then
   some (decide (s2<(t1.length:Int)))
  else
  some false) λj4=>
 if j4=true then
  (idx t0 s2).bind λx6=>
  (idx t1 s2).bind λx7=>
  (bd x6 x7).bind λx8=>
  if x8=false then
   some (Ex.ret false)
  else
  some (Ex.go (ea .i64 (s2+1)))
 else
 some (Ex.brk ())
noncomputable def Jc(t0:List GCoverageHole) (t1:List GCoverageHole):Option Bool:=
 if¬(t0.length:Int)=(t1.length:Int)then
  some false
 else
 (fa (Ge t0 t1) 0).bind λy=>match y with
 |.inr v=>some v
 |.inl _=>
 some true
def xj(k:Int) (rs:List GRule):GLaw:=GLaw.mk [] [] [GScope.mk (faa #[104,111,117,115,101]) (-1) [GField.mk (faa #[97]) (GType.mk k 0)] [GField.mk (faa #[100]) (GType.mk 3 0)] rs]
def Lx(n:ByteArray) (p:Int) (g:List GNode) (v:Int):GRule:=GRule.mk n 0 p 0 (GDateRange.mk 0 109573) g [GNode.mk 3 v] (faa #[])
def Br(t0:List GNode):Option GLaw:=some (xj 2 [Lx (faa #[98,97,115,101]) (-1) t0 5])
def Rs(t0:List GNode):Option GLaw:=Br t0
noncomputable def df  : Option Bool:=
 (Br ([(GNode.mk 7 0),(GNode.mk 2 18),(GNode.mk 21 0)])).bind λx1=>
 (pk x1 0 0 1).bind λx2=>
 (Ca x1 0 0 1).bind λx3=>
 (Rs ([])).bind λx4=>
 (Ca x4 0 0 1).bind λx5=>
 baa (α:=Bool) (
  if x2.2=0 then
   if x3.2=0 then
    if x5.2=0 then
     if(x5.1.length:Int)=0 then
      (Rm x2.1 ([[(-1000000000000),18,19]])).bind λx10=>
      some (!x10)
     else
     some true
    else
    some true
   else
   some true
  else
  some true) λj11=>
 if j11=true then
  some false
 else
 (Jc x3.1 ([(GCoverageHole.mk (-1) (-1) (-1) ([(GValue.mk 2 0 18)]))])).bind λx13=>
 some x13
noncomputable def Yp(t0:Int):Option Bool:=
 baa (α:=Bool) (
  if 97<=t0 then
   some (decide (t0<=122))
  else
  some false) λj2=>
 some j2
noncomputable def Ts(t0:Int):Option Bool:=
 baa (α:=Bool) (
  if 48<=t0 then
   some (decide (t0<=57))
  else
  some false) λj2=>
 some j2
noncomputable def Ir(t0:Int):Option Bool:=
 baa (α:=Bool) (
  (Yp t0).bind λx1=>
  if x1=false then
   (Ts t0).bind λx3=>
   if x3=false then
    some (t0==95)
   else
   some true
  else
  some true) λj5=>
 some j5
noncomputable def kf  : Option (List ByteArray):=
 some ([(faa #[105,102]),(faa #[116,104,101,110]),(faa #[101,108,115,101]),(faa #[111,114]),(faa #[97,110,100]),(faa #[110,111,116]),(faa #[116,114,117,101]),(faa #[102,97,108,115,101]),(faa #[116,111,100,97,121]),(faa #[115,104,97,114,101]),(faa #[100,105,118]),(faa #[114,111,117,110,100]),(faa #[109,105,110]),(faa #[109,97,120]),(faa #[112,108,117,115]),(faa #[109,111,110,116,104,115]),(faa #[100,97,121,115]),(faa #[121,101,97,114,115]),(faa #[121,101,97,114]),(faa #[109,111,110,116,104]),(faa #[116,97,98]),(faa #[98,97,110,100]),(faa #[99,111,117,110,116]),(faa #[115,117,109]),(faa #[97,108,108]),(faa #[97,110,121]),(faa #[109,111,115,116]),(faa #[101,110,117,109]),(faa #[116,97,98,108,101]),(faa #[114,111,119]),(faa #[115,99,111,112,101]),(faa #[109,101,109,98,101,114,115]),(faa #[105,110,112,117,116]),(faa #[100,101,102]),(faa #[114,117,108,101]),(faa #[111,102]),(faa #[111,118,101,114]),(faa #[112,114,105,111]),(faa #[102,114,111,109]),(faa #[116,111]),(faa #[101,110,100]),(faa #[119,104,101,110]),(faa #[105,115]),(faa #[115,114,99]),(faa #[98,111,111,108]),(faa #[105,110,116]),(faa #[109,111,110,101,121]),(faa #[114,97,116,101]),(faa #[100,97,116,101]),(faa #[100,111,119,110]),(faa #[117,112]),(faa #[122,101,114,111]),(faa #[97,119,97,121]),(faa #[104,97,108,102]),(faa #[101,118,101,110])])
noncomputable def De(t0:ByteArray):Int->Option (Ex Int Unit Bool):=λs7=>
 if s7<(t0.size:Int)then
  (Zr t0 s7).bind λx9=>
  (Ir x9).bind λx10=>
  if x10=false then
   some (Ex.ret false)
  else
  some (Ex.go (ea .i64 (s7+1)))
 else
 some (Ex.brk ())
noncomputable def Ce(t0:ByteArray) (x13:List ByteArray):Int->Option (Ex Int Unit Bool):=λs14=>
 if s14<(x13.length:Int)then
  (idx x13 s14).bind λx16=>
  if x16=t0 then
   some (Ex.ret false)
  else
  some (Ex.go (ea .i64 (s14+1)))
 else
 some (Ex.brk ())
noncomputable def sb(t0:ByteArray):Option Bool:=
 baa (α:=Bool) (
  if¬(t0.size:Int)=0 then
   if¬16<(t0.size:Int)then
    (Zr t0 0).bind λx3=>
    (Yp x3).bind λx4=>
    some (!x4)
   else
   some true
  else
  some true) λj5=>
 if j5=true then
  some false
 else
 (fa (De t0) 0).bind λy=>match y with
 |.inr v=>some v
 |.inl _=>
 (kf).bind λx13=>
 (fa (Ce t0 x13) 0).bind λy=>match y with
 |.inr v=>some v
 |.inl _=>
 some true
noncomputable def jc(t0:GLaw) (t1:Int) (t2:Int) (t3:ByteArray):Int->Option (Ex Int Unit Bool):=λs1=>
 if s1<(t0.Enums.length:Int)then
  baa (α:=Bool) (
   if¬1<t1 then
    if s1<t2 then
     (idx t0.Enums s1).bind λx5=>
     some (decide (x5.Name=t3))
    else
    some false
   else
   (idx t0.Enums s1).bind λx6=>
   some (decide (x6.Name=t3))) λj7=>
  if j7=true then
   some (Ex.ret true)
  else
  some (Ex.go (ea .i64 (s1+1)))
 else
 some (Ex.brk ())
noncomputable def lb(t0:GLaw) (t1:Int) (t2:Int) (t3:ByteArray):Int->Option (Ex Int Unit Bool):=λs10=>
 if s10<(t0.Tables.length:Int)then
  baa (α:=Bool) (
   if¬2<t1 then
    if t1=2 then
     if s10<t2 then
      (idx t0.Tables s10).bind λx15=>
      some (decide (x15.Name=t3))
     else
     some false
    else
    some false
   else
   (idx t0.Tables s10).bind λx16=>
   some (decide (x16.Name=t3))) λj17=>
  if j17=true then
   some (Ex.ret true)
  else
  some (Ex.go (ea .i64 (s10+1)))
 else
 some (Ex.brk ())
noncomputable def vb(t0:GLaw) (t1:Int) (t2:Int) (t3:ByteArray):Int->Option (Ex Int Unit Bool):=λs20=>
 if s20<(t0.Scopes.length:Int)then
  baa (α:=Bool) (
   if t1=3 then
    if s20<t2 then
     (idx t0.Scopes s20).bind λx24=>
     some (decide (x24.Name=t3))
    else
    some false
   else
   some false) λj25=>
  if j25=true then
   some (Ex.ret true)
  else
  some (Ex.go (ea .i64 (s20+1)))
 else
 some (Ex.brk ())
noncomputable def pc(t0:GLaw) (t1:Int) (t2:Int) (t3:ByteArray):Option Bool:=
 (fa (jc t0 t1 t2 t3) 0).bind λy=>match y with
 |.inr v=>some v
 |.inl _=>
 (fa (lb t0 t1 t2 t3) 0).bind λy=>match y with
 |.inr v=>some v
 |.inl _=>
 (fa (vb t0 t1 t2 t3) 0).bind λy=>match y with
 |.inr v=>some v
 |.inl _=>
 some false
noncomputable def Tg(t1:Int) (x1:GEnum) (s9:Int) (x11:ByteArray):Int->Option (Ex Int Unit (Ex (Int×Int) Unit GLawError)):=λs14=>
 if s14<s9 then
  (idx x1.Members s14).bind λx16=>
  if x16=x11 then
   some (Ex.ret (Ex.ret (GLawError.mk 7 1 t1 (ea .i64 (100+s9)))))
  else
  some (Ex.go (ea .i64 (s14+1)))
 else
 some (Ex.brk ())
noncomputable def Ug(t1:Int) (x1:GEnum):(Int×Int)->Option (Ex (Int×Int) Unit GLawError):=λ(s8,s9)=>
 if s9<(x1.Members.length:Int)then
  (idx x1.Members s9).bind λx11=>
  (sb x11).bind λx12=>
  if x12=false then
   some (Ex.ret (GLawError.mk 2 1 t1 (ea .i64 (100+s9))))
  else
  (fa (Tg t1 x1 s9 x11) 0).bind λy=>match y with
  |.inr v=>some v
  |.inl _=>
  some (Ex.go ((ea .i64 (100+s9)),(ea .i64 (s9+1))))
 else
 some (Ex.brk ())
noncomputable def Yj(t0:GLaw) (t1:Int):Option GLawError:=
 (idx t0.Enums t1).bind λx1=>
 (sb x1.Name).bind λx2=>
 if x2=false then
  some (GLawError.mk 2 1 t1 0)
 else
 (pc t0 1 t1 x1.Name).bind λx4=>
 if x4=true then
  some (GLawError.mk 7 1 t1 0)
 else
 if(x1.Members.length:Int)=0 then
  some (GLawError.mk 5 1 t1 0)
 else
 if 16<(x1.Members.length:Int)then
  some (GLawError.mk 4 1 t1 116)
 else
 (fa (Ug t1 x1) (0,0)).bind λy=>match y with
 |.inr v=>some v
 |.inl _=>
 some (GLawError.mk 0 0 0 0)
noncomputable def Pb(t0:GType) (t1:List GEnum):Option Bool:=
 if t0.Kind=6 then
  baa (α:=Bool) (
   if 0<=t0.Enum then
    some (decide (t0.Enum<(t1.length:Int)))
   else
   some false) λj3=>
  some j3
 else
 baa (α:=Bool) (
  if 1<=t0.Kind then
   if t0.Kind<=5 then
    some (t0.Enum==0)
   else
   some false
  else
  some false) λj6=>
 some j6
noncomputable def Qh(t0:GDateRange):Option Bool:=
 baa (α:=Bool) (
  if 0<=t0.From then
   if t0.From<=t0.To then
    some (decide (t0.To<=109573))
   else
   some false
  else
  some false) λj3=>
 some j3
noncomputable def We(t0:GType) (t1:List GEnum):Option (Int×Int):=
 (Pb t0 t1).bind λx1=>
 if x1=false then
  some (0,(-1))
 else
 if t0.Kind=1 then
  some (0,1)
 else
 if t0.Kind=2 then
  some ((-1000000000000),1000000000000)
 else
 if t0.Kind=3 then
  some ((-1000000000000000),1000000000000000)
 else
 if t0.Kind=4 then
  some ((-1000000000),1000000000)
 else
 if t0.Kind=5 then
  some (0,109572)
 else
 (idx t1 t0.Enum).bind λx8=>
 some (0,(ea .i64 ((x8.Members.length:Int)-1)))
noncomputable def Jr(t0:Int) (t1:GType) (t2:List GEnum):Option Bool:=
 (We t1 t2).bind λx1=>
 baa (α:=Bool) (
  if x1.1<=t0 then
   some (decide (t0<=x1.2))
  else
  some false) λj3=>
 some j3
noncomputable def Zp(t0:GRow) (t1:GTable) (t2:List GEnum):Option Bool:=
 baa (α:=Bool) (
  (Qh t0.Valid).bind λx1=>
  if x1=true then
   if¬t0.Valid.From=t0.Valid.To then
    some (decide (t0.Hi<=t0.Lo))
   else
   some true
  else
  some true) λj4=>
 if j4=true then
  some true
 else
 baa (α:=Bool) (
  (Jr t0.Lo t1.Key t2).bind λx6=>
  if x6=true then
   (Jr (ea .i64 (t0.Hi-1)) t1.Key t2).bind λx8=>
   if x8=true then
    (Jr t0.N t1.Value t2).bind λx10=>
    some (!x10)
   else
   some true
  else
  some true) λj11=>
 some j11
noncomputable def Ym(t0:GDateRange) (t1:GDateRange):Option (GDateRange×Bool):=
 baa (α:=Bool) (
  (Qh t0).bind λx1=>
  if x1=true then
   (Qh t1).bind λx3=>
   some (!x3)
  else
  some true) λj4=>
 if j4=true then
  some ((GDateRange.mk 0 0),false)
 else
 if(min t0.To t1.To)<=(max t0.From t1.From)then
  some ((GDateRange.mk 0 0),false)
 else
 some ((GDateRange.mk (max t0.From t1.From) (min t0.To t1.To)),true)
noncomputable def Bl(t0:GRow) (t1:GRow):Option Bool:=
 (Ym t0.Valid t1.Valid).bind λx1=>
 baa (α:=Bool) (
  if x1.2=true then
   some (decide ((max t0.Lo t1.Lo)<(min t0.Hi t1.Hi)))
  else
  some false) λj3=>
 some j3
noncomputable def Uh(t0:GTable) (s7:Int) (x9:GRow):Int->Option (Ex Int Unit (Ex Int Unit (Int×Int))):=λs12=>
 if s12<s7 then
  (idx t0.Rows s12).bind λx14=>
  (Bl x14 x9).bind λx15=>
  if x15=true then
   some (Ex.ret (Ex.ret (s7,11)))
  else
  some (Ex.go (ea .i64 (s12+1)))
 else
 some (Ex.brk ())
noncomputable def Vh(t0:GTable) (t1:List GEnum):Int->Option (Ex Int Unit (Int×Int)):=λs7=>
 if s7<(t0.Rows.length:Int)then
  (idx t0.Rows s7).bind λx9=>
  (Zp x9 t0 t1).bind λx10=>
  if x10=true then
   some (Ex.ret (s7,3))
  else
  (fa (Uh t0 s7 x9) 0).bind λy=>match y with
  |.inr v=>some v
  |.inl _=>
  some (Ex.go (ea .i64 (s7+1)))
 else
 some (Ex.brk ())
noncomputable def Al(t0:GTable) (t1:List GEnum):Option (Int×Int):=
 if 64<(t0.Rows.length:Int)then
  some (64,4)
 else
 baa (α:=Bool) (
  (Pb t0.Key t1).bind λx2=>
  if x2=true then
   (Pb t0.Value t1).bind λx4=>
   some (!x4)
  else
  some true) λj5=>
 if j5=true then
  some ((-1),8)
 else
 (fa (Vh t0 t1) 0).bind λy=>match y with
 |.inr v=>some v
 |.inl _=>
 some (0,0)
noncomputable def mj(t0:GLaw) (t1:Int):Option GLawError:=
 (idx t0.Tables t1).bind λx1=>
 (sb x1.Name).bind λx2=>
 if x2=false then
  some (GLawError.mk 2 2 t1 0)
 else
 (pc t0 2 t1 x1.Name).bind λx4=>
 if x4=true then
  some (GLawError.mk 7 2 t1 0)
 else
 (Al x1 t0.Enums).bind λx6=>
 if x6.2=0 then
  some (GLawError.mk 0 0 0 0)
 else
 baa (α:=Int) (
  if 0<=x6.1 then
   some (ea .i64 (100+x6.1))
  else
  some 0) λj9=>
 some (GLawError.mk x6.2 2 t1 j9)
noncomputable def fi(t0:List GField) (t1:Int) (t2:ByteArray):Int->Option (Ex Int Unit Bool):=λs1=>
 baa (α:=Bool) (
  if s1<t1 then
   some (decide (s1<(t0.length:Int)))
  else
  some false) λj3=>
 if j3=true then
  (idx t0 s1).bind λx5=>
  if x5.Name=t2 then
   some (Ex.ret true)
  else
  some (Ex.go (ea .i64 (s1+1)))
 else
 some (Ex.brk ())
noncomputable def Vg(t0:List GField) (t1:Int) (t2:ByteArray):Option Bool:=
 (fa (fi t0 t1 t2) 0).bind λy=>match y with
 |.inr v=>some v
 |.inl _=>
 some false
noncomputable def Yf(t0:GLaw) (t1:Int) (x1:GScope):Int->Option (Ex Int Unit GLawError):=λs2=>
 if s2<(x1.Inputs.length:Int)then
  baa (α:=Int) (
   (idx x1.Inputs s2).bind λx4=>
   (sb x4.Name).bind λx5=>
   if x5=false then
    some 2
   else
   (Vg x1.Inputs s2 x4.Name).bind λx7=>
   if x7=true then
    some 7
   else
   (Pb x4.Type_ t0.Enums).bind λx9=>
   if x9=false then
    some 8
   else
   some 0) λj11=>
  if¬j11=0 then
   some (Ex.ret (GLawError.mk j11 3 t1 (ea .i64 (100+s2))))
  else
  some (Ex.go (ea .i64 (s2+1)))
 else
 some (Ex.brk ())
noncomputable def Xf(t0:GLaw) (t1:Int) (x1:GScope):Int->Option (Ex Int Unit GLawError):=λs14=>
 if s14<(x1.Defs.length:Int)then
  baa (α:=Int) (
   (idx x1.Defs s14).bind λx16=>
   (sb x16.Name).bind λx17=>
   if x17=false then
    some 2
   else
   baa (α:=Bool) (
    (Vg x1.Inputs (x1.Inputs.length:Int) x16.Name).bind λx19=>
    if x19=false then
     (Vg x1.Defs s14 x16.Name).bind λx21=>
     some x21
    else
    some true) λj22=>
   if j22=true then
    some 7
   else
   (Pb x16.Type_ t0.Enums).bind λx24=>
   if x24=false then
    some 8
   else
   some 0) λj26=>
  if¬j26=0 then
   some (Ex.ret (GLawError.mk j26 3 t1 (ea .i64 (200+s14))))
  else
  some (Ex.go (ea .i64 (s14+1)))
 else
 some (Ex.brk ())
noncomputable def jj(t0:GLaw) (t1:Int):Option GLawError:=
 (idx t0.Scopes t1).bind λx1=>
 (fa (Yf t0 t1 x1) 0).bind λy=>match y with
 |.inr v=>some v
 |.inl _=>
 (fa (Xf t0 t1 x1) 0).bind λy=>match y with
 |.inr v=>some v
 |.inl _=>
 some (GLawError.mk 0 0 0 0)
noncomputable def Iq(t0:List GField):((List GType)×Int)->Option (Ex ((List GType)×Int) (List GType) Unit):=λ(s1,s2)=>
 if s2<(t0.length:Int)then
  (idx t0 s2).bind λx4=>
  (app 16 s1 ([x4.Type_])).bind λx5=>
  some (Ex.go (x5,(ea .i64 (s2+1))))
 else
 some (Ex.brk s1)
noncomputable def kj(t0:List GField):Option (List GType):=
 (fa (Iq t0) (([]:List GType),0)).bind λy=>match y with
 |.inr _=>none
 |.inl b8=>
 some b8
noncomputable def th(t0:GLaw) (t1:Int):Option GSignature:=
 baa (α:=Bool) (
  if¬t1<0 then
   some (decide ((t0.Scopes.length:Int)<=t1))
  else
  some true) λj2=>
 if j2=true then
  some (GSignature.mk ([]) ([]) ([]) ([]) ([]) false)
 else
 (idx t0.Scopes t1).bind λx4=>
 (kj x4.Inputs).bind λx5=>
 (kj x4.Defs).bind λx6=>
 baa (α:=((List GType)×Bool)) (
  baa (α:=Bool) (
   if 0<=x4.MemberScope then
    some (decide (x4.MemberScope<(t0.Scopes.length:Int)))
   else
   some false) λj8=>
  if j8=true then
   (idx t0.Scopes x4.MemberScope).bind λx10=>
   (kj x10.Defs).bind λx11=>
   some (x11,true)
  else
  some (([]:List GType),false)) λ(j12,j13)=>
 some (GSignature.mk t0.Enums t0.Tables x5 x6 j12 j13)
noncomputable def Wg(t0:ByteArray):Int->Option (Ex Int Unit Bool):=λs1=>
 if s1<(t0.size:Int)then
  baa (α:=Bool) (
   (Zr t0 s1).bind λx3=>
   if¬x3<32 then
    if¬126<x3 then
     some (x3==34)
    else
    some true
   else
   some true) λj6=>
  if j6=true then
   some (Ex.ret false)
  else
  some (Ex.go (ea .i64 (s1+1)))
 else
 some (Ex.brk ())
noncomputable def Zj(t0:ByteArray):Option Bool:=
 (fa (Wg t0) 0).bind λy=>match y with
 |.inr v=>some v
 |.inl _=>
 some (decide ((t0.size:Int)<=64))
noncomputable def sj(t0:Int):Option Int:=
 baa (α:=Bool) (
  if 1<=t0 then
   if¬t0<=9 then
    if 35<=t0 then
     some (decide (t0<=39))
    else
    some false
   else
   some true
  else
  if 35<=t0 then
   some (decide (t0<=39))
  else
  some false) λj5=>
 if j5=true then
  some 0
 else
 baa (α:=Bool) (
  if t0=10 then
   some true
  else
  if t0=25 then
   some true
  else
  if t0=31 then
   some true
  else
  if t0=32 then
   some true
  else
  if t0=33 then
   some true
  else
  some (t0==34)) λj12=>
 if j12=true then
  some 1
 else
 if t0=26 then
  some 3
 else
 baa (α:=Bool) (
  if 11<=t0 then
   some (decide (t0<=30))
  else
  some false) λj16=>
 if j16=true then
  some 2
 else
 some (-1)
noncomputable def Qg(t0:List GNode):((List Int)×(List Int)×Int)->Option (Ex ((List Int)×(List Int)×Int) ((List Int)×(List Int)) ((List Int)×Int×Int)):=λ(s3,s4,s5)=>
 if s5<(t0.length:Int)then
  (idx t0 s5).bind λx7=>
  (sj x7.Op).bind λx8=>
  if x8<0 then
   some (Ex.ret ([],s5,2))
  else
  if(s4.length:Int)<x8 then
   some (Ex.ret ([],s5,5))
  else
  baa (α:=((List Int)×Int)) (
   if 0<x8 then
    (idx s4 (ea .i64 ((s4.length:Int)-x8))).bind λx12=>
    (Zq s4 (ea .i64 ((s4.length:Int)-x8))).bind λx13=>
    some (x13,x12)
   else
   some (s4,s5)) λ(j14,j15)=>
  (app 8 j14 ([j15])).bind λx16=>
  (app 8 s3 ([j15])).bind λx17=>
  if 12<(x16.length:Int)then
   some (Ex.ret ([],s5,16))
  else
  some (Ex.go (x17,x16,(ea .i64 (s5+1))))
 else
 some (Ex.brk (s3,s4))
noncomputable def Qf(t0:List GNode):Option ((List Int)×Int×Int):=
 if 48<(t0.length:Int)then
  some ([],0,4)
 else
 if(t0.length:Int)=0 then
  some ([],0,5)
 else
 (fa (Qg t0) (([]:List Int),([]:List Int),0)).bind λy=>match y with
 |.inr v=>some v
 |.inl (b22,b23)=>
 if 1<(b23.length:Int)then
  some ([],(t0.length:Int),4)
 else
 some (b22,0,0)
noncomputable def uk(t0:Int):Option Bool:=
 baa (α:=Bool) (
  if 1<=t0 then
   if¬t0<=8 then
    if 36<=t0 then
     some (decide (t0<=39))
    else
    some false
   else
   some true
  else
  if 36<=t0 then
   some (decide (t0<=39))
  else
  some false) λj5=>
 if j5=true then
  some true
 else
 baa (α:=Bool) (
  if¬t0=14 then
   if¬t0=15 then
    if¬t0=16 then
     if¬t0=33 then
      some (t0==34)
     else
     some true
    else
    some true
   else
   some true
  else
  some true) λj11=>
 some j11
noncomputable def ub(t0:Int):Option GType:=
 some (GType.mk t0 0)
noncomputable def gb(t0:GNode) (t1:GSignature):Option Bool:=
 baa (α:=Bool) (
  if t0.Op=1 then
   some true
  else
  if t0.Op=2 then
   some true
  else
  if t0.Op=3 then
   some true
  else
  if t0.Op=4 then
   some true
  else
  some (t0.Op==5)) λj5=>
 if j5=true then
  (ub t0.Op).bind λx7=>
  (We x7 t1.Enums).bind λx8=>
  baa (α:=Bool) (
   if x8.1<=t0.N then
    some (decide (t0.N<=x8.2))
   else
   some false) λj10=>
  some j10
 else
 baa (α:=Bool) (
  if t0.Op=14 then
   some true
  else
  if t0.Op=15 then
   some true
  else
  some (t0.Op==16)) λj13=>
 if j13=true then
  baa (α:=Bool) (
   if 0<=t0.N then
    some (decide (t0.N<=5))
   else
   some false) λj16=>
  some j16
 else
 if t0.Op=34 then
  baa (α:=Bool) (
   if 0<=t0.N then
    some (decide ((Jaa t0.N 8)<=5))
   else
   some false) λj19=>
  some j19
 else
 if t0.Op=6 then
  some (decide (0<=t0.N))
 else
 some true
noncomputable def bc(t0:GNode) (t1:GSignature):Option Bool:=
 if t0.Op=6 then
  baa (α:=Bool) (
   if(ea .i64 (Baa t0.N 16))<(t1.Enums.length:Int)then
    (idx t1.Enums (ea .i64 (Baa t0.N 16))).bind λx3=>
    some (decide ((Jaa t0.N 16)<(x3.Members.length:Int)))
   else
   some false) λj4=>
  some j4
 else
 if t0.Op=7 then
  baa (α:=Bool) (
   if 0<=t0.N then
    some (decide (t0.N<(t1.Inputs.length:Int)))
   else
   some false) λj7=>
  some j7
 else
 if t0.Op=8 then
  baa (α:=Bool) (
   if 0<=t0.N then
    some (decide (t0.N<(t1.Defs.length:Int)))
   else
   some false) λj10=>
  some j10
 else
 if t0.Op=33 then
  baa (α:=Bool) (
   if 0<=t0.N then
    some (decide (t0.N<(t1.Tables.length:Int)))
   else
   some false) λj13=>
  some j13
 else
 if t0.Op=34 then
  some (decide ((ea .i64 (Baa t0.N 8))<(t1.Tables.length:Int)))
 else
 if t0.Op=35 then
  some t1.HasMembers
 else
 baa (α:=Bool) (
  if t0.Op=36 then
   some true
  else
  if t0.Op=37 then
   some true
  else
  if t0.Op=38 then
   some true
  else
  some (t0.Op==39)) λj19=>
 if j19=true then
  baa (α:=Bool) (
   if t1.HasMembers=true then
    if 0<=t0.N then
     some (decide (t0.N<(t1.MemberDefs.length:Int)))
    else
    some false
   else
   some false) λj23=>
  some j23
 else
 some true
noncomputable def Th(t0:Int):Option Bool:=
 baa (α:=Bool) (
  if¬t0=2 then
   if¬t0=3 then
    some (t0==4)
   else
   some true
  else
  some true) λj3=>
 some j3
noncomputable def og(t0:Int):Option Bool:=
 baa (α:=Bool) (
  (Th t0).bind λx1=>
  if x1=false then
   some (t0==5)
  else
  some true) λj3=>
 some j3
noncomputable def xi(t0:GNode) (t1:GSignature):Option (GType×Bool):=
 baa (α:=(Int×Int)) (
  if t0.Op=6 then
   some (6,(ea .i64 (Baa t0.N 16)))
  else
  if t0.Op=7 then
   (idx t1.Inputs t0.N).bind λx3=>
   some (x3.Kind,x3.Enum)
  else
  if t0.Op=8 then
   (idx t1.Defs t0.N).bind λx5=>
   some (x5.Kind,x5.Enum)
  else
  if t0.Op=9 then
   (ub 5).bind λx7=>
   some (x7.Kind,x7.Enum)
  else
  if t0.Op=35 then
   (ub 2).bind λx9=>
   some (x9.Kind,x9.Enum)
  else
  baa (α:=Bool) (
   if t0.Op=36 then
    some true
   else
   if t0.Op=37 then
    some true
   else
   if t0.Op=38 then
    some true
   else
   some (t0.Op==39)) λj13=>
  if j13=true then
   (idx t1.MemberDefs t0.N).bind λx15=>
   some (x15.Kind,x15.Enum)
  else
  (ub t0.Op).bind λx16=>
  some (x16.Kind,x16.Enum)) λ(j17,j18)=>
 (Pb (GType.mk j17 j18) t1.Enums).bind λx19=>
 baa (α:=Bool) (
  if t0.Op=36 then
   if x19=true then
    if¬j17=2 then
     some (j17==3)
    else
    some true
   else
   some false
  else
  baa (α:=Bool) (
   if t0.Op=37 then
    some true
   else
   some (t0.Op==38)) λj24=>
  if j24=true then
   if x19=true then
    some (j17==1)
   else
   some false
  else
  if t0.Op=39 then
   if x19=true then
    (og j17).bind λx29=>
    some x29
   else
   some false
  else
  some x19) λj30=>
 some ((GType.mk j17 j18),j30)
noncomputable def Cj(t0:GNode) (t1:GType) (t2:GSignature):Option (GType×Bool):=
 if t0.Op=10 then
  (Th t1.Kind).bind λx2=>
  some (t1,x2)
 else
 if t0.Op=25 then
  some (t1,(t1.Kind==1))
 else
 baa (α:=Bool) (
  if t0.Op=31 then
   some true
  else
  some (t0.Op==32)) λj5=>
 if j5=true then
  (ub 2).bind λx7=>
  some (x7,(t1.Kind==5))
 else
 if t0.Op=33 then
  (idx t2.Tables t0.N).bind λx9=>
  baa (α:=Bool) (
   (Pb x9.Key t2.Enums).bind λx10=>
   if x10=true then
    (Pb x9.Value t2.Enums).bind λx12=>
    if x12=true then
     some ((t1.Kind==x9.Key.Kind)&&(t1.Enum==x9.Key.Enum))
    else
    some false
   else
   some false) λj14=>
  some (x9.Value,j14)
 else
 (idx t2.Tables (ea .i64 (Baa t0.N 8))).bind λx15=>
 baa (α:=Bool) (
  if t1.Kind=3 then
   (ub 3).bind λx17=>
   if x15.Key.Kind=x17.Kind/\x15.Key.Enum=x17.Enum then
    (ub 4).bind λx19=>
    some ((x15.Value.Kind==x19.Kind)&&(x15.Value.Enum==x19.Enum))
   else
   some false
  else
  some false) λj20=>
 some (t1,j20)
noncomputable def oo(t0:Int) (t1:Int) (t2:Int):Option (GType×Bool):=
 if t0=13 then
  baa (α:=(Int×Int×Bool)) (
   (ub t1).bind λx2=>
   if t2=2 then
    if¬t1=2 then
     some (x2.Kind,x2.Enum,(t1==3))
    else
    some (x2.Kind,x2.Enum,true)
   else
   some (x2.Kind,x2.Enum,false)) λ(j5,j6,j7)=>
  some ((GType.mk j5 j6),j7)
 else
 if t0=14 then
  baa (α:=(Int×Int×Bool)) (
   (ub t1).bind λx9=>
   if t2=4 then
    if¬t1=3 then
     some (x9.Kind,x9.Enum,(t1==4))
    else
    some (x9.Kind,x9.Enum,true)
   else
   some (x9.Kind,x9.Enum,false)) λ(j12,j13,j14)=>
  some ((GType.mk j12 j13),j14)
 else
 baa (α:=Bool) (
  if t1=3 then
   some (t2==3)
  else
  some false) λj16=>
 if j16=true then
  (ub 4).bind λx18=>
  some (x18,true)
 else
 baa (α:=(Int×Int×Bool)) (
  (ub t1).bind λx19=>
  if t2=2 then
   if¬t1=2 then
    some (x19.Kind,x19.Enum,(t1==3))
   else
   some (x19.Kind,x19.Enum,true)
  else
  some (x19.Kind,x19.Enum,false)) λ(j22,j23,j24)=>
 some ((GType.mk j22 j23),j24)
noncomputable def Rh(t0:Int) (t1:GType) (t2:GType):Option (GType×Bool):=
 baa (α:=Bool) (
  if t0=11 then
   some true
  else
  some (t0==12)) λj2=>
 if j2=true then
  baa (α:=Bool) (
   if t1.Kind=t2.Kind/\t1.Enum=t2.Enum then
    (Th t1.Kind).bind λx5=>
    some x5
   else
   some false) λj6=>
  some (t1,j6)
 else
 baa (α:=Bool) (
  if t0=13 then
   some true
  else
  if t0=14 then
   some true
  else
  some (t0==15)) λj9=>
 if j9=true then
  (oo t0 t1.Kind t2.Kind).bind λx11=>
  some (x11.1,x11.2)
 else
 if t0=16 then
  baa (α:=Bool) (
   if t1.Kind=3 then
    some (t2.Kind==3)
   else
   some false) λj14=>
  some (t1,j14)
 else
 baa (α:=Bool) (
  if t0=17 then
   some true
  else
  some (t0==18)) λj16=>
 if j16=true then
  baa (α:=Bool) (
   if t1.Kind=t2.Kind/\t1.Enum=t2.Enum then
    (og t1.Kind).bind λx19=>
    some x19
   else
   some false) λj20=>
  some (t1,j20)
 else
 baa (α:=Bool) (
  if t0=19 then
   some true
  else
  some (t0==20)) λj22=>
 if j22=true then
  (ub 1).bind λx24=>
  some (x24,((t1.Kind==t2.Kind)&&(t1.Enum==t2.Enum)))
 else
 baa (α:=Bool) (
  if t0=21 then
   some true
  else
  some (t0==22)) λj26=>
 if j26=true then
  baa (α:=(Int×Int×Bool)) (
   (ub 1).bind λx28=>
   if t1.Kind=t2.Kind/\t1.Enum=t2.Enum then
    (og t1.Kind).bind λx30=>
    some (x28.Kind,x28.Enum,x30)
   else
   some (x28.Kind,x28.Enum,false)) λ(j31,j32,j33)=>
  some ((GType.mk j31 j32),j33)
 else
 baa (α:=Bool) (
  if t0=23 then
   some true
  else
  some (t0==24)) λj35=>
 if j35=true then
  baa (α:=Bool) (
   if t1.Kind=1 then
    some (t2.Kind==1)
   else
   some false) λj38=>
  some (t1,j38)
 else
 baa (α:=Bool) (
  if t0=27 then
   some true
  else
  some (t0==28)) λj40=>
 if j40=true then
  baa (α:=Bool) (
   if t1.Kind=5 then
    some (t2.Kind==2)
   else
   some false) λj43=>
  some (t1,j43)
 else
 baa (α:=(Int×Int×Bool)) (
  (ub 2).bind λx44=>
  if t1.Kind=5 then
   some (x44.Kind,x44.Enum,(t2.Kind==5))
  else
  some (x44.Kind,x44.Enum,false)) λ(j46,j47,j48)=>
 some ((GType.mk j46 j47),j48)
noncomputable def Ua(t0:GNode) (t1:List GType) (t2:GSignature):Option (GType×Int):=
 baa (α:=Bool) (
  if¬t0.N=0 then
   (uk t0.Op).bind λx2=>
   some (!x2)
  else
  some false) λj3=>
 if j3=true then
  some ((GType.mk 0 0),2)
 else
 (gb t0 t2).bind λx5=>
 if x5=false then
  some ((GType.mk 0 0),3)
 else
 (bc t0 t2).bind λx7=>
 if x7=false then
  some ((GType.mk 0 0),6)
 else
 baa (α:=(Int×Int×Bool)) (
  if(t1.length:Int)=0 then
   (xi t0 t2).bind λx10=>
   some (x10.1.Kind,x10.1.Enum,x10.2)
  else
  if(t1.length:Int)=1 then
   (idx t1 0).bind λx12=>
   (Cj t0 x12 t2).bind λx13=>
   some (x13.1.Kind,x13.1.Enum,x13.2)
  else
  if(t1.length:Int)=2 then
   (idx t1 0).bind λx15=>
   (idx t1 1).bind λx16=>
   (Rh t0.Op x15 x16).bind λx17=>
   some (x17.1.Kind,x17.1.Enum,x17.2)
  else
  (idx t1 1).bind λx18=>
  (idx t1 0).bind λx19=>
  if x19.Kind=1 then
   (idx t1 2).bind λx21=>
   some (x18.Kind,x18.Enum,((x18.Kind==x21.Kind)&&(x18.Enum==x21.Enum)))
  else
  some (x18.Kind,x18.Enum,false)) λ(j22,j23,j24)=>
 if j24=false then
  some ((GType.mk 0 0),8)
 else
 some ((GType.mk j22 j23),0)
noncomputable def Uj(t0:List GNode) (t1:GSignature):((List GType)×Int)->Option (Ex ((List GType)×Int) (List GType) (GType×Int×Int)):=λ(s3,s4)=>
 if s4<(t0.length:Int)then
  (idx t0 s4).bind λx6=>
  (sj x6.Op).bind λx7=>
  (aC s3 (ea .i64 ((s3.length:Int)-x7))).bind λx8=>
  (Ua x6 x8 t1).bind λx9=>
  if¬x9.2=0 then
   some (Ex.ret ((GType.mk 0 0),s4,x9.2))
  else
  (Zq s3 (ea .i64 ((s3.length:Int)-x7))).bind λx11=>
  (app 16 x11 ([x9.1])).bind λx12=>
  some (Ex.go (x12,(ea .i64 (s4+1))))
 else
 some (Ex.brk s3)
noncomputable def bm(t0:List GNode) (t1:GSignature):Option (GType×Int×Int):=
 (Qf t0).bind λx1=>
 if¬x1.2.2=0 then
  some ((GType.mk 0 0),x1.2.1,x1.2.2)
 else
 (fa (Uj t0 t1) (([]:List GType),0)).bind λy=>match y with
 |.inr v=>some v
 |.inl b15=>
 (idx b15 0).bind λx16=>
 some (x16,0,0)
noncomputable def uh(t0:List GNode) (t1:GSignature) (t2:GType):Option Int:=
 (bm t0 t1).bind λx1=>
 if¬x1.2.2=0 then
  some x1.2.2
 else
 if¬(x1.1.Kind=t2.Kind/\x1.1.Enum=t2.Enum)then
  some 8
 else
 some 0
noncomputable def Xg(t2:Int) (x1:GScope) (x2:GRule):(Int×Int)->Option (Ex (Int×Int) Int Int):=λ(s5,s6)=>
 if s6<t2 then
  baa (α:=(Int⊕(Ex (Int×Int) Int Int))) (
   (idx x1.Rules s6).bind λx8=>
   if x8.Name=x2.Name then
    some (Sum.inr (Ex.ret 7))
   else
   if x8.Def=x2.Def then
    some (Sum.inl (ea .i64 (s5+1)))
   else
   some (Sum.inl s5)) λz=>match z with
  |.inr v=>some v
  |.inl j11=>
  some (Ex.go (j11,(ea .i64 (s6+1))))
 else
 some (Ex.brk s5)
noncomputable def ck(t0:GLaw) (t1:Int) (t2:Int):Option Int:=
 (idx t0.Scopes t1).bind λx1=>
 (idx x1.Rules t2).bind λx2=>
 (sb x2.Name).bind λx3=>
 if x3=false then
  some 2
 else
 (fa (Xg t2 x1 x2) (0,0)).bind λy=>match y with
 |.inr v=>some v
 |.inl b14=>
 baa (α:=Bool) (
  if¬x2.Def<0 then
   some (decide ((x1.Defs.length:Int)<=x2.Def))
  else
  some true) λj16=>
 if j16=true then
  some 6
 else
 baa (α:=Bool) (
  if¬x2.Parent=(-1)then
   if¬x2.Parent<0 then
    if¬t2<=x2.Parent then
     (idx x1.Rules x2.Parent).bind λx21=>
     some (x21.Def !=x2.Def)
    else
    some true
   else
   some true
  else
  some false) λj22=>
 if j22=true then
  some 9
 else
 baa (α:=Bool) (
  if¬x2.Priority<0 then
   if¬9<x2.Priority then
    (Qh x2.Valid).bind λx26=>
    if x26=true then
     some (x2.Valid.From==x2.Valid.To)
    else
    some true
   else
   some true
  else
  some true) λj28=>
 if j28=true then
  some 3
 else
 if 8<=b14 then
  some 4
 else
 (Zj x2.Source).bind λx31=>
 if x31=false then
  some 2
 else
 (th t0 t1).bind λx33=>
 baa (α:=(Unit⊕Int)) (
  if 0<(x2.Guard.length:Int)then
   (uh x2.Guard x33 (GType.mk 1 0)).bind λx35=>
   if¬x35=0 then
    some (Sum.inr x35)
   else
   some (Sum.inl ())
  else
  some (Sum.inl ())) λz=>match z with
 |.inr v=>some v
 |.inl _=>
 (idx x1.Defs x2.Def).bind λx37=>
 (uh x2.Value x33 x37.Type_).bind λx38=>
 some x38
noncomputable def uv(t0:List Int) (t1:Int):((List Int)×Bool×Int)->Option (Ex ((List Int)×Bool×Int) ((List Int)×Bool) Unit):=λ(s1,s2,s3)=>
 if s3<(t0.length:Int)then
  baa (α:=((List Int)×Bool)) (
   baa (α:=Bool) (
    if s2=false then
     (idx t0 s3).bind λx6=>
     some (decide (t1<=x6))
    else
    some false) λj7=>
   if j7=true then
    baa (α:=(List Int)) (
     (idx t0 s3).bind λx9=>
     if t1<x9 then
      (app 8 s1 ([t1])).bind λx11=>
      some x11
     else
     some s1) λj12=>
    some (j12,true)
   else
   some (s1,s2)) λ(j13,j14)=>
  (idx t0 s3).bind λx15=>
  (app 8 j13 ([x15])).bind λx16=>
  some (Ex.go (x16,j14,(ea .i64 (s3+1))))
 else
 some (Ex.brk (s1,s2))
noncomputable def Ej(t0:List Int) (t1:Int):Option (List Int):=
 (fa (uv t0 t1) (([]:List Int),false,0)).bind λy=>match y with
 |.inr _=>none
 |.inl (b20,b21)=>
 baa (α:=(List Int)) (
  if b21=false then
   (app 8 b20 ([t1])).bind λx23=>
   some x23
  else
  some b20) λj24=>
 some j24
noncomputable def Pr(t0:GScope) (t1:Int):Option Bool:=
 baa (α:=Bool) (
  if 0<=t1 then
   some (decide (t1<(t0.Defs.length:Int)))
  else
  some false) λj2=>
 some j2
noncomputable def Vj(t0:List Int) (t1:Int):((List Int)×Bool×Int)->Option (Ex ((List Int)×Bool×Int) ((List Int)×Bool) Unit):=λ(s1,s2,s3)=>
 if s3<(t0.length:Int)then
  baa (α:=((List Int)×Bool)) (
   baa (α:=Bool) (
    if s2=false then
     (idx t0 s3).bind λx6=>
     some (decide (t1<=x6))
    else
    some false) λj7=>
   if j7=true then
    baa (α:=(List Int)) (
     (idx t0 s3).bind λx9=>
     if t1<x9 then
      (app 8 s1 ([t1])).bind λx11=>
      some x11
     else
     some s1) λj12=>
    some (j12,true)
   else
   some (s1,s2)) λ(j13,j14)=>
  (idx t0 s3).bind λx15=>
  (app 8 j13 ([x15])).bind λx16=>
  some (Ex.go (x16,j14,(ea .i64 (s3+1))))
 else
 some (Ex.brk (s1,s2))
noncomputable def Bj(t0:List Int) (t1:Int):Option (List Int):=
 (fa (Vj t0 t1) (([]:List Int),false,0)).bind λy=>match y with
 |.inr _=>none
 |.inl (b20,b21)=>
 baa (α:=(List Int)) (
  if b21=false then
   (app 8 b20 ([t1])).bind λx23=>
   some x23
  else
  some b20) λj24=>
 some j24
noncomputable def Wf(t0:List GNode):((List Int)×(List Int)×(List Int)×Int)->Option (Ex ((List Int)×(List Int)×(List Int)×Int) ((List Int)×(List Int)×(List Int)) Unit):=λ(s1,s2,s3,s4)=>
 if s4<(t0.length:Int)then
  baa (α:=((List Int)×(List Int)×(List Int))) (
   (idx t0 s4).bind λx6=>
   baa (α:=(List Int)) (
    if x6.Op=7 then
     (Bj s1 x6.N).bind λx8=>
     some x8
    else
    some s1) λj9=>
   baa (α:=(List Int)) (
    if x6.Op=8 then
     (Bj s2 x6.N).bind λx11=>
     some x11
    else
    some s2) λj12=>
   baa (α:=Bool) (
    if 36<=x6.Op then
     some (decide (x6.Op<=39))
    else
    some false) λj14=>
   if j14=true then
    (Bj s3 x6.N).bind λx16=>
    some (j9,j12,x16)
   else
   some (j9,j12,s3)) λ(j17,j18,j19)=>
  some (Ex.go (j17,j18,j19,(ea .i64 (s4+1))))
 else
 some (Ex.brk (s1,s2,s3))
noncomputable def xg(t0:List GNode):Option ((List Int)×(List Int)×(List Int)):=
 (fa (Wf t0) (([]:List Int),([]:List Int),([]:List Int),0)).bind λy=>match y with
 |.inr _=>none
 |.inl (b24,b25,b26)=>
 some (b24,b25,b26)
noncomputable def km(t0:GScope) (x8:((List Int)×(List Int)×(List Int))):((List Int)×Int)->Option (Ex ((List Int)×Int) (List Int) Unit):=λ(s10,s11)=>
 if s11<(x8.2.1.length:Int)then
  baa (α:=(List Int)) (
   (idx x8.2.1 s11).bind λx13=>
   (Pr t0 x13).bind λx14=>
   if x14=true then
    (Ej s10 x13).bind λx16=>
    some x16
   else
   some s10) λj17=>
  some (Ex.go (j17,(ea .i64 (s11+1))))
 else
 some (Ex.brk s10)
noncomputable def im(t0:GScope) (x9:((List Int)×(List Int)×(List Int))):((List Int)×Int)->Option (Ex ((List Int)×Int) (List Int) Unit):=λ(s21,s22)=>
 if s22<(x9.2.1.length:Int)then
  baa (α:=(List Int)) (
   (idx x9.2.1 s22).bind λx24=>
   (Pr t0 x24).bind λx25=>
   if x25=true then
    (Ej s21 x24).bind λx27=>
    some x27
   else
   some s21) λj28=>
  some (Ex.go (j28,(ea .i64 (s22+1))))
 else
 some (Ex.brk s21)
noncomputable def fj(t0:GScope) (t1:Int):((List Int)×Int)->Option (Ex ((List Int)×Int) (List Int) Unit):=λ(s3,s4)=>
 if s4<(t0.Rules.length:Int)then
  baa (α:=(List Int)) (
   (idx t0.Rules s4).bind λx6=>
   if¬x6.Def=t1 then
    some s3
   else
   (xg x6.Guard).bind λx8=>
   (xg x6.Value).bind λx9=>
   (fa (km t0 x8) (s3,0)).bind λy=>match y with
   |.inr _=>none
   |.inl b20=>
   (fa (im t0 x9) (b20,0)).bind λy=>match y with
   |.inr _=>none
   |.inl b31=>
   some b31) λj32=>
  some (Ex.go (j32,(ea .i64 (s4+1))))
 else
 some (Ex.brk s3)
noncomputable def gm(t0:GScope) (t1:Int):Option (List Int):=
 (Pr t0 t1).bind λx1=>
 if x1=false then
  some ([])
 else
 (fa (fj t0 t1) (([]:List Int),0)).bind λy=>match y with
 |.inr _=>none
 |.inl b35=>
 some b35
noncomputable def mf(x9:List Int):((List Int)×Int)->Option (Ex ((List Int)×Int) (List Int) Unit):=λ(s10,s11)=>
 if s11<(x9.length:Int)then
  (idx x9 s11).bind λx13=>
  (Ej s10 x13).bind λx14=>
  some (Ex.go (x14,(ea .i64 (s11+1))))
 else
 some (Ex.brk s10)
noncomputable def nf(t0:GScope) (s2:List Int):((List Int)×Int)->Option (Ex ((List Int)×Int) (List Int) Unit):=λ(s5,s6)=>
 if s6<(s2.length:Int)then
  (idx s2 s6).bind λx8=>
  (gm t0 x8).bind λx9=>
  (fa (mf x9) (s5,0)).bind λy=>match y with
  |.inr _=>none
  |.inl b17=>
  some (Ex.go (b17,(ea .i64 (s6+1))))
 else
 some (Ex.brk s5)
noncomputable def pf(t0:GScope):((List Int)×Int)->Option (Ex ((List Int)×Int) (List Int) Unit):=λ(s2,s3)=>
 if s3<(t0.Defs.length:Int)then
  (fa (nf t0 s2) (s2,0)).bind λy=>match y with
  |.inr _=>none
  |.inl b20=>
  some (Ex.go (b20,(ea .i64 (s3+1))))
 else
 some (Ex.brk s2)
noncomputable def ij(t0:GScope) (t1:Int):Option (List Int):=
 (gm t0 t1).bind λx1=>
 (fa (pf t0) (x1,0)).bind λy=>match y with
 |.inr _=>none
 |.inl b23=>
 some b23
noncomputable def rf(t0:GLaw) (t1:Int) (x1:GScope):Int->Option (Ex Int Unit GLawError):=λs16=>
 if s16<(x1.Rules.length:Int)then
  (ck t0 t1 s16).bind λx18=>
  if¬x18=0 then
   some (Ex.ret (GLawError.mk x18 3 t1 (ea .i64 (300+s16))))
  else
  some (Ex.go (ea .i64 (s16+1)))
 else
 some (Ex.brk ())
noncomputable def Zf(t1:Int) (s21:Int) (x23:List Int):Int->Option (Ex Int Unit (Ex Int Unit GLawError)):=λs24=>
 if s24<(x23.length:Int)then
  (idx x23 s24).bind λx26=>
  if x26=s21 then
   some (Ex.ret (Ex.ret (GLawError.mk 9 3 t1 (ea .i64 (200+s21)))))
  else
  some (Ex.go (ea .i64 (s24+1)))
 else
 some (Ex.brk ())
noncomputable def qf(t1:Int) (x1:GScope):Int->Option (Ex Int Unit GLawError):=λs21=>
 if s21<(x1.Defs.length:Int)then
  (ij x1 s21).bind λx23=>
  (fa (Zf t1 s21 x23) 0).bind λy=>match y with
  |.inr v=>some v
  |.inl _=>
  some (Ex.go (ea .i64 (s21+1)))
 else
 some (Ex.brk ())
noncomputable def lj(t0:GLaw) (t1:Int):Option GLawError:=
 (idx t0.Scopes t1).bind λx1=>
 (sb x1.Name).bind λx2=>
 if x2=false then
  some (GLawError.mk 2 3 t1 0)
 else
 (pc t0 3 t1 x1.Name).bind λx4=>
 if x4=true then
  some (GLawError.mk 7 3 t1 0)
 else
 baa (α:=Bool) (
  if¬x1.MemberScope=(-1)then
   if¬x1.MemberScope<0 then
    if¬t1<=x1.MemberScope then
     (idx t0.Scopes x1.MemberScope).bind λx9=>
     some (x9.MemberScope !=(-1))
    else
    some true
   else
   some true
  else
  some false) λj10=>
 if j10=true then
  some (GLawError.mk 6 3 t1 0)
 else
 if 12<(x1.Inputs.length:Int)then
  some (GLawError.mk 4 3 t1 112)
 else
 if 12<(x1.Defs.length:Int)then
  some (GLawError.mk 4 3 t1 212)
 else
 (jj t0 t1).bind λx14=>
 if¬x14.Code=0 then
  some x14
 else
 (fa (rf t0 t1 x1) 0).bind λy=>match y with
 |.inr v=>some v
 |.inl _=>
 (fa (qf t1 x1) 0).bind λy=>match y with
 |.inr v=>some v
 |.inl _=>
 some (GLawError.mk 0 0 0 0)
noncomputable def ei(t0:GLaw):Int->Option (Ex Int Unit GLawError):=λs2=>
 if s2<(t0.Enums.length:Int)then
  (Yj t0 s2).bind λx4=>
  if¬x4.Code=0 then
   some (Ex.ret x4)
  else
  some (Ex.go (ea .i64 (s2+1)))
 else
 some (Ex.brk ())
noncomputable def di(t0:GLaw):Int->Option (Ex Int Unit GLawError):=λs8=>
 if s8<(t0.Tables.length:Int)then
  (mj t0 s8).bind λx10=>
  if¬x10.Code=0 then
   some (Ex.ret x10)
  else
  some (Ex.go (ea .i64 (s8+1)))
 else
 some (Ex.brk ())
noncomputable def ai(t0:GLaw):Int->Option (Ex Int Unit GLawError):=λs14=>
 if s14<(t0.Scopes.length:Int)then
  (lj t0 s14).bind λx16=>
  if¬x16.Code=0 then
   some (Ex.ret x16)
  else
  some (Ex.go (ea .i64 (s14+1)))
 else
 some (Ex.brk ())
noncomputable def Gl(t0:GLaw):Option GLawError:=
 if 8<(t0.Enums.length:Int)then
  some (GLawError.mk 4 1 8 0)
 else
 (fa (ei t0) 0).bind λy=>match y with
 |.inr v=>some v
 |.inl _=>
 if 8<(t0.Tables.length:Int)then
  some (GLawError.mk 4 2 8 0)
 else
 (fa (di t0) 0).bind λy=>match y with
 |.inr v=>some v
 |.inl _=>
 if 4<(t0.Scopes.length:Int)then
  some (GLawError.mk 4 3 4 0)
 else
 (fa (ai t0) 0).bind λy=>match y with
 |.inr v=>some v
 |.inl _=>
 some (GLawError.mk 0 0 0 0)
noncomputable def Xi(t0:GDateRange) (t1:Int):Option Bool:=
 baa (α:=Bool) (
  (Qh t0).bind λx1=>
  if x1=true then
   if t0.From<=t1 then
    some (decide (t1<t0.To))
   else
   some false
  else
  some false) λj4=>
 some j4
noncomputable def dj(t0:GScope) (t1:Int) (t2:Int):((List Int)×Int)->Option (Ex ((List Int)×Int) (List Int) Unit):=λ(s1,s2)=>
 if s2<(t0.Rules.length:Int)then
  baa (α:=(List Int)) (
   baa (α:=Bool) (
    (idx t0.Rules s2).bind λx4=>
    if x4.Def=t1 then
     (Xi x4.Valid t2).bind λx6=>
     some x6
    else
    some false) λj7=>
   if j7=true then
    (app 8 s1 ([s2])).bind λx9=>
    some x9
   else
   some s1) λj10=>
  some (Ex.go (j10,(ea .i64 (s2+1))))
 else
 some (Ex.brk s1)
noncomputable def wk(t0:GScope) (t1:Int) (t2:Int):Option (List Int):=
 (fa (dj t0 t1 t2) (([]:List Int),0)).bind λy=>match y with
 |.inr _=>none
 |.inl b13=>
 some b13
noncomputable def xq(t0:GScope) (x1:List Int):((List (List GNode))×Int)->Option (Ex ((List (List GNode))×Int) (List (List GNode)) Unit):=λ(s2,s3)=>
 if s3<(x1.length:Int)then
  baa (α:=(List (List GNode))) (
   (idx x1 s3).bind λx5=>
   (idx t0.Rules x5).bind λx6=>
   if 0<(x6.Guard.length:Int)then
    (app 24 s2 ([x6.Guard])).bind λx8=>
    some x8
   else
   some s2) λj9=>
  some (Ex.go (j9,(ea .i64 (s3+1))))
 else
 some (Ex.brk s2)
noncomputable def Bo(t0:GScope) (t1:Int) (t2:Int):Option (List (List GNode)):=
 (wk t0 t1 t2).bind λx1=>
 (fa (xq t0 x1) (([]:List (List GNode)),0)).bind λy=>match y with
 |.inr _=>none
 |.inl b12=>
 some b12
noncomputable def yg(t0:Int):Option Bool:=
 baa (α:=Bool) (
  if 19<=t0 then
   some (decide (t0<=22))
  else
  some false) λj2=>
 some j2
noncomputable def Ci(t0:Int):Option Bool:=
 baa (α:=Bool) (
  if 2<=t0 then
   some (decide (t0<=6))
  else
  some false) λj2=>
 some j2
noncomputable def ko(x1:((List Int)×Int×Int)):((List Int)×Int×Int)->Option (Ex ((List Int)×Int×Int) (List Int) Unit):=λ(s9,s10,s11)=>
 if 0<=s11 then
  (idx s9 s11).bind λx13=>
  (put s9 s11 s10).bind λx14=>
  (idx x1.1 s10).bind λx15=>
  some (Ex.go (x14,(ea .i64 (x15-1)),(ea .i64 (s11-1))))
 else
 some (Ex.brk s9)
noncomputable def Zi(t0:List GNode) (t1:Int):Option (List Int):=
 (Qf t0).bind λx1=>
 baa (α:=Bool) (
  if x1.2.2=0 then
   if¬t1<0 then
    some (decide ((t0.length:Int)<=t1))
   else
   some true
  else
  some true) λj4=>
 if j4=true then
  some ([])
 else
 (idx t0 t1).bind λx6=>
 (sj x6.Op).bind λx7=>
 (sE 8 0 x7 x7).bind λx8=>
 (fa (ko x1) (x8,(ea .i64 (t1-1)),(ea .i64 (x7-1)))).bind λy=>match y with
 |.inr _=>none
 |.inl b19=>
 some b19
noncomputable def qm(t0:List GNode) (t1:Int):Option (GNode×GNode×Bool):=
 (Zi t0 t1).bind λx1=>
 baa (α:=Bool) (
  (idx t0 t1).bind λx2=>
  (yg x2.Op).bind λx3=>
  if x3=true then
   some ((x1.length:Int) !=2)
  else
  some true) λj5=>
 if j5=true then
  some ((GNode.mk 0 0),(GNode.mk 0 0),false)
 else
 (idx x1 0).bind λx7=>
 (idx t0 x7).bind λx8=>
 (idx x1 1).bind λx9=>
 (idx t0 x9).bind λx10=>
 baa (α:=Bool) (
  if x8.Op=7 then
   (Ci x10.Op).bind λx12=>
   some x12
  else
  some false) λj13=>
 if j13=true then
  some (x8,x10,true)
 else
 baa (α:=Bool) (
  if x10.Op=7 then
   (Ci x8.Op).bind λx16=>
   some x16
  else
  some false) λj17=>
 if j17=true then
  some (x10,x8,true)
 else
 some ((GNode.mk 0 0),(GNode.mk 0 0),false)
noncomputable def gk(t0:List GNode):Int->Option (Ex Int Unit Bool):=λs5=>
 if s5<(t0.length:Int)then
  baa (α:=(Unit⊕(Ex Int Unit Bool))) (
   (idx t0 s5).bind λx7=>
   (yg x7.Op).bind λx8=>
   if x8=true then
    (qm t0 s5).bind λx10=>
    if x10.2.2=false then
     some (Sum.inr (Ex.ret false))
    else
    some (Sum.inl ())
   else
   baa (α:=Bool) (
    if¬x7.Op=1 then
     if¬x7.Op=23 then
      if¬x7.Op=24 then
       if¬x7.Op=25 then
        if¬x7.Op=7 then
         (Ci x7.Op).bind λx17=>
         some (!x17)
        else
        some false
       else
       some false
      else
      some false
     else
     some false
    else
    some false) λj18=>
   if j18=true then
    some (Sum.inr (Ex.ret false))
   else
   some (Sum.inl ())) λz=>match z with
  |.inr v=>some v
  |.inl _=>
  some (Ex.go (ea .i64 (s5+1)))
 else
 some (Ex.brk ())
noncomputable def om(t0:List GNode) (t1:GSignature):Option Bool:=
 (bm t0 t1).bind λx1=>
 baa (α:=Bool) (
  if x1.2.2=0 then
   some (!((x1.1.Kind==1)&&(x1.1.Enum==0)))
  else
  some true) λj3=>
 if j3=true then
  some false
 else
 (fa (gk t0) 0).bind λy=>match y with
 |.inr v=>some v
 |.inl _=>
 some true
noncomputable def ik(t0:(List (List GNode))) (t1:Int) (s1:Int):Int->Option (Ex Int Unit (Ex Int Unit Bool)):=λs3=>
 (idx t0 s1).bind λx4=>
 if s3<(x4.length:Int)then
  baa (α:=Bool) (
   (idx x4 s3).bind λx6=>
   if x6.Op=7 then
    some (x6.N==t1)
   else
   some false) λj8=>
  if j8=true then
   some (Ex.ret (Ex.ret true))
  else
  some (Ex.go (ea .i64 (s3+1)))
 else
 some (Ex.brk ())
noncomputable def lk(t0:(List (List GNode))) (t1:Int):Int->Option (Ex Int Unit Bool):=λs1=>
 if s1<(t0.length:Int)then
  (fa (ik t0 t1 s1) 0).bind λy=>match y with
  |.inr v=>some v
  |.inl _=>
  some (Ex.go (ea .i64 (s1+1)))
 else
 some (Ex.brk ())
noncomputable def Eo(t0:(List (List GNode))) (t1:Int):Option Bool:=
 (fa (lk t0 t1) 0).bind λy=>match y with
 |.inr v=>some v
 |.inl _=>
 some false
noncomputable def Tj(t0:List Int) (t1:Int):((List Int)×Int)->Option (Ex ((List Int)×Int) (List Int) Unit):=λ(s1,s2)=>
 if s2<(t0.length:Int)then
  baa (α:=(List Int)) (
   (idx t0 s2).bind λx4=>
   if x4<t1 then
    (app 8 s1 ([x4])).bind λx6=>
    some x6
   else
   some s1) λj7=>
  some (Ex.go (j7,(ea .i64 (s2+1))))
 else
 some (Ex.brk s1)
noncomputable def Sj(t0:List Int) (t1:Int):((List Int)×Int)->Option (Ex ((List Int)×Int) (List Int) Unit):=λ(s12,s13)=>
 if s13<(t0.length:Int)then
  baa (α:=(List Int)) (
   (idx t0 s13).bind λx15=>
   if t1<x15 then
    (app 8 s12 ([x15])).bind λx17=>
    some x17
   else
   some s12) λj18=>
  some (Ex.go (j18,(ea .i64 (s13+1))))
 else
 some (Ex.brk s12)
noncomputable def Aj(t0:List Int) (t1:Int):Option (List Int):=
 (fa (Tj t0 t1) (([]:List Int),0)).bind λy=>match y with
 |.inr _=>none
 |.inl b10=>
 (app 8 b10 ([t1])).bind λx11=>
 (fa (Sj t0 t1) (x11,0)).bind λy=>match y with
 |.inr _=>none
 |.inl b21=>
 some b21
noncomputable def Bi(x1:(Int×Int)):((List Int)×Int)->Option (Ex ((List Int)×Int) (List Int) Unit):=λ(s6,s7)=>
 if s7<=x1.2 then
  (app 8 s6 ([s7])).bind λx9=>
  some (Ex.go (x9,(ea .i64 (s7+1))))
 else
 some (Ex.brk s6)
noncomputable def qd(t2:List Int) (x1:(Int×Int)):((List Int)×Int)->Option (Ex ((List Int)×Int) (List Int) Unit):=λ(s13,s14)=>
 if s14<(t2.length:Int)then
  baa (α:=(List Int)) (
   baa (α:=Bool) (
    (idx t2 s14).bind λx16=>
    if x1.1<=x16 then
     some (decide (x16<=x1.2))
    else
    some false) λj18=>
   if j18=true then
    (idx t2 s14).bind λx20=>
    (Aj s13 x20).bind λx21=>
    some x21
   else
   some s13) λj22=>
  some (Ex.go (j22,(ea .i64 (s14+1))))
 else
 some (Ex.brk s13)
noncomputable def Fe(t0:GType) (t1:List GEnum) (t2:List Int):Option (List Int):=
 (We t0 t1).bind λx1=>
 if x1.2<x1.1 then
  some ([])
 else
 baa (α:=Bool) (
  if¬t0.Kind=1 then
   some (t0.Kind==6)
  else
  some true) λj4=>
 if j4=true then
  (fa (Bi x1) (([]:List Int),x1.1)).bind λy=>match y with
  |.inr _=>none
  |.inl b12=>
  some b12
 else
 (fa (qd t2 x1) ([x1.1],0)).bind λy=>match y with
 |.inr _=>none
 |.inl b25=>
 some b25
noncomputable def Zg(t0:(List (List GNode))) (t1:Int) (s2:Int):((List Int)×Int)->Option (Ex ((List Int)×Int) (List Int) Unit):=λ(s4,s5)=>
 (idx t0 s2).bind λx6=>
 if s5<(x6.length:Int)then
  baa (α:=(List Int)) (
   (qm x6 s5).bind λx8=>
   baa (α:=Bool) (
    if x8.2.2=true then
     if x8.1.N=t1 then
      some (x8.2.1.Op==6)
     else
     some true
    else
    some true) λj11=>
   if j11=true then
    some s4
   else
   (Aj s4 x8.2.1.N).bind λx13=>
   if x8.2.1.N<(ea .i64 (x8.2.1.N+1))then
    (Aj x13 (ea .i64 (x8.2.1.N+1))).bind λx15=>
    some x15
   else
   some x13) λj16=>
  some (Ex.go (j16,(ea .i64 (s5+1))))
 else
 some (Ex.brk s4)
noncomputable def ah(t0:(List (List GNode))) (t1:Int):((List Int)×Int)->Option (Ex ((List Int)×Int) (List Int) Unit):=λ(s1,s2)=>
 if s2<(t0.length:Int)then
  (fa (Zg t0 t1 s2) (s1,0)).bind λy=>match y with
  |.inr _=>none
  |.inl b19=>
  some (Ex.go (b19,(ea .i64 (s2+1))))
 else
 some (Ex.brk s1)
noncomputable def fk(t0:(List (List GNode))) (t1:Int):Option (List Int):=
 (fa (ah t0 t1) (([]:List Int),0)).bind λy=>match y with
 |.inr _=>none
 |.inl b22=>
 some b22
noncomputable def Hl(t0:(List (List Int))):Int->Option (Ex Int Unit Int):=λs1=>
 if s1<(t0.length:Int)then
  (idx t0 s1).bind λx3=>
  if(x3.length:Int)=0 then
   some (Ex.ret 0)
  else
  some (Ex.go (ea .i64 (s1+1)))
 else
 some (Ex.brk ())
noncomputable def Yg(t0:(List (List Int))):(Int×Int)->Option (Ex (Int×Int) Int Unit):=λ(s6,s7)=>
 baa (α:=Bool) (
  if s7<(t0.length:Int)then
   some (decide (s6<=4096))
  else
  some false) λj9=>
 if j9=true then
  (idx t0 s7).bind λx11=>
  some (Ex.go ((ea .i64 (s6*(x11.length:Int))),(ea .i64 (s7+1))))
 else
 some (Ex.brk s6)
noncomputable def bq(t0:(List (List Int))):Option Int:=
 (fa (Hl t0) 0).bind λy=>match y with
 |.inr v=>some v
 |.inl _=>
 (fa (Yg t0) (1,0)).bind λy=>match y with
 |.inr _=>none
 |.inl b14=>
 some (min b14 4097)
noncomputable def Om(x13:(List (List GNode))) (x14:GSignature):Int->Option (Ex Int Unit ((List (List Int))×Int)):=λs15=>
 if s15<(x13.length:Int)then
  (idx x13 s15).bind λx17=>
  (om x17 x14).bind λx18=>
  if x18=false then
   some (Ex.ret ([],17))
  else
  some (Ex.go (ea .i64 (s15+1)))
 else
 some (Ex.brk ())
noncomputable def Mm(t0:GLaw) (x12:GScope) (x13:(List (List GNode))):((List (List Int))×Int)->Option (Ex ((List (List Int))×Int) (List (List Int)) Unit):=λ(s21,s22)=>
 if s22<(x12.Inputs.length:Int)then
  baa (α:=(List (List Int))) (
   (Eo x13 s22).bind λx24=>
   if x24=true then
    (idx x12.Inputs s22).bind λx26=>
    (fk x13 s22).bind λx27=>
    (Fe x26.Type_ t0.Enums x27).bind λx28=>
    (app 24 s21 ([x28])).bind λx29=>
    some x29
   else
   (app 24 s21 ([[0]])).bind λx30=>
   some x30) λj31=>
  some (Ex.go (j31,(ea .i64 (s22+1))))
 else
 some (Ex.brk s21)
noncomputable def qp(t0:GLaw) (t1:Int) (t2:Int) (t3:Int):Option ((List (List Int))×Int):=
 (Gl t0).bind λx1=>
 if¬x1.Code=0 then
  some ([],1)
 else
 baa (α:=Bool) (
  if¬t1<0 then
   if¬(t0.Scopes.length:Int)<=t1 then
    if¬t2<0 then
     (idx t0.Scopes t1).bind λx6=>
     some (decide ((x6.Defs.length:Int)<=t2))
    else
    some true
   else
   some true
  else
  some true) λj7=>
 if j7=true then
  some ([],6)
 else
 baa (α:=Bool) (
  if¬t3<0 then
   some (decide (109572<t3))
  else
  some true) λj10=>
 if j10=true then
  some ([],3)
 else
 (idx t0.Scopes t1).bind λx12=>
 (Bo x12 t2 t3).bind λx13=>
 (th t0 t1).bind λx14=>
 (fa (Om x13 x14) 0).bind λy=>match y with
 |.inr v=>some v
 |.inl _=>
 (fa (Mm t0 x12 x13) (([]:List (List Int)),0)).bind λy=>match y with
 |.inr _=>none
 |.inl b34=>
 (bq b34).bind λx35=>
 if 4096<x35 then
  some ([],4)
 else
 some (b34,0)
noncomputable def Fl(t0:List Int) (t1:Int):Int->Option (Ex Int Unit Int):=λs1=>
 if s1<(t0.length:Int)then
  (idx t0 s1).bind λx3=>
  if x3=t1 then
   some (Ex.ret s1)
  else
  some (Ex.go (ea .i64 (s1+1)))
 else
 some (Ex.brk ())
noncomputable def Gn(t0:List Int) (t1:Int):Option Int:=
 (fa (Fl t0 t1) 0).bind λy=>match y with
 |.inr v=>some v
 |.inl _=>
 some (-1)
noncomputable def sh(t0:GScope) (t1:List Int):(Int×Int)->Option (Ex (Int×Int) Unit Int):=λ(s2,s3)=>
 baa (α:=Bool) (
  if 0<=s3 then
   some (decide (s3<s2))
  else
  some false) λj5=>
 if j5=true then
  (Gn t1 s3).bind λx7=>
  if 0<=x7 then
   some (Ex.ret x7)
  else
  (idx t0.Rules s3).bind λx9=>
  some (Ex.go (s3,x9.Parent))
 else
 some (Ex.brk ())
noncomputable def Ao(t0:GScope) (t1:List Int) (t2:Int):Option Int:=
 (idx t0.Rules t2).bind λx1=>
 (fa (sh t0 t1) (t2,x1.Parent)).bind λy=>match y with
 |.inr v=>some v
 |.inl _=>
 some (-1)
noncomputable def Xj(t0:GScope) (x1:List Int):((List Int)×(List Int)×Int)->Option (Ex ((List Int)×(List Int)×Int) ((List Int)×(List Int)) Unit):=λ(s2,s3,s4)=>
 if s4<(x1.length:Int)then
  (idx x1 s4).bind λx6=>
  (Ao t0 x1 x6).bind λx7=>
  (app 8 s2 ([x7])).bind λx8=>
  (idx t0.Rules x6).bind λx9=>
  (app 8 s3 ([x9.Priority])).bind λx10=>
  some (Ex.go (x8,x10,(ea .i64 (s4+1))))
 else
 some (Ex.brk (s2,s3))
noncomputable def xo(t0:GScope) (t1:Int) (t2:Int):Option ((List Int)×(List Int)×(List Int)):=
 (wk t0 t1 t2).bind λx1=>
 (fa (Xj t0 x1) (([]:List Int),([]:List Int),0)).bind λy=>match y with
 |.inr _=>none
 |.inl (b14,b15)=>
 some (x1,b14,b15)
noncomputable def Xq(t0:List GNode):Option ((List Int)×Int):=
 (Qf t0).bind λx1=>
 some (x1.1,x1.2.2)
noncomputable def Yq(t0:Int):Option (Int×Int):=
 if t0=1 then
  some (0,1)
 else
 if t0=2 then
  some ((-1000000000000),1000000000000)
 else
 if t0=3 then
  some ((-1000000000000000),1000000000000000)
 else
 if t0=4 then
  some ((-1000000000),1000000000)
 else
 if t0=5 then
  some (0,109572)
 else
 if t0=6 then
  some (0,15)
 else
 some (0,(-1))
noncomputable def Rb(t0:GValue):Option Bool:=
 (Yq t0.Kind).bind λx1=>
 baa (α:=Bool) (
  if¬t0.N<x1.1 then
   some (decide (x1.2<t0.N))
  else
  some true) λj3=>
 if j3=true then
  some false
 else
 if t0.Kind=6 then
  baa (α:=Bool) (
   if 0<=t0.Enum then
    some (decide (t0.Enum<8))
   else
   some false) λj7=>
  some j7
 else
 some (t0.Enum==0)
noncomputable def Km(t0:Int):Option Bool:=
 baa (α:=Bool) (
  if 1<=t0 then
   if¬t0<=8 then
    if 36<=t0 then
     some (decide (t0<=39))
    else
    some false
   else
   some true
  else
  if 36<=t0 then
   some (decide (t0<=39))
  else
  some false) λj5=>
 if j5=true then
  some true
 else
 baa (α:=Bool) (
  if¬t0=14 then
   if¬t0=15 then
    if¬t0=16 then
     if¬t0=33 then
      some (t0==34)
     else
     some true
    else
    some true
   else
   some true
  else
  some true) λj11=>
 some j11
noncomputable def so(t0:GNode) (t1:Int):Option Bool:=
 baa (α:=Bool) (
  (sj t0.Op).bind λx1=>
  if x1=t1 then
   if¬t0.N=0 then
    (Km t0.Op).bind λx4=>
    some (!x4)
   else
   some false
  else
  some true) λj5=>
 if j5=true then
  some false
 else
 baa (α:=Bool) (
  if t0.Op=14 then
   some true
  else
  if t0.Op=15 then
   some true
  else
  some (t0.Op==16)) λj9=>
 if j9=true then
  baa (α:=Bool) (
   if 0<=t0.N then
    some (decide (t0.N<=5))
   else
   some false) λj12=>
  some j12
 else
 if t0.Op=34 then
  baa (α:=Bool) (
   if 0<=t0.N then
    some (decide ((Jaa t0.N 8)<=5))
   else
   some false) λj15=>
  some j15
 else
 if t0.Op=6 then
  some (decide (0<=t0.N))
 else
 some true
noncomputable def aq(t0:GNode) (t1:GEnv):Option Bool:=
 if t0.Op=7 then
  baa (α:=Bool) (
   if 0<=t0.N then
    some (decide (t0.N<(t1.Inputs.length:Int)))
   else
   some false) λj3=>
  some j3
 else
 if t0.Op=8 then
  baa (α:=Bool) (
   if 0<=t0.N then
    if t0.N<(t1.Defs.length:Int)then
     (idx t1.Defs t0.N).bind λx7=>
     some (x7.Kind !=0)
    else
    some false
   else
   some false) λj8=>
  some j8
 else
 if t0.Op=33 then
  baa (α:=Bool) (
   if 0<=t0.N then
    some (decide (t0.N<(t1.Tables.length:Int)))
   else
   some false) λj11=>
  some j11
 else
 if t0.Op=34 then
  some (decide ((ea .i64 (Baa t0.N 8))<(t1.Tables.length:Int)))
 else
 baa (α:=Bool) (
  if t0.Op=36 then
   some true
  else
  if t0.Op=37 then
   some true
  else
  if t0.Op=38 then
   some true
  else
  some (t0.Op==39)) λj16=>
 if j16=true then
  baa (α:=Bool) (
   if 0<=t0.N then
    some (decide (t0.N<(t1.MemberTypes.length:Int)))
   else
   some false) λj19=>
  some j19
 else
 some true
noncomputable def Oe(t0:Int) (t1:Int):Option (GValue×Int):=
 (Rb (GValue.mk t0 0 t1)).bind λx1=>
 if x1=false then
  some ((GValue.mk 0 0 0),3)
 else
 some ((GValue.mk t0 0 t1),0)
noncomputable def Hp(t0:GNode) (t1:GEnv):Option (GValue×Int):=none
noncomputable def zi(t0:GNode) (t1:GEnv):Option (GValue×Int):=
 if t0.Op=7 then
  (idx t1.Inputs t0.N).bind λx2=>
  (Rb x2).bind λx3=>
  if x3=false then
   some ((GValue.mk 0 0 0),8)
  else
  some (x2,0)
 else
 if t0.Op=8 then
  (idx t1.Defs t0.N).bind λx6=>
  (Rb x6).bind λx7=>
  if x7=false then
   some ((GValue.mk 0 0 0),8)
  else
  some (x6,0)
 else
 if t0.Op=9 then
  (Oe 5 t1.Date).bind λx10=>
  some (x10.1,x10.2)
 else
 if t0.Op=35 then
  (Oe 2 (t1.Members.length:Int)).bind λx12=>
  some (x12.1,x12.2)
 else
 if t0.Op=6 then
  (Rb (GValue.mk 6 (ea .i64 (Baa t0.N 16)) (Jaa t0.N 16))).bind λx14=>
  if x14=false then
   some ((GValue.mk 0 0 0),3)
  else
  some ((GValue.mk 6 (ea .i64 (Baa t0.N 16)) (Jaa t0.N 16)),0)
 else
 (Oe t0.Op t0.N).bind λx16=>
 some (x16.1,x16.2)
noncomputable def Dj(t0:Int):Option Bool:=
 baa (α:=Bool) (
  if¬t0=2 then
   if¬t0=3 then
    some (t0==4)
   else
   some true
  else
  some true) λj3=>
 some j3
noncomputable def lf(t0:Bool):Option (GValue×Int):=
 baa (α:=Int) (
  if t0=true then
   some 1
  else
  some 0) λj2=>
 some ((GValue.mk 1 0 j2),0)
noncomputable def Wq(t0:Int):Option Bool:=
 baa (α:=Bool) (
  if(Jaa t0 4)=0 then
   if(Jaa t0 100)=0 then
    some ((Jaa t0 400)==0)
   else
   some true
  else
  some false) λj3=>
 some j3
noncomputable def Ik(t0:Int) (t1:Int):Option Int:=
 if t1=2 then
  (Wq t0).bind λx2=>
  if x2=true then
   some 29
  else
  some 28
 else
 baa (α:=Bool) (
  if t1=4 then
   some true
  else
  if t1=6 then
   some true
  else
  if t1=9 then
   some true
  else
  some (t1==11)) λj7=>
 if j7=true then
  some 30
 else
 baa (α:=Bool) (
  if t1=1 then
   some true
  else
  if t1=3 then
   some true
  else
  if t1=5 then
   some true
  else
  if t1=7 then
   some true
  else
  if t1=8 then
   some true
  else
  if t1=10 then
   some true
  else
  some (t1==12)) λj15=>
 if j15=true then
  some 31
 else
 some 0
noncomputable def Zl(t0:Int):Option Int:=
 (Wq t0).bind λx1=>
 if x1=true then
  some 366
 else
 some 365
noncomputable def mw(t0:Int):Option Bool:=
 baa (α:=Bool) (
  if 0<=t0 then
   some (decide (t0<=109572))
  else
  some false) λj2=>
 some j2
noncomputable def jw  : (Int×Int)->Option (Ex (Int×Int) (Int×Int) Unit):=λ(s3,s4)=>
 (Zl s4).bind λx5=>
 if x5<=s3 then
  (Zl s4).bind λx7=>
  some (Ex.go ((ea .i64 (s3-x7)),(ea .i64 (s4+1))))
 else
 some (Ex.brk (s3,s4))
noncomputable def iw(b11:Int):(Int×Int)->Option (Ex (Int×Int) (Int×Int) Unit):=λ(s12,s13)=>
 (Ik b11 s13).bind λx14=>
 if x14<=s12 then
  (Ik b11 s13).bind λx16=>
  some (Ex.go ((ea .i64 (s12-x16)),(ea .i64 (s13+1))))
 else
 some (Ex.brk (s12,s13))
noncomputable def gw(t0:Int):Option (Int×Int×Int):=
 (mw t0).bind λx1=>
 if x1=false then
  some (0,0,0)
 else
 (fa jw (t0,1900)).bind λy=>match y with
 |.inr _=>none
 |.inl (b10,b11)=>
 (fa (iw b11) (b10,1)).bind λy=>match y with
 |.inr _=>none
 |.inl (b19,b20)=>
 some (b11,b20,(ea .i64 (b19+1)))
noncomputable def Ou(t0:GTable) (t1:Int) (t2:GValue):Option (GValue×Int):=none
noncomputable def qy(t0:Int):Option Bool:=
 baa (α:=Bool) (
  if 0<=t0 then
   some (decide (t0<=5))
  else
  some false) λj2=>
 some j2
noncomputable def Vq(t0:Int) (t1:Int):Option Bool:=
 baa (α:=Bool) (
  if¬t1<t0 then
   some (decide (t0<(ea .i64 (-t1))))
  else
  some true) λj2=>
 some j2
noncomputable def qn(t0:Int) (t1:Int):Option (Int×Int×Bool):=
 baa (α:=Int) (
  if t1<0 then
   some (ea .u64 ((ea .u64 (ea .i64 (-(ea .i64 (t1+1)))))+1))
  else
  some (ea .u64 t1)) λj2=>
 baa (α:=Bool) (
  if 0<(ea .i64 (ea .u64 (Baa j2 1000000)))then
   (quo .i64 1000000000000000 (ea .i64 (ea .u64 (Baa j2 1000000)))).bind λx4=>
   some (decide (x4<t0))
  else
  some false) λj5=>
 if j5=true then
  some (0,0,false)
 else
 if 1000000000000000<(ea .i64 ((ea .i64 ((ea .i64 (t0*(ea .i64 (ea .u64 (Baa j2 1000000)))))+(ea .i64 ((ea .i64 (Baa t0 1000000))*(ea .i64 (Jaa j2 1000000))))))+(ea .i64 (Baa (ea .i64 ((Jaa t0 1000000)*(ea .i64 (Jaa j2 1000000)))) 1000000))))then
  some (0,0,false)
 else
 if t1<0 then
  some ((ea .i64 (-(ea .i64 ((ea .i64 ((ea .i64 (t0*(ea .i64 (ea .u64 (Baa j2 1000000)))))+(ea .i64 ((ea .i64 (Baa t0 1000000))*(ea .i64 (Jaa j2 1000000))))))+(ea .i64 (Baa (ea .i64 ((Jaa t0 1000000)*(ea .i64 (Jaa j2 1000000)))) 1000000)))))),(ea .i64 (-(Jaa (ea .i64 ((Jaa t0 1000000)*(ea .i64 (Jaa j2 1000000)))) 1000000))),true)
 else
 some ((ea .i64 ((ea .i64 ((ea .i64 (t0*(ea .i64 (ea .u64 (Baa j2 1000000)))))+(ea .i64 ((ea .i64 (Baa t0 1000000))*(ea .i64 (Jaa j2 1000000))))))+(ea .i64 (Baa (ea .i64 ((Jaa t0 1000000)*(ea .i64 (Jaa j2 1000000)))) 1000000)))),(Jaa (ea .i64 ((Jaa t0 1000000)*(ea .i64 (Jaa j2 1000000)))) 1000000),true)
noncomputable def Ep(t0:Int) (t1:Int) (t2:Int) (t3:Bool) (t4:Int):Option Int:=
 baa (α:=(Bool×Bool)) (
  if t4=0 then
   if t3=true then
    some (true,(decide (0<t1)))
   else
   some (false,false)
  else
  if t4=1 then
   if t3=false then
    some (t3,(decide (0<t1)))
   else
   some (t3,false)
  else
  if t4=3 then
   some (t3,(decide (0<t1)))
  else
  if t4=4 then
   some (t3,(decide ((ea .i64 (t2-t1))<=t1)))
  else
  if t4=5 then
   if¬(ea .i64 (t2-t1))<t1 then
    if t1=(ea .i64 (t2-t1))then
     some (t3,((Jaa t0 2)==1))
    else
    some (t3,false)
   else
   some (t3,true)
  else
  some (t3,false)) λ(j10,j11)=>
 baa (α:=Int) (
  if j11=true then
   some (ea .i64 (t0+1))
  else
  some t0) λj13=>
 if j10=true then
  some (ea .i64 (-j13))
 else
 some j13
noncomputable def ou  : (Int×Int)->Option (Ex (Int×Int) (Int×Int) Unit):=λ(s1,s2)=>
 if s2<0 then
  some (Ex.go ((ea .i64 (s1-1)),(ea .i64 (s2+1000000))))
 else
 some (Ex.brk (s1,s2))
noncomputable def nu  : (Int×Int)->Option (Ex (Int×Int) (Int×Int) Unit):=λ(s8,s9)=>
 if 1000000<=s9 then
  some (Ex.go ((ea .i64 (s8+1)),(ea .i64 (s9-1000000))))
 else
 some (Ex.brk (s8,s9))
noncomputable def Ft(t0:Int) (t1:Int) (t2:Int):Option Int:=
 (fa ou (t0,t1)).bind λy=>match y with
 |.inr _=>none
 |.inl (b6,b7)=>
 (fa nu (b6,b7)).bind λy=>match y with
 |.inr _=>none
 |.inl (b13,b14)=>
 if 0<=b13 then
  (Ep b13 b14 1000000 false t2).bind λx16=>
  some x16
 else
 if b14=0 then
  some b13
 else
 (Ep (ea .i64 ((ea .i64 (-b13))-1)) (ea .i64 (1000000-b14)) 1000000 true t2).bind λx18=>
 some x18
noncomputable def Us(t0:GTable) (t1:Int) (t2:Int):(Int×Int×Int)->Option (Ex (Int×Int×Int) (Int×Int) (Int×Int)):=λ(s8,s9,s10)=>
 if s10<(t0.Rows.length:Int)then
  baa (α:=((Int×Int)⊕(Ex (Int×Int×Int) (Int×Int) (Int×Int)))) (
   (idx t0.Rows s10).bind λx12=>
   baa (α:=Bool) (
    if¬(min x12.Hi t2)<=(max x12.Lo 0)then
     (Xi x12.Valid t1).bind λx14=>
     some (!x14)
    else
    some true) λj15=>
   if j15=true then
    some (Sum.inl (s8,s9))
   else
   (qn (ea .i64 ((min x12.Hi t2)-(max x12.Lo 0))) x12.N).bind λx17=>
   if x17.2.2=false then
    some (Sum.inr (Ex.ret (0,3)))
   else
   some (Sum.inl ((ea .i64 (s8+x17.1)),(ea .i64 (s9+x17.2.1))))) λz=>match z with
  |.inr v=>some v
  |.inl (j19,j20)=>
  some (Ex.go (j19,j20,(ea .i64 (s10+1))))
 else
 some (Ex.brk (s8,s9))
noncomputable def Mr(t0:GTable) (t1:Int) (t2:Int) (t3:Int):Option (Int×Int):=
 (qy t3).bind λx1=>
 if x1=false then
  some (0,1)
 else
 baa (α:=Bool) (
  if t0.Key.Kind=3/\t0.Key.Enum=0 then
   some (!((t0.Value.Kind==4)&&(t0.Value.Enum==0)))
  else
  some true) λj4=>
 if j4=true then
  some (0,8)
 else
 (Vq t2 1000000000000000).bind λx6=>
 if x6=true then
  some (0,3)
 else
 (fa (Us t0 t1 t2) (0,0,0)).bind λy=>match y with
 |.inr v=>some v
 |.inl (b24,b25)=>
 (Ft b24 b25 t3).bind λx26=>
 (Vq x26 1000000000000000).bind λx27=>
 if x27=true then
  some (0,3)
 else
 some (x26,0)
noncomputable def ry(t0:Int) (t1:Int) (t2:Int):Option (GValue×Int):=
 if¬t2=0 then
  some ((GValue.mk 0 0 0),t2)
 else
 (Oe t0 t1).bind λx2=>
 some (x2.1,x2.2)
noncomputable def cm(t0:GNode) (t1:GValue) (t2:GEnv):Option (GValue×Int):=
 if t0.Op=10 then
  (Dj t1.Kind).bind λx2=>
  if x2=false then
   some ((GValue.mk 0 0 0),8)
  else
  (Oe t1.Kind (ea .i64 (0-t1.N))).bind λx4=>
  some (x4.1,x4.2)
 else
 if t0.Op=25 then
  if¬t1.Kind=1 then
   some ((GValue.mk 0 0 0),8)
  else
  (lf (t1.N==0)).bind λx7=>
  some (x7.1,x7.2)
 else
 baa (α:=Bool) (
  if t0.Op=31 then
   some true
  else
  some (t0.Op==32)) λj9=>
 if j9=true then
  if¬t1.Kind=5 then
   some ((GValue.mk 0 0 0),8)
  else
  (gw t1.N).bind λx12=>
  if t0.Op=31 then
   (Oe 2 x12.1).bind λx14=>
   some (x14.1,x14.2)
  else
  (Oe 2 x12.2.1).bind λx15=>
  some (x15.1,x15.2)
 else
 if t0.Op=33 then
  (idx t2.Tables t0.N).bind λx17=>
  (Ou x17 t2.Date t1).bind λx18=>
  some (x18.1,x18.2)
 else
 (idx t2.Tables (ea .i64 (Baa t0.N 8))).bind λx19=>
 baa (α:=Bool) (
  if t1.Kind=3 then
   if x19.Key.Kind=3 then
    if x19.Key.Enum=0 then
     if x19.Value.Kind=4 then
      some (x19.Value.Enum !=0)
     else
     some true
    else
    some true
   else
   some true
  else
  some true) λj24=>
 if j24=true then
  some ((GValue.mk 0 0 0),8)
 else
 (Mr x19 t2.Date t1.N (Jaa t0.N 8)).bind λx26=>
 (ry 3 x26.1 x26.2).bind λx27=>
 some (x27.1,x27.2)
noncomputable def Pu(t0:GNode) (t1:GValue) (t2:GValue):Option (GValue×Int):=none
noncomputable def ow(t0:Int) (t1:GValue) (t2:GValue):Option (GValue×Int):=none
noncomputable def Sg(t0:Int) (t1:GValue) (t2:GValue):Option (GValue×Int):=
 baa (α:=Bool) (
  if t1.Kind=t2.Kind then
   some (t1.Enum !=t2.Enum)
  else
  some true) λj2=>
 if j2=true then
  some ((GValue.mk 0 0 0),8)
 else
 if t0=19 then
  (lf (t1.N==t2.N)).bind λx5=>
  some (x5.1,x5.2)
 else
 if t0=20 then
  (lf (t1.N !=t2.N)).bind λx7=>
  some (x7.1,x7.2)
 else
 baa (α:=Bool) (
  if t0=23 then
   some true
  else
  some (t0==24)) λj9=>
 if j9=true then
  if¬t1.Kind=1 then
   some ((GValue.mk 0 0 0),8)
  else
  baa (α:=(Int×Int×Int×Int)) (
   if¬(ea .i64 (t1.N+t2.N))=2 then
    if t0=24 then
     (lf ((ea .i64 (t1.N+t2.N))==1)).bind λx14=>
     some (x14.1.Kind,x14.1.Enum,x14.1.N,x14.2)
    else
    (lf false).bind λx15=>
    some (x15.1.Kind,x15.1.Enum,x15.1.N,x15.2)
   else
   (lf true).bind λx16=>
   some (x16.1.Kind,x16.1.Enum,x16.1.N,x16.2)) λ(j17,j18,j19,j20)=>
  some ((GValue.mk j17 j18 j19),j20)
 else
 baa (α:=Bool) (
  if t0=11 then
   some true
  else
  some (t0==12)) λj22=>
 if j22=true then
  (Dj t1.Kind).bind λx24=>
  if x24=false then
   some ((GValue.mk 0 0 0),8)
  else
  if t0=11 then
   (Oe t1.Kind (ea .i64 (t1.N+t2.N))).bind λx27=>
   some (x27.1,x27.2)
  else
  (Oe t1.Kind (ea .i64 (t1.N-t2.N))).bind λx28=>
  some (x28.1,x28.2)
 else
 baa (α:=Bool) (
  (Dj t1.Kind).bind λx29=>
  if x29=false then
   some (t1.Kind !=5)
  else
  some false) λj31=>
 if j31=true then
  some ((GValue.mk 0 0 0),8)
 else
 if t0=21 then
  (lf (decide (t1.N<t2.N))).bind λx34=>
  some (x34.1,x34.2)
 else
 if t0=22 then
  (lf (decide (t1.N<=t2.N))).bind λx36=>
  some (x36.1,x36.2)
 else
 if(t0==17)=(decide (t1.N<t2.N))then
  some (t1,0)
 else
 some (t2,0)
noncomputable def Xh(t0:GNode) (t1:GValue) (t2:GValue):Option (GValue×Int):=
 baa (α:=Bool) (
  if 13<=t0.Op then
   some (decide (t0.Op<=16))
  else
  some false) λj2=>
 if j2=true then
  (Pu t0 t1 t2).bind λx4=>
  some (x4.1,x4.2)
 else
 if 27<=t0.Op then
  (ow t0.Op t1 t2).bind λx6=>
  some (x6.1,x6.2)
 else
 (Sg t0.Op t1 t2).bind λx7=>
 some (x7.1,x7.2)
noncomputable def aj(t1:List GValue):Int->Option (Ex Int Unit (GValue×Int)):=λs5=>
 if s5<(t1.length:Int)then
  (idx t1 s5).bind λx7=>
  (Rb x7).bind λx8=>
  if x8=false then
   some (Ex.ret ((GValue.mk 0 0 0),8))
  else
  some (Ex.go (ea .i64 (s5+1)))
 else
 some (Ex.brk ())
noncomputable def Cl(t0:GNode) (t1:List GValue) (t2:GEnv):Option (GValue×Int):=
 (so t0 (t1.length:Int)).bind λx1=>
 if x1=false then
  some ((GValue.mk 0 0 0),2)
 else
 (aq t0 t2).bind λx3=>
 if x3=false then
  some ((GValue.mk 0 0 0),6)
 else
 (fa (aj t1) 0).bind λy=>match y with
 |.inr v=>some v
 |.inl _=>
 if(t1.length:Int)=0 then
  baa (α:=Bool) (
   if 36<=t0.Op then
    some (decide (t0.Op<=39))
   else
   some false) λj13=>
  if j13=true then
   (Hp t0 t2).bind λx15=>
   some (x15.1,x15.2)
  else
  (zi t0 t2).bind λx16=>
  some (x16.1,x16.2)
 else
 if(t1.length:Int)=1 then
  (idx t1 0).bind λx18=>
  (cm t0 x18 t2).bind λx19=>
  some (x19.1,x19.2)
 else
 if(t1.length:Int)=2 then
  (idx t1 0).bind λx21=>
  (idx t1 1).bind λx22=>
  (Xh t0 x21 x22).bind λx23=>
  some (x23.1,x23.2)
 else
 (idx t1 0).bind λx24=>
 (idx t1 1).bind λx25=>
 (idx t1 2).bind λx26=>
 baa (α:=Bool) (
  if x24.Kind=1 then
   if x25.Kind=x26.Kind then
    some (x25.Enum !=x26.Enum)
   else
   some true
  else
  some true) λj29=>
 if j29=true then
  some ((GValue.mk 0 0 0),8)
 else
 if x24.N=1 then
  some (x25,0)
 else
 some (x26,0)
noncomputable def bj(t0:List GNode) (t2:GEnv) (x1:List Int) (R345:((List GNode)->Int->GEnv->Option (GValue×Int))):((List GValue)×Int)->Option (Ex ((List GValue)×Int) (List GValue) (GValue×Int)):=λ(s8,s9)=>
 if s9<(x1.length:Int)then
  (idx x1 s9).bind λx11=>
  (R345 t0 x11 t2).bind λx12=>
  if¬x12.2=0 then
   some (Ex.ret ((GValue.mk 0 0 0),x12.2))
  else
  (app 24 s8 ([x12.1])).bind λx14=>
  some (Ex.go (x14,(ea .i64 (s9+1))))
 else
 some (Ex.brk s8)
noncomputable def Ai(R345:((List GNode)->Int->GEnv->Option (GValue×Int))) (R458:((List GNode)->Int->(List Int)->GEnv->Option (GValue×Int))) (t0:List GNode) (t1:Int) (t2:GEnv):Option (GValue×Int):=
 (Zi t0 t1).bind λx1=>
 (idx t0 t1).bind λx2=>
 baa (α:=Bool) (
  if¬x2.Op=23 then
   if¬x2.Op=24 then
    some (x2.Op==26)
   else
   some true
  else
  some true) λj5=>
 if j5=true then
  (R458 t0 t1 x1 t2).bind λx7=>
  some (x7.1,x7.2)
 else
 (fa (bj t0 t2 x1 R345) (([]:List GValue),0)).bind λy=>match y with
 |.inr v=>some v
 |.inl b17=>
 (Cl x2 b17 t2).bind λx18=>
 some (x18.1,x18.2)
noncomputable def uo(R345:((List GNode)->Int->GEnv->Option (GValue×Int))) (R458:((List GNode)->Int->(List Int)->GEnv->Option (GValue×Int))) (t0:List GNode) (t1:Int) (t2:List Int) (t3:GEnv):Option (GValue×Int):=
 (idx t0 t1).bind λx1=>
 if¬x1.N=0 then
  some ((GValue.mk 0 0 0),2)
 else
 (idx t2 0).bind λx3=>
 (R345 t0 x3 t3).bind λx4=>
 if¬x4.2=0 then
  some ((GValue.mk 0 0 0),x4.2)
 else
 baa (α:=Bool) (
  if x4.1.Kind=1 then
   (Rb x4.1).bind λx7=>
   some (!x7)
  else
  some true) λj8=>
 if j8=true then
  some ((GValue.mk 0 0 0),8)
 else
 if x1.Op=26 then
  if x4.1.N=1 then
   (idx t2 1).bind λx12=>
   (R345 t0 x12 t3).bind λx13=>
   some (x13.1,x13.2)
  else
  (idx t2 2).bind λx14=>
  (R345 t0 x14 t3).bind λx15=>
  some (x15.1,x15.2)
 else
 if(x1.Op==23)=(x4.1.N==0)then
  some (x4.1,0)
 else
 (idx t2 1).bind λx17=>
 (R345 t0 x17 t3).bind λx18=>
 if¬x18.2=0 then
  some ((GValue.mk 0 0 0),x18.2)
 else
 baa (α:=Bool) (
  if x18.1.Kind=1 then
   (Rb x18.1).bind λx21=>
   some (!x21)
  else
  some true) λj22=>
 if j22=true then
  some ((GValue.mk 0 0 0),8)
 else
 some (x18.1,0)
noncomputable def Ea:Nat->((List GNode)->Int->GEnv->Option (GValue×Int))×((List GNode)->Int->(List Int)->GEnv->Option (GValue×Int))
 |0=>(λ_ _ _=>none,λ_ _ _ _=>none)
 |n+1=>(Ai (Ea n).1 (Ea n).2,uo (Ea n).1 (Ea n).2)
noncomputable def Vs(t0:List GNode) (t1:Int) (t2:GEnv):Option (GValue×Int):=(Ea Gc).1 t0 t1 t2
noncomputable def ID(t0:List GNode) (t1:Int) (t2:List Int) (t3:GEnv):Option (GValue×Int):=(Ea Gc).2 t0 t1 t2 t3
noncomputable def lp(t0:List GNode) (t1:GEnv):Option (GValue×Int):=
 (Xq t0).bind λx1=>
 if¬x1.2=0 then
  some ((GValue.mk 0 0 0),x1.2)
 else
 (Vs t0 (ea .i64 ((t0.length:Int)-1)) t1).bind λx3=>
 some (x3.1,x3.2)
noncomputable def Zh(t0:List Int) (t1:List Int):Int->Option (Ex Int Unit Int):=λs3=>
 if s3<(t0.length:Int)then
  baa (α:=Bool) (
   (idx t0 s3).bind λx5=>
   if¬x5<(-1)then
    some (decide (s3<=x5))
   else
   some true) λj7=>
  if j7=true then
   some (Ex.ret 9)
  else
  baa (α:=Bool) (
   (idx t1 s3).bind λx9=>
   if¬x9<0 then
    some (decide (9<x9))
   else
   some true) λj11=>
  if j11=true then
   some (Ex.ret 3)
  else
  some (Ex.go (ea .i64 (s3+1)))
 else
 some (Ex.brk ())
noncomputable def El(t0:List Int) (t1:List Int):Option Int:=
 if¬(t0.length:Int)=(t1.length:Int)then
  some 2
 else
 if 8<(t0.length:Int)then
  some 4
 else
 (fa (Zh t0 t1) 0).bind λy=>match y with
 |.inr v=>some v
 |.inl _=>
 some 0
noncomputable def Yh(t0:List Int) (t1:Int):((List Int)×Int)->Option (Ex ((List Int)×Int) (List Int) Unit):=λ(s1,s2)=>
 if s2<(t0.length:Int)then
  baa (α:=(List Int)) (
   (idx t0 s2).bind λx4=>
   if x4=t1 then
    (app 8 s1 ([s2])).bind λx6=>
    some x6
   else
   some s1) λj7=>
  some (Ex.go (j7,(ea .i64 (s2+1))))
 else
 some (Ex.brk s1)
noncomputable def Dl(t0:List Int) (t1:Int):Option (List Int):=
 (fa (Yh t0 t1) ([],0)).bind λy=>match y with
 |.inr _=>none
 |.inl b10=>
 some b10
noncomputable def cj(R347:((List Int)->(List Int)->(List Bool)->Int->Option Int)) (R348:((List Int)->(List Int)->(List Bool)->Int->Option (List Int))) (R460:((List Int)->(List Int)->(List Bool)->Int->Option Int)) (t0:List Int) (t1:List Int) (t2:List Bool) (t3:Int):Option Int:=
 (R348 t0 t1 t2 t3).bind λx1=>
 if(x1.length:Int)=0 then
  some (-1)
 else
 if 1<(x1.length:Int)then
  some (-2)
 else
 (idx x1 0).bind λx4=>
 (R460 t0 t1 t2 x4).bind λx5=>
 some x5
noncomputable def Ip(t0:List Int) (t1:List Int) (t2:List Bool) (x1:List Int) (R460:((List Int)->(List Int)->(List Bool)->Int->Option Int)):((List Int)×Int)->Option (Ex ((List Int)×Int) (List Int) Unit):=λ(s2,s3)=>
 if s3<(x1.length:Int)then
  baa (α:=(List Int)) (
   (idx x1 s3).bind λx5=>
   (R460 t0 t1 t2 x5).bind λx6=>
   if x6=(-1)then
    some s2
   else
   baa (α:=(List Int)) (
    baa (α:=Bool) (
     if 0<(s2.length:Int)then
      (idx t1 x5).bind λx9=>
      (idx s2 0).bind λx10=>
      (idx t1 x10).bind λx11=>
      some (decide (x11<x9))
     else
     some false) λj12=>
    if j12=true then
     some ([])
    else
    some s2) λj14=>
   baa (α:=Bool) (
    if¬(j14.length:Int)=0 then
     (idx t1 x5).bind λx16=>
     (idx j14 0).bind λx17=>
     (idx t1 x17).bind λx18=>
     some (x16==x18)
    else
    some true) λj19=>
   if j19=true then
    (app 8 j14 ([x5])).bind λx21=>
    some x21
   else
   some j14) λj22=>
  some (Ex.go (j22,(ea .i64 (s3+1))))
 else
 some (Ex.brk s2)
noncomputable def vo(R347:((List Int)->(List Int)->(List Bool)->Int->Option Int)) (R348:((List Int)->(List Int)->(List Bool)->Int->Option (List Int))) (R460:((List Int)->(List Int)->(List Bool)->Int->Option Int)) (t0:List Int) (t1:List Int) (t2:List Bool) (t3:Int):Option (List Int):=
 (Dl t0 t3).bind λx1=>
 (fa (Ip t0 t1 t2 x1 R460) ([],0)).bind λy=>match y with
 |.inr _=>none
 |.inl b25=>
 some b25
noncomputable def Wj(R347:((List Int)->(List Int)->(List Bool)->Int->Option Int)) (R348:((List Int)->(List Int)->(List Bool)->Int->Option (List Int))) (R460:((List Int)->(List Int)->(List Bool)->Int->Option Int)) (t0:List Int) (t1:List Int) (t2:List Bool) (t3:Int):Option Int:=
 (R347 t0 t1 t2 t3).bind λx1=>
 baa (α:=Bool) (
  if x1=(-1)then
   (idx t2 t3).bind λx3=>
   some x3
  else
  some false) λj4=>
 if j4=true then
  some t3
 else
 some x1
noncomputable def ma:Nat->((List Int)->(List Int)->(List Bool)->Int->Option Int)×((List Int)->(List Int)->(List Bool)->Int->Option (List Int))×((List Int)->(List Int)->(List Bool)->Int->Option Int)
 |0=>(λ_ _ _ _=>none,λ_ _ _ _=>none,λ_ _ _ _=>none)
 |n+1=>(cj (ma n).1 (ma n).2.1 (ma n).2.2,vo (ma n).1 (ma n).2.1 (ma n).2.2,Wj (ma n).1 (ma n).2.1 (ma n).2.2)
noncomputable def wo(t0:List Int) (t1:List Int) (t2:List Bool) (t3:Int):Option Int:=(ma Gc).1 t0 t1 t2 t3
noncomputable def Nr(t0:List Int) (t1:List Int) (t2:List Bool) (t3:Int):Option (List Int):=(ma Gc).2.1 t0 t1 t2 t3
noncomputable def Jx(t0:List Int) (t1:List Int) (t2:List Bool) (t3:Int):Option Int:=(ma Gc).2.2 t0 t1 t2 t3
noncomputable def fm(t0:List Int) (t1:List Int) (t2:List Bool):Option Int:=
 baa (α:=Bool) (
  (El t0 t1).bind λx1=>
  if x1=0 then
   some ((t2.length:Int) !=(t0.length:Int))
  else
  some true) λj3=>
 if j3=true then
  some (-1)
 else
 (wo t0 t1 t2 (-1)).bind λx5=>
 some x5
noncomputable def Tq(x1:((List (List Int))×Int)):(Int×Int)->Option (Ex (Int×Int) Int Unit):=λ(s2,s3)=>
 if s3<(x1.1.length:Int)then
  (idx x1.1 s3).bind λx5=>
  some (Ex.go ((ea .i64 (s2*(x5.length:Int))),(ea .i64 (s3+1))))
 else
 some (Ex.brk s2)
noncomputable def br(t0:GLaw) (t1:Int) (t2:Int) (t3:Int):Option Bool:=
 (qp t0 t1 t2 t3).bind λx1=>
 (fa (Tq x1) (1,0)).bind λy=>match y with
 |.inr _=>none
 |.inl b8=>
 some (decide (b8<=600))
noncomputable section
def Ee(t0:List Int) (t1:List Int) (t2:List Bool):Int->Option (Ex Int Empty (Int×Int×Bool)):=λs3=>
 (Nr t0 t1 t2 s3).bind λx4=>
 if 1<(x4.length:Int)then
  (idx x4 0).bind λx6=>
  (idx x4 1).bind λx7=>
  some (Ex.ret (x6,x7,true))
 else
 (idx x4 0).bind λx8=>
 some (Ex.go x8)
def Pe(t0:List Int) (t1:List Int) (t2:List Bool):Option (Int×Int×Bool):=
 (fm t0 t1 t2).bind λx1=>
 if¬x1=(-2)then
  some (0,0,false)
 else
 (fa (Ee t0 t1 t2) (-1)).bind λy=>match y with
 |.inr v=>some v
 |.inl b=>b.elim
def Qm(t0:GScope) (t2:Int) (t3:List GValue) (x1:((List Int)×(List Int)×(List Int))):((List Bool)×Int)->Option (Ex ((List Bool)×Int) (List Bool) Unit):=λ(s2,s3)=>
 if s3<(x1.1.length:Int)then
  (idx x1.1 s3).bind λx5=>
  (idx t0.Rules x5).bind λx6=>
  baa (α:=Bool) (
   if¬(x6.Guard.length:Int)=0 then
    (lp x6.Guard (GEnv.mk t2 t3 ([]) ([]) ([]) ([]))).bind λx8=>
    if x8.2=0 then
     some (x8.1.N==1)
    else
    some false
   else
   some ((x6.Guard.length:Int)==0)) λj10=>
  (app 1 s2 ([j10])).bind λx11=>
  some (Ex.go (x11,(ea .i64 (s3+1))))
 else
 some (Ex.brk s2)
def rn(t0:GScope) (t1:Int) (t2:Int) (t3:List GValue):Option (GCoverageHole×Bool):=
 (xo t0 t1 t2).bind λx1=>
 (fa (Qm t0 t2 t3 x1) (([]:List Bool),0)).bind λy=>match y with
 |.inr _=>none
 |.inl b14=>
 (fm x1.2.1 x1.2.2 b14).bind λx15=>
 if x15=(-1)then
  some ((GCoverageHole.mk (-1) (-1) (-1) t3),true)
 else
 if¬x15=(-2)then
  some ((GCoverageHole.mk 0 0 0 ([])),false)
 else
 (Pe x1.2.1 x1.2.2 b14).bind λx18=>
 (idx x1.1 x18.1).bind λx19=>
 (idx x1.1 x18.2.1).bind λx20=>
 some ((GCoverageHole.mk (-2) x19 x20 t3),true)
def Zm(t0:GScope) (t1:(List (List Int))) (t2:List Int):((List GValue)×Int)->Option (Ex ((List GValue)×Int) (List GValue) Unit):=λ(s1,s2)=>
 if s2<(t2.length:Int)then
  (idx t0.Inputs s2).bind λx4=>
  (idx t1 s2).bind λx5=>
  (idx t2 s2).bind λx6=>
  (idx x5 x6).bind λx7=>
  (app 24 s1 ([(GValue.mk x4.Type_.Kind x4.Type_.Enum x7)])).bind λx8=>
  some (Ex.go (x8,(ea .i64 (s2+1))))
 else
 some (Ex.brk s1)
def rm(t0:GScope) (t1:(List (List Int))) (t2:List Int):Option (List GValue):=
 (fa (Zm t0 t1 t2) (([]:List GValue),0)).bind λy=>match y with
 |.inr _=>none
 |.inl b11=>
 some b11
def cn(t0:List GCoverageHole) (t1:GCoverageHole):Int->Option (Ex Int Unit Bool):=λs1=>
 if s1<(t0.length:Int)then
  baa (α:=Bool) (
   (idx t0 s1).bind λx3=>
   if x3.Outcome=t1.Outcome then
    if x3.RuleA=t1.RuleA then
     some (x3.RuleB==t1.RuleB)
    else
    some false
   else
   some false) λj6=>
  if j6=true then
   some (Ex.ret true)
  else
  some (Ex.go (ea .i64 (s1+1)))
 else
 some (Ex.brk ())
def Co(t0:List GCoverageHole) (t1:GCoverageHole):Option Bool:=
 (fa (cn t0 t1) 0).bind λy=>match y with
 |.inr v=>some v
 |.inl _=>
 some false
def bh(x1:((List (List Int))×Int)):((List Int)×Int)->Option (Ex ((List Int)×Int) (List Int) ((List Int)×Bool)):=λ(s17,s18)=>
 if 0<=s18 then
  (idx s17 s18).bind λx20=>
  (idx x1.1 s18).bind λx21=>
  if(ea .i64 (x20+1))<(x21.length:Int)then
   (put s17 s18 (ea .i64 (x20+1))).bind λx23=>
   some (Ex.ret (x23,true))
  else
  (put s17 s18 0).bind λx24=>
  some (Ex.go (x24,(ea .i64 (s18-1))))
 else
 some (Ex.brk s17)
def Fj(x1:((List (List Int))×Int)) (s5:List Int):Option ((List Int)×Bool):=
 (fa (bh x1) (s5,(ea .i64 ((s5.length:Int)-1)))).bind λy=>match y with
 |.inr v=>some v
 |.inl b27=>
 some (b27,false)
def Dd(t2:Int) (t3:Int) (x1:((List (List Int))×Int)) (x3:GScope):((List Int)×(List GCoverageHole)×Bool)->Option (Ex ((List Int)×(List GCoverageHole)×Bool) (List GCoverageHole) Unit):=λ(s5,s6,s7)=>
 if s7=true then
  (rm x3 x1.1 s5).bind λx9=>
  (rn x3 t2 t3 x9).bind λx10=>
  baa (α:=(List GCoverageHole)) (
   baa (α:=Bool) (
    if x10.2=true then
     (Co s6 x10.1).bind λx12=>
     some (!x12)
    else
    some false) λj13=>
   if j13=true then
    (app 48 s6 ([x10.1])).bind λx15=>
    some x15
   else
   some s6) λj16=>
  (Fj x1 s5).bind λ(i28,i29)=>
  some (Ex.go (i28,j16,i29))
 else
 some (Ex.brk s6)
def re(t0:GLaw) (t1:Int) (t2:Int) (t3:Int):Option ((List GCoverageHole)×Int):=
 (qp t0 t1 t2 t3).bind λx1=>
 if¬x1.2=0 then
  some ([],x1.2)
 else
 (idx t0.Scopes t1).bind λx3=>
 (sE 8 0 (x1.1.length:Int) (x1.1.length:Int)).bind λx4=>
 (fa (Dd t2 t3 x1 x3) (x4,([]:List GCoverageHole),true)).bind λy=>match y with
 |.inr _=>none
 |.inl b33=>
 some (b33,0)
def Vf(t0:GLaw) (t1:Int) (t2:Int) (t3:Int):Option Bool:=
 baa (α:=Bool) (
  (xk t0).bind λx1=>
  if x1=true then
   (br t0 t1 t2 t3).bind λx3=>
   some (!x3)
  else
  some true) λj4=>
 if j4=true then
  (df).bind λx6=>
  some x6
 else
 (Ca t0 t1 t2 t3).bind λx7=>
 (re t0 t1 t2 t3).bind λx8=>
 baa (α:=Bool) (
  (Jc x7.1 x8.1).bind λx9=>
  if x9=true then
   if x7.2=x8.2 then
    (df).bind λx12=>
    some x12
   else
   some false
  else
  some false) λj13=>
 some j13
def Ji(t0:GLaw) (t1:Int) (t2:Int) (x4:GScope):((List Int)×(List Int)×Int)->Option (Ex ((List Int)×(List Int)×Int) ((List Int)×(List Int)) Unit):=λ(s5,s6,s7)=>
 if s7<(x4.Defs.length:Int)then
  baa (α:=((List Int)×(List Int))) (
   (Ca t0 t1 s7 t2).bind λx9=>
   if¬x9.2=0 then
    (app 8 s6 ([s7])).bind λx11=>
    some (s5,x11)
   else
   if 0<(x9.1.length:Int)then
    (app 8 s5 ([s7])).bind λx13=>
    some (x13,s6)
   else
   some (s5,s6)) λ(j14,j15)=>
  some (Ex.go (j14,j15,(ea .i64 (s7+1))))
 else
 some (Ex.brk (s5,s6))
def Em(t0:GLaw) (t1:Int) (t2:Int):Option ((List Int)×(List Int)):=
 baa (α:=Bool) (
  if¬t1<0 then
   some (decide ((t0.Scopes.length:Int)<=t1))
  else
  some true) λj2=>
 if j2=true then
  some ([],[])
 else
 (idx t0.Scopes t1).bind λx4=>
 (fa (Ji t0 t1 t2 x4) (([]:List Int),([]:List Int),0)).bind λy=>match y with
 |.inr _=>none
 |.inl (b19,b20)=>
 some (b19,b20)
def Pm(t0:GLaw) (t1:Int) (t2:Int):((List Int)×(List Int)×Int)->Option (Ex ((List Int)×(List Int)×Int) ((List Int)×(List Int)) Unit):=λ(s4,s5,s6)=>
 (idx t0.Scopes t1).bind λx7=>
 if s6<(x7.Defs.length:Int)then
  baa (α:=((List Int)×(List Int))) (
   (re t0 t1 s6 t2).bind λx9=>
   if¬x9.2=0 then
    (app 8 s5 ([s6])).bind λx11=>
    some (s4,x11)
   else
   if 0<(x9.1.length:Int)then
    (app 8 s4 ([s6])).bind λx13=>
    some (x13,s5)
   else
   some (s4,s5)) λ(j14,j15)=>
  some (Ex.go (j14,j15,(ea .i64 (s6+1))))
 else
 some (Ex.brk (s4,s5))
def Rr(t0:GLaw) (t1:Int) (t2:Int):Option ((List Int)×(List Int)):=
 baa (α:=Bool) (
  if¬t1<0 then
   some (decide ((t0.Scopes.length:Int)<=t1))
  else
  some true) λj2=>
 if j2=true then
  some ([],[])
 else
 (fa (Pm t0 t1 t2) (([]:List Int),([]:List Int),0)).bind λy=>match y with
 |.inr _=>none
 |.inl (b19,b20)=>
 some (b19,b20)
def Be(t0:GLaw) (t1:Int) (t2:Int):Int->Option (Ex Int Unit (Unit⊕Bool)):=λs7=>
 (idx t0.Scopes t1).bind λx8=>
 if s7<(x8.Defs.length:Int)then
  (br t0 t1 s7 t2).bind λx10=>
  if x10=false then
   (df).bind λx12=>
   some (Ex.ret (Sum.inr x12))
  else
  some (Ex.go (ea .i64 (s7+1)))
 else
 some (Ex.brk ())
def wj(t0:GLaw) (t1:Int) (t2:Int):Option Bool:=
 (xk t0).bind λx1=>
 if x1=false then
  (df).bind λx3=>
  some x3
 else
 baa (α:=(Unit⊕Bool)) (
  baa (α:=Bool) (
   if 0<=t1 then
    some (decide (t1<(t0.Scopes.length:Int)))
   else
   some false) λj5=>
  if j5=true then
   (fa (Be t0 t1 t2) 0).bind λy=>match y with
   |.inr v=>some v
   |.inl _=>
   some (Sum.inl ())
  else
  some (Sum.inl ())) λz=>match z with
 |.inr v=>some v
 |.inl _=>
 (Em t0 t1 t2).bind λx14=>
 (Rr t0 t1 t2).bind λx15=>
 baa (α:=Bool) (
  (um x14.1 x15.1).bind λx16=>
  if x16=true then
   (um x14.2 x15.2).bind λx18=>
   if x18=true then
    (df).bind λx20=>
    some x20
   else
   some false
  else
  some false) λj21=>
 some j21
end
end Go.Proofs.Dev
