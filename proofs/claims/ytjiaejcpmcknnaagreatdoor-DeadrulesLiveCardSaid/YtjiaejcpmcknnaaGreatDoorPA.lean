/-
  The functions as plain partial functions, and plain lemmas about them: no condition.
-/
import Derived.Test.YtjiaejcpmcknnaaGreatDoorEC
import Derived.Lib.SlicesCompact
open Bool renaming and_self->jad,and_true->Xac
open ByteArray renaming mk->Pac
open Eq renaming trans->Mac
open Int renaming tdiv->sad,tmod->zad
open List renaming range->aad
open Option renaming bind->Kac
set_option linter.all false
namespace Go.Tm
def Vj:List Int->Int->List Int
 |[],n=>[n]
 |x::l,n=>if n<=x then(if n<x then n::x::l else x::l)else x::Vj l n
def kd(l:List Int):List Int:=l.foldl Vj []
inductive ReachL (g:List (List Int)):Int->Int->Prop
 |one {a b:Int} {l:List Int} (h:g[a.toNat]?=some l) (hb:b∈l):ReachL g a b
 |step {a b c:Int} {l:List Int} (h:ReachL g a b) (hl:g[b.toNat]?=some l) (hc:c∈l):ReachL g a c
open Classical in
noncomputable def oG(g:List (List Int)) (a:Int):List Int:=((aad g.length).map λ(k:Nat)=>(k:Int)).filter λb=>decide (ReachL g a b)
@[irreducible] def br:Nat:=1000000
def QL(g:List (List Int)) (out:List Int) (d:Nat):Bool:=!out.contains (d:Int)&&(g.getD d []).all λe=>out.contains e
def Ku(g:List (List Int)):Nat->List Int->List Int×Int
 |0,out=>(out,0)
 |n+1,out=>match (aad g.length).find? (QL g out)with
  |some d=>Ku g n (out++[(d:Int)])
  |none=>([],9)
def gw(g:List (List Int)):List Int×Int:=Ku g g.length []
end Go.Tm
set_option maxHeartbeats 1000000
set_option maxRecDepth 10000
namespace Go.Proofs.Dev
open Go Go.Tm
def ng(x:ByteArray):D:=.v (.string x)
instance:Fr ng:=⟨λx=>by simp only[ng,la,ja,Fr.l,jad,Xac]⟩
theorem aX{x}:ng x=.v (.string x):=Mac rfl rfl
def Du(x:List ByteArray):D:=.sl 1 (x.map ng)
instance:Fr Du:=⟨λx=>Fr.s _ x⟩
theorem rQ{x}:Du x=.sl 1 (x.map ng):=Mac rfl rfl
structure GEnum where
 Name:ByteArray
 Members:(List ByteArray)
def lg(x:GEnum):D:=.agg [.v (.string x.Name),.sl 1 (x.Members.map ng)]
instance:Fr lg:=⟨λx=>by simp only[lg,la,ja,Fr.l,jad,Xac]⟩
theorem jQ{x}:lg x=.agg [.v (.string x.Name),.sl 1 (x.Members.map ng)]:=Mac rfl rfl
def Vb(x:List GEnum):D:=.sl 2 (x.map lg)
instance:Fr Vb:=⟨λx=>Fr.s _ x⟩
theorem ZK{x}:Vb x=.sl 2 (x.map lg):=Mac rfl rfl
def aa(x:Int):D:=.v (.int .i64 x)
instance:Fr aa:=⟨λx=>by simp only[aa,la,ja,Fr.l,jad,Xac]⟩
theorem ZW{x}:aa x=.v (.int .i64 x):=Mac rfl rfl
structure GType where
 Kind:Int
 Enum:Int
def ra(x:GType):D:=.agg [.v (.int .i64 x.Kind),.v (.int .i64 x.Enum)]
instance:Fr ra:=⟨λx=>by simp only[ra,la,ja,Fr.l,jad,Xac]⟩
theorem nQ{x}:ra x=.agg [.v (.int .i64 x.Kind),.v (.int .i64 x.Enum)]:=Mac rfl rfl
structure GDateRange where
 From:Int
 To:Int
def Fb(x:GDateRange):D:=.agg [.v (.int .i64 x.From),.v (.int .i64 x.To)]
instance:Fr Fb:=⟨λx=>by simp only[Fb,la,ja,Fr.l,jad,Xac]⟩
theorem gF{x}:Fb x=.agg [.v (.int .i64 x.From),.v (.int .i64 x.To)]:=Mac rfl rfl
structure GRow where
 Valid:GDateRange
 Lo:Int
 Hi:Int
 N:Int
def uh(x:GRow):D:=.agg [.v (.int .i64 x.Valid.From),.v (.int .i64 x.Valid.To),.v (.int .i64 x.Lo),.v (.int .i64 x.Hi),.v (.int .i64 x.N)]
instance:Fr uh:=⟨λx=>by simp only[uh,la,ja,Fr.l,jad,Xac]⟩
theorem ZS{x}:uh x=.agg [.v (.int .i64 x.Valid.From),.v (.int .i64 x.Valid.To),.v (.int .i64 x.Lo),.v (.int .i64 x.Hi),.v (.int .i64 x.N)]:=Mac rfl rfl
def Et(x:List GRow):D:=.sl 5 (x.map uh)
instance:Fr Et:=⟨λx=>Fr.s _ x⟩
theorem WM{x}:Et x=.sl 5 (x.map uh):=Mac rfl rfl
structure GTable where
 Name:ByteArray
 Key:GType
 Value:GType
 Rows:(List GRow)
def sb(x:GTable):D:=.agg [.v (.string x.Name),.v (.int .i64 x.Key.Kind),.v (.int .i64 x.Key.Enum),.v (.int .i64 x.Value.Kind),.v (.int .i64 x.Value.Enum),.sl 5 (x.Rows.map uh)]
instance:Fr sb:=⟨λx=>by simp only[sb,la,ja,Fr.l,jad,Xac]⟩
theorem SM{x}:sb x=.agg [.v (.string x.Name),.v (.int .i64 x.Key.Kind),.v (.int .i64 x.Key.Enum),.v (.int .i64 x.Value.Kind),.v (.int .i64 x.Value.Enum),.sl 5 (x.Rows.map uh)]:=Mac rfl rfl
def vh(x:List GTable):D:=.sl 6 (x.map sb)
instance:Fr vh:=⟨λx=>Fr.s _ x⟩
theorem nJ{x}:vh x=.sl 6 (x.map sb):=Mac rfl rfl
structure GField where
 Name:ByteArray
 Type_:GType
def bb(x:GField):D:=.agg [.v (.string x.Name),.v (.int .i64 x.Type_.Kind),.v (.int .i64 x.Type_.Enum)]
instance:Fr bb:=⟨λx=>by simp only[bb,la,ja,Fr.l,jad,Xac]⟩
theorem QM{x}:bb x=.agg [.v (.string x.Name),.v (.int .i64 x.Type_.Kind),.v (.int .i64 x.Type_.Enum)]:=Mac rfl rfl
def Bb(x:List GField):D:=.sl 3 (x.map bb)
instance:Fr Bb:=⟨λx=>Fr.s _ x⟩
theorem lJ{x}:Bb x=.sl 3 (x.map bb):=Mac rfl rfl
structure GNode where
 Op:Int
 N:Int
def La(x:GNode):D:=.agg [.v (.int .i64 x.Op),.v (.int .i64 x.N)]
instance:Fr La:=⟨λx=>by simp only[La,la,ja,Fr.l,jad,Xac]⟩
theorem lQ{x}:La x=.agg [.v (.int .i64 x.Op),.v (.int .i64 x.N)]:=Mac rfl rfl
def Ya(x:List GNode):D:=.sl 2 (x.map La)
instance:Fr Ya:=⟨λx=>Fr.s _ x⟩
theorem cL{x}:Ya x=.sl 2 (x.map La):=Mac rfl rfl
structure GRule where
 Name:ByteArray
 Def:Int
 Parent:Int
 Priority:Int
 Valid:GDateRange
 Guard:(List GNode)
 Value:(List GNode)
 Source:ByteArray
def Za(x:GRule):D:=.agg [.v (.string x.Name),.v (.int .i64 x.Def),.v (.int .i64 x.Parent),.v (.int .i64 x.Priority),.v (.int .i64 x.Valid.From),.v (.int .i64 x.Valid.To),.sl 2 (x.Guard.map La),.sl 2 (x.Value.map La),.v (.string x.Source)]
instance:Fr Za:=⟨λx=>by simp only[Za,la,ja,Fr.l,jad,Xac]⟩
theorem mQ{x}:Za x=.agg [.v (.string x.Name),.v (.int .i64 x.Def),.v (.int .i64 x.Parent),.v (.int .i64 x.Priority),.v (.int .i64 x.Valid.From),.v (.int .i64 x.Valid.To),.sl 2 (x.Guard.map La),.sl 2 (x.Value.map La),.v (.string x.Source)]:=Mac rfl rfl
def me(x:List GRule):D:=.sl 9 (x.map Za)
instance:Fr me:=⟨λx=>Fr.s _ x⟩
theorem dL{x}:me x=.sl 9 (x.map Za):=Mac rfl rfl
structure GScope where
 Name:ByteArray
 MemberScope:Int
 Inputs:(List GField)
 Defs:(List GField)
 Rules:(List GRule)
def Ca(x:GScope):D:=.agg [.v (.string x.Name),.v (.int .i64 x.MemberScope),.sl 3 (x.Inputs.map bb),.sl 3 (x.Defs.map bb),.sl 9 (x.Rules.map Za)]
instance:Fr Ca:=⟨λx=>by simp only[Ca,la,ja,Fr.l,jad,Xac]⟩
theorem RM{x}:Ca x=.agg [.v (.string x.Name),.v (.int .i64 x.MemberScope),.sl 3 (x.Inputs.map bb),.sl 3 (x.Defs.map bb),.sl 9 (x.Rules.map Za)]:=Mac rfl rfl
def Ko(x:List GScope):D:=.sl 5 (x.map Ca)
instance:Fr Ko:=⟨λx=>Fr.s _ x⟩
theorem mJ{x}:Ko x=.sl 5 (x.map Ca):=Mac rfl rfl
structure GLaw where
 Enums:(List GEnum)
 Tables:(List GTable)
 Scopes:(List GScope)
def ab(x:GLaw):D:=.agg [.sl 2 (x.Enums.map lg),.sl 6 (x.Tables.map sb),.sl 5 (x.Scopes.map Ca)]
instance:Fr ab:=⟨λx=>by simp only[ab,la,ja,Fr.l,jad,Xac]⟩
theorem YS{x}:ab x=.agg [.sl 2 (x.Enums.map lg),.sl 6 (x.Tables.map sb),.sl 5 (x.Scopes.map Ca)]:=Mac rfl rfl
def ba(x:Bool):D:=.v (.bool x)
instance:Fr ba:=⟨λx=>by simp only[ba,la,ja,Fr.l,jad,Xac]⟩
theorem aT{x}:ba x=.v (.bool x):=Mac rfl rfl
def ka(x:List Int):D:=.sl 1 (x.map aa)
instance:Fr ka:=⟨λx=>Fr.s _ x⟩
theorem qQ{x}:ka x=.sl 1 (x.map aa):=Mac rfl rfl
def qb(x:List (List Int)):D:=.sl 1 (x.map ka)
instance:Fr qb:=⟨λx=>Fr.s _ x⟩
theorem fL{x}:qb x=.sl 1 (x.map ka):=Mac rfl rfl
structure GLawError where
 Code:Int
 Section:Int
 Item:Int
 Element:Int
def je(x:GLawError):D:=.agg [.v (.int .i64 x.Code),.v (.int .i64 x.Section),.v (.int .i64 x.Item),.v (.int .i64 x.Element)]
instance:Fr je:=⟨λx=>by simp only[je,la,ja,Fr.l,jad,Xac]⟩
theorem vH{x}:je x=.agg [.v (.int .i64 x.Code),.v (.int .i64 x.Section),.v (.int .i64 x.Item),.v (.int .i64 x.Element)]:=Mac rfl rfl
def Rj(x:List GType):D:=.sl 2 (x.map ra)
instance:Fr Rj:=⟨λx=>Fr.s _ x⟩
theorem eL{x}:Rj x=.sl 2 (x.map ra):=Mac rfl rfl
structure GSignature where
 Enums:(List GEnum)
 Tables:(List GTable)
 Inputs:(List GType)
 Defs:(List GType)
 MemberDefs:(List GType)
 HasMembers:Bool
def ta(x:GSignature):D:=.agg [.sl 2 (x.Enums.map lg),.sl 6 (x.Tables.map sb),.sl 2 (x.Inputs.map ra),.sl 2 (x.Defs.map ra),.sl 2 (x.MemberDefs.map ra),.v (.bool x.HasMembers)]
instance:Fr ta:=⟨λx=>by simp only[ta,la,ja,Fr.l,jad,Xac]⟩
theorem lF{x}:ta x=.agg [.sl 2 (x.Enums.map lg),.sl 6 (x.Tables.map sb),.sl 2 (x.Inputs.map ra),.sl 2 (x.Defs.map ra),.sl 2 (x.MemberDefs.map ra),.v (.bool x.HasMembers)]:=Mac rfl rfl
def Li(x:List (List GNode)):D:=.sl 1 (x.map Ya)
instance:Fr Li:=⟨λx=>Fr.s _ x⟩
theorem xH{x}:Li x=.sl 1 (x.map Ya):=Mac rfl rfl
def iL(x:Int):D:=.v (.int .u8 x)
instance:Fr iL:=⟨λx=>by simp only[iL,la,ja,Fr.l,jad,Xac]⟩
theorem S4{x}:iL x=.v (.int .u8 x):=Mac rfl rfl
def oi(x:Int):D:=.pt (aa x)
instance:Fr oi:=⟨λx=>Fr.h (e:=aa) x⟩
theorem oQ{x}:oi x=.pt (aa x):=Mac rfl rfl
def Bq(x:GScope):D:=.pt (Ca x)
instance:Fr Bq:=⟨λx=>Fr.h (e:=Ca) x⟩
theorem jJ{x}:Bq x=.pt (Ca x):=Mac rfl rfl
def Av(x:GRule):D:=.pt (Za x)
instance:Fr Av:=⟨λx=>Fr.h (e:=Za) x⟩
theorem YK{x}:Av x=.pt (Za x):=Mac rfl rfl
def Aq(x:GField):D:=.pt (bb x)
instance:Fr Aq:=⟨λx=>Fr.h (e:=bb) x⟩
theorem iJ{x}:Aq x=.pt (bb x):=Mac rfl rfl
def Xq(x:ByteArray):D:=.pt (ng x)
instance:Fr Xq:=⟨λx=>Fr.h (e:=ng) x⟩
theorem pQ{x}:Xq x=.pt (ng x):=Mac rfl rfl
def zv(x:GRow):D:=.pt (uh x)
instance:Fr zv:=⟨λx=>Fr.h (e:=uh) x⟩
theorem VM{x}:zv x=.pt (uh x):=Mac rfl rfl
structure GValue where
 Kind:Int
 Enum:Int
 N:Int
def ma(x:GValue):D:=.agg [.v (.int .i64 x.Kind),.v (.int .i64 x.Enum),.v (.int .i64 x.N)]
instance:Fr ma:=⟨λx=>by simp only[ma,la,ja,Fr.l,jad,Xac]⟩
theorem TM{x}:ma x=.agg [.v (.int .i64 x.Kind),.v (.int .i64 x.Enum),.v (.int .i64 x.N)]:=Mac rfl rfl
def gb(x:List GValue):D:=.sl 3 (x.map ma)
instance:Fr gb:=⟨λx=>Fr.s _ x⟩
theorem oJ{x}:gb x=.sl 3 (x.map ma):=Mac rfl rfl
structure GCoverageHole where
 Outcome:Int
 RuleA:Int
 RuleB:Int
 Inputs:(List GValue)
def Da(x:GCoverageHole):D:=.agg [.v (.int .i64 x.Outcome),.v (.int .i64 x.RuleA),.v (.int .i64 x.RuleB),.sl 3 (x.Inputs.map ma)]
instance:Fr Da:=⟨λx=>by simp only[Da,la,ja,Fr.l,jad,Xac]⟩
theorem uA{x}:Da x=.agg [.v (.int .i64 x.Outcome),.v (.int .i64 x.RuleA),.v (.int .i64 x.RuleB),.sl 3 (x.Inputs.map ma)]:=Mac rfl rfl
def Gb(x:List GCoverageHole):D:=.sl 4 (x.map Da)
instance:Fr Gb:=⟨λx=>Fr.s _ x⟩
theorem Ry{x}:Gb x=.sl 4 (x.map Da):=Mac rfl rfl
def mg(x:GCoverageHole):D:=.pt (Da x)
instance:Fr mg:=⟨λx=>Fr.h (e:=Da) x⟩
theorem Py{x}:mg x=.pt (Da x):=Mac rfl rfl
structure GRuletree_tree where
 parent:(List Int)
 priority:(List Int)
 outcome:(List Int)
def fh(x:GRuletree_tree):D:=.agg [.sl 1 (x.parent.map aa),.sl 1 (x.priority.map aa),.sl 1 (x.outcome.map aa)]
instance:Fr fh:=⟨λx=>by simp only[fh,la,ja,Fr.l,jad,Xac]⟩
theorem Ez{x}:fh x=.agg [.sl 1 (x.parent.map aa),.sl 1 (x.priority.map aa),.sl 1 (x.outcome.map aa)]:=Mac rfl rfl
def Ar(x:List Bool):D:=.sl 1 (x.map ba)
instance:Fr Ar:=⟨λx=>Fr.s _ x⟩
theorem XM{x}:Ar x=.sl 1 (x.map ba):=Mac rfl rfl
def Vv(x:List (List GValue)):D:=.sl 1 (x.map gb)
instance:Fr Vv:=⟨λx=>Fr.s _ x⟩
theorem oF{x}:Vv x=.sl 1 (x.map gb):=Mac rfl rfl
structure GEnv where
 Date:Int
 Inputs:(List GValue)
 Defs:(List GValue)
 Members:(List (List GValue))
 MemberTypes:(List GType)
 Tables:(List GTable)
def Em(x:GEnv):D:=.agg [.v (.int .i64 x.Date),.sl 3 (x.Inputs.map ma),.sl 3 (x.Defs.map ma),.sl 1 (x.Members.map gb),.sl 2 (x.MemberTypes.map ra),.sl 6 (x.Tables.map sb)]
instance:Fr Em:=⟨λx=>by simp only[Em,la,ja,Fr.l,jad,Xac]⟩
theorem XS{x}:Em x=.agg [.v (.int .i64 x.Date),.sl 3 (x.Inputs.map ma),.sl 3 (x.Defs.map ma),.sl 1 (x.Members.map gb),.sl 2 (x.MemberTypes.map ra),.sl 6 (x.Tables.map sb)]:=Mac rfl rfl
structure GEval_evaluator where
 nodes:(List GNode)
 starts:(List Int)
 env:GEnv
def qa(x:GEval_evaluator):D:=.agg [.sl 2 (x.nodes.map La),.sl 1 (x.starts.map aa),.v (.int .i64 x.env.Date),.sl 3 (x.env.Inputs.map ma),.sl 3 (x.env.Defs.map ma),.sl 1 (x.env.Members.map gb),.sl 2 (x.env.MemberTypes.map ra),.sl 6 (x.env.Tables.map sb)]
instance:Fr qa:=⟨λx=>by simp only[qa,la,ja,Fr.l,jad,Xac]⟩
theorem Oy{x}:qa x=.agg [.sl 2 (x.nodes.map La),.sl 1 (x.starts.map aa),.v (.int .i64 x.env.Date),.sl 3 (x.env.Inputs.map ma),.sl 3 (x.env.Defs.map ma),.sl 1 (x.env.Members.map gb),.sl 2 (x.env.MemberTypes.map ra),.sl 6 (x.env.Tables.map sb)]:=Mac rfl rfl
def Wn(x:Int):D:=.v (.int .u64 x)
instance:Fr Wn:=⟨λx=>by simp only[Wn,la,ja,Fr.l,jad,Xac]⟩
theorem cX{x}:Wn x=.v (.int .u64 x):=Mac rfl rfl
structure GA3 where
 I0:Int
 I1:Int
 I2:Int
def oI(x:GA3):D:=.agg [.v (.int .i64 x.I0),.v (.int .i64 x.I1),.v (.int .i64 x.I2)]
instance:Fr oI:=⟨λx=>by simp only[oI,la,ja,Fr.l,jad,Xac]⟩
theorem YW{x}:oI x=.agg [.v (.int .i64 x.I0),.v (.int .i64 x.I1),.v (.int .i64 x.I2)]:=Mac rfl rfl
structure GDeadrules_tree where
 scope:GScope
 tables:(List GTable)
 date:Int
 rules:(List Int)
 parents:(List Int)
 priorities:(List Int)
def Fe(x:GDeadrules_tree):D:=.agg [.v (.string x.scope.Name),.v (.int .i64 x.scope.MemberScope),.sl 3 (x.scope.Inputs.map bb),.sl 3 (x.scope.Defs.map bb),.sl 9 (x.scope.Rules.map Za),.sl 6 (x.tables.map sb),.v (.int .i64 x.date),.sl 1 (x.rules.map aa),.sl 1 (x.parents.map aa),.sl 1 (x.priorities.map aa)]
instance:Fr Fe:=⟨λx=>by simp only[Fe,la,ja,Fr.l,jad,Xac]⟩
theorem Ny{x}:Fe x=.agg [.v (.string x.scope.Name),.v (.int .i64 x.scope.MemberScope),.sl 3 (x.scope.Inputs.map bb),.sl 3 (x.scope.Defs.map bb),.sl 9 (x.scope.Rules.map Za),.sl 6 (x.tables.map sb),.v (.int .i64 x.date),.sl 1 (x.rules.map aa),.sl 1 (x.parents.map aa),.sl 1 (x.priorities.map aa)]:=Mac rfl rfl
def Kj(x:GDeadrules_tree):D:=.pt (Fe x)
instance:Fr Kj:=⟨λx=>Fr.h (e:=Fe) x⟩
theorem Qw{x}:Kj x=.pt (Fe x):=Mac rfl rfl
structure GCase where
 Date:Int
 Inputs:(List GValue)
 Members:(List (List GValue))
def wo(x:GCase):D:=.agg [.v (.int .i64 x.Date),.sl 3 (x.Inputs.map ma),.sl 1 (x.Members.map gb)]
instance:Fr wo:=⟨λx=>by simp only[wo,la,ja,Fr.l,jad,Xac]⟩
theorem iQ{x}:wo x=.agg [.v (.int .i64 x.Date),.sl 3 (x.Inputs.map ma),.sl 1 (x.Members.map gb)]:=Mac rfl rfl
structure GEvalError where
 Code:Int
 Member:Int
 Def:Int
 Rule:Int
def Sg(x:GEvalError):D:=.agg [.v (.int .i64 x.Code),.v (.int .i64 x.Member),.v (.int .i64 x.Def),.v (.int .i64 x.Rule)]
instance:Fr Sg:=⟨λx=>by simp only[Sg,la,ja,Fr.l,jad,Xac]⟩
theorem iF{x}:Sg x=.agg [.v (.int .i64 x.Code),.v (.int .i64 x.Member),.v (.int .i64 x.Def),.v (.int .i64 x.Rule)]:=Mac rfl rfl
structure GInterp_needs where
 scope:GScope
 memberScope:GScope
 defs:(List Bool)
 memberDefs:(List Bool)
def Ag(x:GInterp_needs):D:=.agg [.v (.string x.scope.Name),.v (.int .i64 x.scope.MemberScope),.sl 3 (x.scope.Inputs.map bb),.sl 3 (x.scope.Defs.map bb),.sl 9 (x.scope.Rules.map Za),.v (.string x.memberScope.Name),.v (.int .i64 x.memberScope.MemberScope),.sl 3 (x.memberScope.Inputs.map bb),.sl 3 (x.memberScope.Defs.map bb),.sl 9 (x.memberScope.Rules.map Za),.sl 1 (x.defs.map ba),.sl 1 (x.memberDefs.map ba)]
instance:Fr Ag:=⟨λx=>by simp only[Ag,la,ja,Fr.l,jad,Xac]⟩
theorem vA{x}:Ag x=.agg [.v (.string x.scope.Name),.v (.int .i64 x.scope.MemberScope),.sl 3 (x.scope.Inputs.map bb),.sl 3 (x.scope.Defs.map bb),.sl 9 (x.scope.Rules.map Za),.v (.string x.memberScope.Name),.v (.int .i64 x.memberScope.MemberScope),.sl 3 (x.memberScope.Inputs.map bb),.sl 3 (x.memberScope.Defs.map bb),.sl 9 (x.memberScope.Rules.map Za),.sl 1 (x.defs.map ba),.sl 1 (x.memberDefs.map ba)]:=Mac rfl rfl
structure GMemberResult where
 Values:(List GValue)
 Rules:(List Int)
def Tc(x:GMemberResult):D:=.agg [.sl 3 (x.Values.map ma),.sl 1 (x.Rules.map aa)]
instance:Fr Tc:=⟨λx=>by simp only[Tc,la,ja,Fr.l,jad,Xac]⟩
theorem wA{x}:Tc x=.agg [.sl 3 (x.Values.map ma),.sl 1 (x.Rules.map aa)]:=Mac rfl rfl
def yp(x:List GMemberResult):D:=.sl 2 (x.map Tc)
instance:Fr yp:=⟨λx=>Fr.s _ x⟩
theorem Sy{x}:yp x=.sl 2 (x.map Tc):=Mac rfl rfl
structure GResult where
 Values:(List GValue)
 Rules:(List Int)
 Members:(List GMemberResult)
def yv(x:GResult):D:=.agg [.sl 3 (x.Values.map ma),.sl 1 (x.Rules.map aa),.sl 2 (x.Members.map Tc)]
instance:Fr yv:=⟨λx=>by simp only[yv,la,ja,Fr.l,jad,Xac]⟩
theorem WK{x}:yv x=.agg [.sl 3 (x.Values.map ma),.sl 1 (x.Rules.map aa),.sl 2 (x.Members.map Tc)]:=Mac rfl rfl
def xp(x:GInterp_needs):D:=.pt (Ag x)
instance:Fr xp:=⟨λx=>Fr.h (e:=Ag) x⟩
theorem Qy{x}:xp x=.pt (Ag x):=Mac rfl rfl
def XK(x:GEnv):D:=.pt (Em x)
instance:Fr XK:=⟨λx=>Fr.h (e:=Em) x⟩
theorem UM{x}:XK x=.pt (Em x):=Mac rfl rfl
structure GA2 where
 I0:Int
 I1:Int
def wO(x:GA2):D:=.agg [.v (.int .i64 x.I0),.v (.int .i64 x.I1)]
instance:Fr wO:=⟨λx=>by simp only[wO,la,ja,Fr.l,jad,Xac]⟩
theorem XW{x}:wO x=.agg [.v (.int .i64 x.I0),.v (.int .i64 x.I1)]:=Mac rfl rfl
structure GCalendar where
 Weekend:Int
 Holidays:(List Int)
def Cu(x:GCalendar):D:=.agg [.v (.int .i64 x.Weekend),.sl 1 (x.Holidays.map aa)]
instance:Fr Cu:=⟨λx=>by simp only[Cu,la,ja,Fr.l,jad,Xac]⟩
theorem uH{x}:Cu x=.agg [.v (.int .i64 x.Weekend),.sl 1 (x.Holidays.map aa)]:=Mac rfl rfl
structure GPayConfig where
 Def:Int
 Rounding:Int
 PayDay:Int
 RecoveryCap:Int
 RecoveryFloor:Int
 FirstMonth:Int
 AppealDays:Int
 Calendar:GCalendar
def Ss(x:GPayConfig):D:=.agg [.v (.int .i64 x.Def),.v (.int .i64 x.Rounding),.v (.int .i64 x.PayDay),.v (.int .i64 x.RecoveryCap),.v (.int .i64 x.RecoveryFloor),.v (.int .i64 x.FirstMonth),.v (.int .i64 x.AppealDays),.v (.int .i64 x.Calendar.Weekend),.sl 1 (x.Calendar.Holidays.map aa)]
instance:Fr Ss:=⟨λx=>by simp only[Ss,la,ja,Fr.l,jad,Xac]⟩
theorem kF{x}:Ss x=.agg [.v (.int .i64 x.Def),.v (.int .i64 x.Rounding),.v (.int .i64 x.PayDay),.v (.int .i64 x.RecoveryCap),.v (.int .i64 x.RecoveryFloor),.v (.int .i64 x.FirstMonth),.v (.int .i64 x.AppealDays),.v (.int .i64 x.Calendar.Weekend),.sl 1 (x.Calendar.Holidays.map aa)]:=Mac rfl rfl
structure GFact where
 Id:Int
 Member:Int
 Input:Int
 Value:GValue
 Valid:GDateRange
 Recorded:Int
def Wq(x:GFact):D:=.agg [.v (.int .i64 x.Id),.v (.int .i64 x.Member),.v (.int .i64 x.Input),.v (.int .i64 x.Value.Kind),.v (.int .i64 x.Value.Enum),.v (.int .i64 x.Value.N),.v (.int .i64 x.Valid.From),.v (.int .i64 x.Valid.To),.v (.int .i64 x.Recorded)]
instance:Fr Wq:=⟨λx=>by simp only[Wq,la,ja,Fr.l,jad,Xac]⟩
theorem kQ{x}:Wq x=.agg [.v (.int .i64 x.Id),.v (.int .i64 x.Member),.v (.int .i64 x.Input),.v (.int .i64 x.Value.Kind),.v (.int .i64 x.Value.Enum),.v (.int .i64 x.Value.N),.v (.int .i64 x.Valid.From),.v (.int .i64 x.Valid.To),.v (.int .i64 x.Recorded)]:=Mac rfl rfl
def ZB(x:List GFact):D:=.sl 9 (x.map Wq)
instance:Fr ZB:=⟨λx=>Fr.s _ x⟩
theorem aL{x}:ZB x=.sl 9 (x.map Wq):=Mac rfl rfl
structure GHousehold where
 Id:Int
 Scope:Int
 Members:Int
 Facts:(List GFact)
def Rs(x:GHousehold):D:=.agg [.v (.int .i64 x.Id),.v (.int .i64 x.Scope),.v (.int .i64 x.Members),.sl 9 (x.Facts.map Wq)]
instance:Fr Rs:=⟨λx=>by simp only[Rs,la,ja,Fr.l,jad,Xac]⟩
theorem jF{x}:Rs x=.agg [.v (.int .i64 x.Id),.v (.int .i64 x.Scope),.v (.int .i64 x.Members),.sl 9 (x.Facts.map Wq)]:=Mac rfl rfl
structure GAward where
 Month:Int
 Cents:Int
 Code:Int
def wv(x:GAward):D:=.agg [.v (.int .i64 x.Month),.v (.int .i64 x.Cents),.v (.int .i64 x.Code)]
instance:Fr wv:=⟨λx=>by simp only[wv,la,ja,Fr.l,jad,Xac]⟩
theorem PM{x}:wv x=.agg [.v (.int .i64 x.Month),.v (.int .i64 x.Cents),.v (.int .i64 x.Code)]:=Mac rfl rfl
def Dt(x:List GDateRange):D:=.sl 2 (x.map Fb)
instance:Fr Dt:=⟨λx=>Fr.s _ x⟩
theorem YB{x}:Dt x=.sl 2 (x.map Fb):=Mac rfl rfl
structure GGuerdonlaw36_Query where
 Month:Int
 Recorded:Int
 Day:Int
def ni(x:GGuerdonlaw36_Query):D:=.agg [.v (.int .i64 x.Month),.v (.int .i64 x.Recorded),.v (.int .i64 x.Day)]
instance:Fr ni:=⟨λx=>by simp only[ni,la,ja,Fr.l,jad,Xac]⟩
theorem xv{x}:ni x=.agg [.v (.int .i64 x.Month),.v (.int .i64 x.Recorded),.v (.int .i64 x.Day)]:=Mac rfl rfl
def Fz(x:List GAward):D:=.sl 3 (x.map wv)
instance:Fr Fz:=⟨λx=>Fr.s _ x⟩
theorem kJ{x}:Fz x=.sl 3 (x.map wv):=Mac rfl rfl
structure GPosting where
 Date:Int
 Month:Int
 Kind:Int
 Cents:Int
def Fm(x:GPosting):D:=.agg [.v (.int .i64 x.Date),.v (.int .i64 x.Month),.v (.int .i64 x.Kind),.v (.int .i64 x.Cents)]
instance:Fr Fm:=⟨λx=>by simp only[Fm,la,ja,Fr.l,jad,Xac]⟩
theorem hJ{x}:Fm x=.agg [.v (.int .i64 x.Date),.v (.int .i64 x.Month),.v (.int .i64 x.Kind),.v (.int .i64 x.Cents)]:=Mac rfl rfl
def Uv(x:List GPosting):D:=.sl 4 (x.map Fm)
instance:Fr Uv:=⟨λx=>Fr.s _ x⟩
theorem mF{x}:Uv x=.sl 4 (x.map Fm):=Mac rfl rfl
structure GAppeal where
 Id:Int
 From:Int
 To:Int
 Filed:Int
 Deadline:Int
 State:Int
 Cents:Int
def Xo(x:GAppeal):D:=.agg [.v (.int .i64 x.Id),.v (.int .i64 x.From),.v (.int .i64 x.To),.v (.int .i64 x.Filed),.v (.int .i64 x.Deadline),.v (.int .i64 x.State),.v (.int .i64 x.Cents)]
instance:Fr Xo:=⟨λx=>by simp only[Xo,la,ja,Fr.l,jad,Xac]⟩
theorem VK{x}:Xo x=.agg [.v (.int .i64 x.Id),.v (.int .i64 x.From),.v (.int .i64 x.To),.v (.int .i64 x.Filed),.v (.int .i64 x.Deadline),.v (.int .i64 x.State),.v (.int .i64 x.Cents)]:=Mac rfl rfl
def wx(x:List GAppeal):D:=.sl 7 (x.map Xo)
instance:Fr wx:=⟨λx=>Fr.s _ x⟩
theorem wH{x}:wx x=.sl 7 (x.map Xo):=Mac rfl rfl
structure GAccount where
 Household:GHousehold
 Postings:(List GPosting)
 Appeals:(List GAppeal)
 Date:Int
 LastMonth:Int
def Tv(x:GAccount):D:=.agg [.v (.int .i64 x.Household.Id),.v (.int .i64 x.Household.Scope),.v (.int .i64 x.Household.Members),.sl 9 (x.Household.Facts.map Wq),.sl 4 (x.Postings.map Fm),.sl 7 (x.Appeals.map Xo),.v (.int .i64 x.Date),.v (.int .i64 x.LastMonth)]
instance:Fr Tv:=⟨λx=>by simp only[Tv,la,ja,Fr.l,jad,Xac]⟩
theorem gJ{x}:Tv x=.agg [.v (.int .i64 x.Household.Id),.v (.int .i64 x.Household.Scope),.v (.int .i64 x.Household.Members),.sl 9 (x.Household.Facts.map Wq),.sl 4 (x.Postings.map Fm),.sl 7 (x.Appeals.map Xo),.v (.int .i64 x.Date),.v (.int .i64 x.LastMonth)]:=Mac rfl rfl
def ze:=(And.intro (And.intro (And.intro (And.intro (And.intro (And.intro (And.intro @aX @rQ) (And.intro @jQ @ZK)) (And.intro (And.intro @ZW @nQ) (And.intro @gF @ZS))) (And.intro (And.intro (And.intro @WM @SM) (And.intro @nJ @QM)) (And.intro (And.intro @lJ @lQ) (And.intro @cL @mQ)))) (And.intro (And.intro (And.intro (And.intro @dL @RM) (And.intro @mJ @YS)) (And.intro (And.intro @aT @qQ) (And.intro @fL @vH))) (And.intro (And.intro (And.intro @eL @lF) (And.intro @xH @S4)) (And.intro (And.intro @oQ @jJ) (And.intro @YK @iJ))))) (And.intro (And.intro (And.intro (And.intro (And.intro @pQ @VM) (And.intro @TM @oJ)) (And.intro (And.intro @uA @Ry) (And.intro @Py @Ez))) (And.intro (And.intro (And.intro @XM @oF) (And.intro @XS @Oy)) (And.intro (And.intro @cX @YW) (And.intro @Ny @Qw)))) (And.intro (And.intro (And.intro (And.intro @iQ @iF) (And.intro @vA @wA)) (And.intro (And.intro @Sy @WK) (And.intro @Qy @UM))) (And.intro (And.intro (And.intro @XW @uH) (And.intro @kF @kQ)) (And.intro (And.intro @aL @jF) (And.intro @PM @YB)))))) (And.intro (And.intro (And.intro @xv @kJ) (And.intro @hJ @mF)) (And.intro (And.intro @VK @wH) @gJ)))
theorem zz:type_of% (And.intro @zx @ze):=And.intro @zx @ze
theorem zg:type_of% (And.intro @zq @ze):=And.intro @zq @ze
theorem tz{N:Nat}{s S:St}(ρ:jq) (h:QC (Sq ρ s.m 9) s.t S.t/\PC ρ s.m ρ S.m:=by first|(simp only[zg];done)|(simp only[zg, *];done)) (hk:Jx ρ N=true:=by rfl) (h3:(ρ.filterMap (·.1)).Nodup:=by decide):Tells N s S:=Tells.q ρ hk h3 h
theorem ez{rs:List RV}{o:D}{s:St}(h:kL (Cb s rs) s.m o:=by simp only[zz,zr];exact fq (by first|(simp only[zg];done)|(simp only[zg, *];done)|(simp only[zg, *,List.drop_zero,Nat.zero_add,List.length_map];done))):oH rs o .ret s:=er h
instance:Enc (List (List GNode)) Li:=⟨trivial⟩
instance:Enc (List (List GValue)) Vv:=⟨trivial⟩
instance:Enc (List (List Int)) qb:=⟨trivial⟩
instance:Enc (List Bool) Ar:=⟨trivial⟩
instance:Enc (List ByteArray) Du:=⟨trivial⟩
instance:Enc (List GAppeal) wx:=⟨trivial⟩
instance:Enc (List GAward) Fz:=⟨trivial⟩
instance:Enc (List GCoverageHole) Gb:=⟨trivial⟩
instance:Enc (List GDateRange) Dt:=⟨trivial⟩
instance:Enc (List GEnum) Vb:=⟨trivial⟩
instance:Enc (List GFact) ZB:=⟨trivial⟩
instance:Enc (List GField) Bb:=⟨trivial⟩
instance:Enc (List GMemberResult) yp:=⟨trivial⟩
instance:Enc (List GNode) Ya:=⟨trivial⟩
instance:Enc (List GPosting) Uv:=⟨trivial⟩
instance:Enc (List GRow) Et:=⟨trivial⟩
instance:Enc (List GRule) me:=⟨trivial⟩
instance:Enc (List GScope) Ko:=⟨trivial⟩
instance:Enc (List GTable) vh:=⟨trivial⟩
instance:Enc (List GType) Rj:=⟨trivial⟩
instance:Enc (List GValue) gb:=⟨trivial⟩
instance:Enc (List Int) ka:=⟨trivial⟩
instance:Enc Bool ba:=⟨trivial⟩
instance:Enc ByteArray ng:=⟨trivial⟩
instance:Enc GA2 wO:=⟨trivial⟩
instance:Enc GA3 oI:=⟨trivial⟩
instance:Enc GAccount Tv:=⟨trivial⟩
instance:Enc GAppeal Xo:=⟨trivial⟩
instance:Enc GAward wv:=⟨trivial⟩
instance:Enc GCalendar Cu:=⟨trivial⟩
instance:Enc GCase wo:=⟨trivial⟩
instance:Enc GCoverageHole Da:=⟨trivial⟩
instance:Enc GDateRange Fb:=⟨trivial⟩
instance:Enc GDeadrules_tree Fe:=⟨trivial⟩
instance:Enc GEnum lg:=⟨trivial⟩
instance:Enc GEnv Em:=⟨trivial⟩
instance:Enc GEvalError Sg:=⟨trivial⟩
instance:Enc GEval_evaluator qa:=⟨trivial⟩
instance:Enc GFact Wq:=⟨trivial⟩
instance:Enc GField bb:=⟨trivial⟩
instance:Enc GGuerdonlaw36_Query ni:=⟨trivial⟩
instance:Enc GHousehold Rs:=⟨trivial⟩
instance:Enc GInterp_needs Ag:=⟨trivial⟩
instance:Enc GLaw ab:=⟨trivial⟩
instance:Enc GLawError je:=⟨trivial⟩
instance:Enc GMemberResult Tc:=⟨trivial⟩
instance:Enc GNode La:=⟨trivial⟩
instance:Enc GPayConfig Ss:=⟨trivial⟩
instance:Enc GPosting Fm:=⟨trivial⟩
instance:Enc GResult yv:=⟨trivial⟩
instance:Enc GRow uh:=⟨trivial⟩
instance:Enc GRule Za:=⟨trivial⟩
instance:Enc GRuletree_tree fh:=⟨trivial⟩
instance:Enc GScope Ca:=⟨trivial⟩
instance:Enc GSignature ta:=⟨trivial⟩
instance:Enc GTable sb:=⟨trivial⟩
instance:Enc GType ra:=⟨trivial⟩
instance:Enc GValue ma:=⟨trivial⟩
instance:Enc Int aa:=⟨trivial⟩
noncomputable section
def ei(t0:GScope):Int->Option (Ex Int Unit Bool):=λs6=>
 if s6<(t0.Inputs.length:Int)then
  (idx t0.Inputs s6).bind λx8=>
  if 80<(x8.Name.size:Int)then
   some (Ex.ret false)
  else
  some (Ex.go (ca .i64 (s6+1)))
 else
 some (Ex.brk ())
def di(t0:GScope):Int->Option (Ex Int Unit Bool):=λs11=>
 if s11<(t0.Defs.length:Int)then
  (idx t0.Defs s11).bind λx13=>
  if 80<(x13.Name.size:Int)then
   some (Ex.ret false)
  else
  some (Ex.go (ca .i64 (s11+1)))
 else
 some (Ex.brk ())
def ai(t0:GScope):Int->Option (Ex Int Unit Bool):=λs16=>
 if s16<(t0.Rules.length:Int)then
  (idx t0.Rules s16).bind λx18=>
  Kac (α:=Bool) (
   if¬80<(x18.Name.size:Int)then
    if¬80<(x18.Source.size:Int)then
     if¬50<(x18.Guard.length:Int)then
      some (decide (50<(x18.Value.length:Int)))
     else
     some true
    else
    some true
   else
   some true) λj22=>
  if j22=true then
   some (Ex.ret false)
  else
  some (Ex.go (ca .i64 (s16+1)))
 else
 some (Ex.brk ())
def Fg(t0:GScope):Option Bool:=
 Kac (α:=Bool) (
  if¬80<(t0.Name.size:Int)then
   if¬14<(t0.Inputs.length:Int)then
    if¬14<(t0.Defs.length:Int)then
     some (decide (60<(t0.Rules.length:Int)))
    else
    some true
   else
   some true
  else
  some true) λj4=>
 if j4=true then
  some false
 else
 (da (ei t0) 0).bind λy=>match y with
 |.inr v=>some v
 |.inl _=>
 (da (di t0) 0).bind λy=>match y with
 |.inr v=>some v
 |.inl _=>
 (da (ai t0) 0).bind λy=>match y with
 |.inr v=>some v
 |.inl _=>
 some true
def mh(t0:GLaw) (s5:Int):Int->Option (Ex Int Unit (Ex Int Unit Bool)):=λs11=>
 (idx t0.Enums s5).bind λx12=>
 if s11<(x12.Members.length:Int)then
  (idx x12.Members s11).bind λx14=>
  if 80<(x14.size:Int)then
   some (Ex.ret (Ex.ret false))
  else
  some (Ex.go (ca .i64 (s11+1)))
 else
 some (Ex.brk ())
def xj(t0:GLaw):Int->Option (Ex Int Unit Bool):=λs5=>
 if s5<(t0.Enums.length:Int)then
  Kac (α:=Bool) (
   (idx t0.Enums s5).bind λx7=>
   if¬80<(x7.Name.size:Int)then
    some (decide (20<(x7.Members.length:Int)))
   else
   some true) λj9=>
  if j9=true then
   some (Ex.ret false)
  else
  (da (mh t0 s5) 0).bind λy=>match y with
  |.inr v=>some v
  |.inl _=>
  some (Ex.go (ca .i64 (s5+1)))
 else
 some (Ex.brk ())
def wj(t0:GLaw):(Int×Int)->Option (Ex (Int×Int) Unit Bool):=λ(s18,s19)=>
 if s19<(t0.Tables.length:Int)then
  (idx t0.Tables s19).bind λx21=>
  Kac (α:=Bool) (
   if¬80<(x21.Name.size:Int)then
    some (decide (150<(ca .i64 (s18+(x21.Rows.length:Int)))))
   else
   some true) λj23=>
  if j23=true then
   some (Ex.ret false)
  else
  some (Ex.go ((ca .i64 (s18+(x21.Rows.length:Int))),(ca .i64 (s19+1))))
 else
 some (Ex.brk ())
def vj(t0:GLaw):(Int×Int)->Option (Ex (Int×Int) Unit Bool):=λ(s27,s28)=>
 if s28<(t0.Scopes.length:Int)then
  (idx t0.Scopes s28).bind λx30=>
  Kac (α:=Bool) (
   if¬60<(ca .i64 (s27+(x30.Rules.length:Int)))then
    (Fg x30).bind λx32=>
    some (!x32)
   else
   some true) λj33=>
  if j33=true then
   some (Ex.ret false)
  else
  some (Ex.go ((ca .i64 (s27+(x30.Rules.length:Int))),(ca .i64 (s28+1))))
 else
 some (Ex.brk ())
def Ij(t0:GLaw):Option Bool:=
 Kac (α:=Bool) (
  if¬9<(t0.Enums.length:Int)then
   if¬9<(t0.Tables.length:Int)then
    some (decide (5<(t0.Scopes.length:Int)))
   else
   some true
  else
  some true) λj3=>
 if j3=true then
  some false
 else
 (da (xj t0) 0).bind λy=>match y with
 |.inr v=>some v
 |.inl _=>
 (da (wj t0) (0,0)).bind λy=>match y with
 |.inr v=>some v
 |.inl _=>
 (da (vj t0) (0,0)).bind λy=>match y with
 |.inr v=>some v
 |.inl _=>
 some true
def fo(t0:Int):Option Bool:=
 Kac (α:=Bool) (
  if 97<=t0 then
   some (decide (t0<=122))
  else
  some false) λj2=>
 some j2
def Zq(t0:Int):Option Bool:=
 Kac (α:=Bool) (
  if 48<=t0 then
   some (decide (t0<=57))
  else
  some false) λj2=>
 some j2
def qd(t0:ByteArray):Int->Option (Ex Int Int Unit):=λs1=>
 Kac (α:=Bool) (
  if s1<(t0.size:Int)then
   (fu t0 s1).bind λx3=>
   (fo x3).bind λx4=>
   if x4=false then
    (Zq x3).bind λx6=>
    if x6=false then
     some (x3==95)
    else
    some true
   else
   some true
  else
  some false) λj8=>
 if j8=true then
  some (Ex.go (ca .i64 (s1+1)))
 else
 some (Ex.brk s1)
def Zj(t0:ByteArray):Option Int:=
 (da (qd t0) 0).bind λy=>match y with
 |.inr _=>none
 |.inl b11=>
 some b11
def Ke(t0:ByteArray):Option Bool:=
 Kac (α:=Bool) (
  if t0=(Pac #[105,102])then
   some true
  else
  if t0=(Pac #[116,104,101,110])then
   some true
  else
  if t0=(Pac #[101,108,115,101])then
   some true
  else
  if t0=(Pac #[111,114])then
   some true
  else
  if t0=(Pac #[97,110,100])then
   some true
  else
  if t0=(Pac #[110,111,116])then
   some true
  else
  if t0=(Pac #[116,114,117,101])then
   some true
  else
  if t0=(Pac #[102,97,108,115,101])then
   some true
  else
  if t0=(Pac #[116,111,100,97,121])then
   some true
  else
  if t0=(Pac #[115,104,97,114,101])then
   some true
  else
  if t0=(Pac #[100,105,118])then
   some true
  else
  if t0=(Pac #[114,111,117,110,100])then
   some true
  else
  if t0=(Pac #[109,105,110])then
   some true
  else
  if t0=(Pac #[109,97,120])then
   some true
  else
  if t0=(Pac #[112,108,117,115])then
   some true
  else
  if t0=(Pac #[109,111,110,116,104,115])then
   some true
  else
  if t0=(Pac #[100,97,121,115])then
   some true
  else
  if t0=(Pac #[121,101,97,114,115])then
   some true
  else
  if t0=(Pac #[121,101,97,114])then
   some true
  else
  if t0=(Pac #[109,111,110,116,104])then
   some true
  else
  if t0=(Pac #[116,97,98])then
   some true
  else
  if t0=(Pac #[98,97,110,100])then
   some true
  else
  if t0=(Pac #[99,111,117,110,116])then
   some true
  else
  if t0=(Pac #[115,117,109])then
   some true
  else
  if t0=(Pac #[97,108,108])then
   some true
  else
  if t0=(Pac #[97,110,121])then
   some true
  else
  if t0=(Pac #[109,111,115,116])then
   some true
  else
  if t0=(Pac #[101,110,117,109])then
   some true
  else
  if t0=(Pac #[116,97,98,108,101])then
   some true
  else
  if t0=(Pac #[114,111,119])then
   some true
  else
  if t0=(Pac #[115,99,111,112,101])then
   some true
  else
  if t0=(Pac #[109,101,109,98,101,114,115])then
   some true
  else
  if t0=(Pac #[105,110,112,117,116])then
   some true
  else
  if t0=(Pac #[100,101,102])then
   some true
  else
  if t0=(Pac #[114,117,108,101])then
   some true
  else
  if t0=(Pac #[111,102])then
   some true
  else
  if t0=(Pac #[111,118,101,114])then
   some true
  else
  if t0=(Pac #[112,114,105,111])then
   some true
  else
  if t0=(Pac #[102,114,111,109])then
   some true
  else
  if t0=(Pac #[116,111])then
   some true
  else
  if t0=(Pac #[101,110,100])then
   some true
  else
  if t0=(Pac #[119,104,101,110])then
   some true
  else
  if t0=(Pac #[105,115])then
   some true
  else
  if t0=(Pac #[115,114,99])then
   some true
  else
  if t0=(Pac #[98,111,111,108])then
   some true
  else
  if t0=(Pac #[105,110,116])then
   some true
  else
  if t0=(Pac #[109,111,110,101,121])then
   some true
  else
  if t0=(Pac #[114,97,116,101])then
   some true
  else
  if t0=(Pac #[100,97,116,101])then
   some true
  else
  if t0=(Pac #[100,111,119,110])then
   some true
  else
  if t0=(Pac #[117,112])then
   some true
  else
  if t0=(Pac #[122,101,114,111])then
   some true
  else
  if t0=(Pac #[97,119,97,121])then
   some true
  else
  if t0=(Pac #[104,97,108,102])then
   some true
  else
  some (decide (t0=(Pac #[101,118,101,110])))) λj55=>
 if j55=true then
  some true
 else
 some false
def vb(t0:ByteArray):Option Bool:=
 Kac (α:=Bool) (
  if¬t0=(Pac #[])then
   (fu t0 0).bind λx2=>
   (fo x2).bind λx3=>
   if x3=true then
    (Zj t0).bind λx5=>
    if x5=(t0.size:Int)then
     if(t0.size:Int)<=16 then
      (Ke t0).bind λx8=>
      some (!x8)
     else
     some false
    else
    some false
   else
   some false
  else
  some false) λj9=>
 some j9
def Zc(t0:List GEnum) (t1:(GEnum->Option Bool)):Int->Option (Ex Int Unit Int):=λs1=>
 if s1<(t0.length:Int)then
  (idx t0 s1).bind λx3=>
  (t1 x3).bind λx4=>
  if x4=true then
   some (Ex.ret s1)
  else
  some (Ex.go (ca .i64 (s1+1)))
 else
 some (Ex.brk ())
def nc(t0:List GEnum) (t1:(GEnum->Option Bool)):Option Int:=
 (da (Zc t0 t1) 0).bind λy=>match y with
 |.inr v=>some v
 |.inl _=>
 some (-1)
def eb(t0:List GEnum) (t1:(GEnum->Option Bool)):Option Bool:=
 (nc t0 t1).bind λx1=>
 some (decide (0<=x1))
def Qf(t0:GEnum) (t1:ByteArray):Option Bool:=
 some (decide (t0.Name=t1))
def Fk(t0:List GEnum) (t1:ByteArray):Option Bool:=
 (eb t0 (λx900=>Qf x900 t1)).bind λx1=>
 some x1
def Cd(t0:List ByteArray) (t1:ByteArray):Int->Option (Ex Int Unit Int):=λs1=>
 if s1<(t0.length:Int)then
  (idx t0 s1).bind λx3=>
  if t1=x3 then
   some (Ex.ret s1)
  else
  some (Ex.go (ca .i64 (s1+1)))
 else
 some (Ex.brk ())
def fi(t0:List ByteArray) (t1:ByteArray):Option Int:=
 (da (Cd t0 t1) 0).bind λy=>match y with
 |.inr v=>some v
 |.inl _=>
 some (-1)
def Bd(t0:List ByteArray) (t1:ByteArray):Option Bool:=
 (fi t0 t1).bind λx1=>
 some (decide (0<=x1))
def Wj(t2:GEnum):Int->Option (Ex Int Unit (Int×Int)):=λs8=>
 if s8<(t2.Members.length:Int)then
  (idx t2.Members s8).bind λx10=>
  (vb x10).bind λx11=>
  if x11=false then
   some (Ex.ret (2,(ca .i64 (100+s8))))
  else
  (Ws t2.Members s8).bind λx13=>
  (Bd x13 x10).bind λx14=>
  if x14=true then
   some (Ex.ret (7,(ca .i64 (100+s8))))
  else
  some (Ex.go (ca .i64 (s8+1)))
 else
 some (Ex.brk ())
def Zn(t0:GLaw) (t1:Int) (t2:GEnum):Option (Int×Int):=
 (vb t2.Name).bind λx1=>
 if x1=false then
  some (2,0)
 else
 (Ws t0.Enums t1).bind λx3=>
 (Fk x3 t2.Name).bind λx4=>
 if x4=true then
  some (7,0)
 else
 if(t2.Members.length:Int)=0 then
  some (5,0)
 else
 if 16<(t2.Members.length:Int)then
  some (4,116)
 else
 (da (Wj t2) 0).bind λy=>match y with
 |.inr v=>some v
 |.inl _=>
 some (0,0)
def Ui(t0:GLaw):Int->Option (Ex Int Unit GLawError):=λs2=>
 if s2<(t0.Enums.length:Int)then
  (idx t0.Enums s2).bind λx4=>
  (Zn t0 s2 x4).bind λx5=>
  if¬x5.1=0 then
   some (Ex.ret (GLawError.mk x5.1 1 s2 x5.2))
  else
  some (Ex.go (ca .i64 (s2+1)))
 else
 some (Ex.brk ())
def Rp(t0:GLaw):Option GLawError:=
 if 8<(t0.Enums.length:Int)then
  some (GLawError.mk 4 1 8 0)
 else
 (da (Ui t0) 0).bind λy=>match y with
 |.inr v=>some v
 |.inl _=>
 some (GLawError.mk 0 0 0 0)
def Tb(t0:GType) (t1:List GEnum):Option Bool:=
 Kac (α:=Bool) (
  if t0.Kind=1 then
   some true
  else
  if t0.Kind=2 then
   some true
  else
  if t0.Kind=3 then
   some true
  else
  if t0.Kind=4 then
   some true
  else
  some (t0.Kind==5)) λj5=>
 if j5=true then
  some (t0.Enum==0)
 else
 if t0.Kind=6 then
  Kac (α:=Bool) (
   if 0<=t0.Enum then
    some (decide (t0.Enum<(t1.length:Int)))
   else
   some false) λj9=>
  some j9
 else
 some false
def jd(t0:GType) (t1:List GEnum):Option (Int×Int):=
 (Tb t0 t1).bind λx1=>
 if x1=false then
  some (0,(-1))
 else
 if t0.Kind=1 then
  some (0,1)
 else
 if t0.Kind=2 then
  some ((-1000000000000),1000000000000)
 else
 if t0.Kind=3 then
  some ((-1000000000000000),1000000000000000)
 else
 if t0.Kind=4 then
  some ((-1000000000),1000000000)
 else
 if t0.Kind=5 then
  some (0,109572)
 else
 (idx t1 t0.Enum).bind λx8=>
 some (0,(ca .i64 ((x8.Members.length:Int)-1)))
def yg(t0:GDateRange):Option Bool:=
 Kac (α:=Bool) (
  if 0<=t0.From then
   if t0.From<=t0.To then
    some (decide (t0.To<=109573))
   else
   some false
  else
  some false) λj3=>
 some j3
def Oe(t0:List GRow) (t1:(GRow->Option Bool)):Int->Option (Ex Int Unit (Int×Bool)):=λs1=>
 if s1<(t0.length:Int)then
  (idx t0 s1).bind λx3=>
  (t1 x3).bind λx4=>
  if x4=true then
   some (Ex.ret (s1,true))
  else
  some (Ex.go (ca .i64 (s1+1)))
 else
 some (Ex.brk ())
def Se(t0:List GRow) (t1:(GRow->Option Bool)):Option (Int×Bool):=
 (da (Oe t0 t1) 0).bind λy=>match y with
 |.inr v=>some v
 |.inl _=>
 some (0,false)
def Ki(t0:GDateRange):Option Bool:=
 Kac (α:=Bool) (
  (yg t0).bind λx1=>
  if x1=true then
   some (decide (t0.From<t0.To))
  else
  some false) λj3=>
 some j3
def Jj(t0:GDateRange) (t1:GDateRange):Option (GDateRange×Bool):=
 Kac (α:=Bool) (
  (Ki t0).bind λx1=>
  if x1=true then
   (Ki t1).bind λx3=>
   some (!x3)
  else
  some true) λj4=>
 if j4=true then
  some ((GDateRange.mk 0 0),false)
 else
 if(min t0.To t1.To)<=(max t0.From t1.From)then
  some ((GDateRange.mk 0 0),false)
 else
 some ((GDateRange.mk (max t0.From t1.From) (min t0.To t1.To)),true)
def kn(t0:GRow) (t1:GRow):Option Bool:=
 (Jj t0.Valid t1.Valid).bind λx1=>
 Kac (α:=Bool) (
  if x1.2=true then
   some (decide ((max t0.Lo t1.Lo)<(min t0.Hi t1.Hi)))
  else
  some false) λj3=>
 some j3
def Dd(t0:GRow) (t1:GRow):Option Bool:=
 (kn t0 t1).bind λx1=>
 some x1
def zj(t0:GTable) (x7:(Int×Int)) (x8:(Int×Int)):Int->Option (Ex Int Unit (Int×Int)):=λs9=>
 if s9<(t0.Rows.length:Int)then
  (idx t0.Rows s9).bind λx11=>
  Kac (α:=Bool) (
   (yg x11.Valid).bind λx12=>
   if x12=true then
    if¬x11.Valid.From=x11.Valid.To then
     some (decide (x11.Hi<=x11.Lo))
    else
    some true
   else
   some true) λj15=>
  if j15=true then
   some (Ex.ret (s9,3))
  else
  Kac (α:=Bool) (
   if¬x11.Lo<x7.1 then
    if¬x7.2<x11.Lo then
     if¬(ca .i64 (x11.Hi-1))<x7.1 then
      some (decide (x7.2<(ca .i64 (x11.Hi-1))))
     else
     some true
    else
    some true
   else
   some true) λj20=>
  if j20=true then
   some (Ex.ret (s9,3))
  else
  Kac (α:=Bool) (
   if¬x11.N<x8.1 then
    some (decide (x8.2<x11.N))
   else
   some true) λj23=>
  if j23=true then
   some (Ex.ret (s9,3))
  else
  (Ws t0.Rows s9).bind λx25=>
  (Se x25 (λx900=>Dd x900 x11)).bind λx26=>
  if x26.2=true then
   some (Ex.ret (s9,11))
  else
  some (Ex.go (ca .i64 (s9+1)))
 else
 some (Ex.brk ())
def xk(t0:GTable) (t1:List GEnum):Option (Int×Int):=
 if 64<(t0.Rows.length:Int)then
  some (64,4)
 else
 Kac (α:=Bool) (
  (Tb t0.Key t1).bind λx2=>
  if x2=true then
   (Tb t0.Value t1).bind λx4=>
   some (!x4)
  else
  some true) λj5=>
 if j5=true then
  some ((-1),8)
 else
 (jd t0.Key t1).bind λx7=>
 (jd t0.Value t1).bind λx8=>
 (da (zj t0 x7 x8) 0).bind λy=>match y with
 |.inr v=>some v
 |.inl _=>
 some (0,0)
def Jc(t0:List GTable) (t1:(GTable->Option Bool)):Int->Option (Ex Int Unit Int):=λs1=>
 if s1<(t0.length:Int)then
  (idx t0 s1).bind λx3=>
  (t1 x3).bind λx4=>
  if x4=true then
   some (Ex.ret s1)
  else
  some (Ex.go (ca .i64 (s1+1)))
 else
 some (Ex.brk ())
def Ob(t0:List GTable) (t1:(GTable->Option Bool)):Option Int:=
 (da (Jc t0 t1) 0).bind λy=>match y with
 |.inr v=>some v
 |.inl _=>
 some (-1)
def Wa(t0:List GTable) (t1:(GTable->Option Bool)):Option Bool:=
 (Ob t0 t1).bind λx1=>
 some (decide (0<=x1))
def Ve(t0:GTable) (t1:ByteArray):Option Bool:=
 some (decide (t0.Name=t1))
def Xk(t0:List GTable) (t1:ByteArray):Option Bool:=
 (Wa t0 (λx900=>Ve x900 t1)).bind λx1=>
 some x1
def Hh(t0:GLaw):Int->Option (Ex Int Unit GLawError):=λs2=>
 if s2<(t0.Tables.length:Int)then
  (idx t0.Tables s2).bind λx4=>
  (xk x4 t0.Enums).bind λx5=>
  Kac (α:=(Int×Int)) (
   (vb x4.Name).bind λx6=>
   if x6=false then
    some (2,0)
   else
   Kac (α:=Bool) (
    (Fk t0.Enums x4.Name).bind λx8=>
    if x8=false then
     (Ws t0.Tables s2).bind λx10=>
     (Xk x10 x4.Name).bind λx11=>
     some x11
    else
    some true) λj12=>
   if j12=true then
    some (7,0)
   else
   if¬x5.2=0 then
    if¬x5.1=(-1)then
     some (x5.2,(ca .i64 (100+x5.1)))
    else
    some (x5.2,0)
   else
   some (0,0)) λ(j16,j17)=>
  if¬j16=0 then
   some (Ex.ret (GLawError.mk j16 2 s2 j17))
  else
  some (Ex.go (ca .i64 (s2+1)))
 else
 some (Ex.brk ())
def Ao(t0:GLaw):Option GLawError:=
 if 8<(t0.Tables.length:Int)then
  some (GLawError.mk 4 2 8 0)
 else
 (da (Hh t0) 0).bind λy=>match y with
 |.inr v=>some v
 |.inl _=>
 some (GLawError.mk 0 0 0 0)
def bj(t0:List GField):((List GType)×Int)->Option (Ex ((List GType)×Int) (List GType) Unit):=λ(s1,s2)=>
 if s2<(t0.length:Int)then
  (idx t0 s2).bind λx4=>
  (app 16 s1 ([x4.Type_])).bind λx5=>
  some (Ex.go (x5,(ca .i64 (s2+1))))
 else
 some (Ex.brk s1)
def Jh(t0:List GField):Option (List GType):=
 (da (bj t0) (([]:List GType),0)).bind λy=>match y with
 |.inr _=>none
 |.inl b8=>
 some b8
def pd(t0:GLaw) (t1:Int):Option GSignature:=
 (idx t0.Scopes t1).bind λx1=>
 (Jh x1.Inputs).bind λx2=>
 (Jh x1.Defs).bind λx3=>
 Kac (α:=((List GType)×Bool)) (
  Kac (α:=Bool) (
   if 0<=x1.MemberScope then
    some (decide (x1.MemberScope<(t0.Scopes.length:Int)))
   else
   some false) λj5=>
  if j5=true then
   (idx t0.Scopes x1.MemberScope).bind λx7=>
   (Jh x7.Defs).bind λx8=>
   some (x8,true)
  else
  some (([]:List GType),false)) λ(j9,j10)=>
 some (GSignature.mk t0.Enums t0.Tables x2 x3 j9 j10)
def Pk(t0:List (List Int)) (t1:Int):Option (List Int):=
 if t0.length<=1048576/\(∀l∈t0,l.length<=1048576/\∀e∈l,0<=e/\e<t0.length)/\0<=t1/\t1<t0.length then
  some (oG t0 t1)
 else none
def lb(t0:List Int):Option (List Int):=if t0.length<=8796093022208 then some (t0.mergeSort λx y=>decide (x<=y))else none
def Pa(t0:List Int):Option (List Int):=if t0.length<=8796093022208 then some (Go.Lib.compact t0)else none
def Bj(t0:List Int):Option (List Int):=
 (lb t0).bind λx1=>
 (Pa x1).bind λx2=>
 some x2
def zh(t0:List GNode):((List Int)×(List Int)×(List Int)×Int)->Option (Ex ((List Int)×(List Int)×(List Int)×Int) ((List Int)×(List Int)×(List Int)) Unit):=λ(s1,s2,s3,s4)=>
 if s4<(t0.length:Int)then
  Kac (α:=((List Int)×(List Int)×(List Int))) (
   (idx t0 s4).bind λx6=>
   if x6.Op=7 then
    (app 8 s1 ([x6.N])).bind λx8=>
    some (x8,s2,s3)
   else
   if x6.Op=8 then
    (app 8 s2 ([x6.N])).bind λx10=>
    some (s1,x10,s3)
   else
   Kac (α:=Bool) (
    if x6.Op=36 then
     some true
    else
    if x6.Op=37 then
     some true
    else
    if x6.Op=38 then
     some true
    else
    some (x6.Op==39)) λj14=>
   if j14=true then
    (app 8 s3 ([x6.N])).bind λx16=>
    some (s1,s2,x16)
   else
   some (s1,s2,s3)) λ(j17,j18,j19)=>
  some (Ex.go (j17,j18,j19,(ca .i64 (s4+1))))
 else
 some (Ex.brk (s1,s2,s3))
def Pd(t0:List GNode):Option ((List Int)×(List Int)×(List Int)):=
 (da (zh t0) (([]:List Int),([]:List Int),([]:List Int),0)).bind λy=>match y with
 |.inr _=>none
 |.inl (b24,b25,b26)=>
 (Bj b24).bind λx27=>
 (Bj b25).bind λx28=>
 (Bj b26).bind λx29=>
 some (x27,x28,x29)
def ef(t1:Int) (x1:((List Int)×(List Int)×(List Int))):((List Int)×Int)->Option (Ex ((List Int)×Int) (List Int) Unit):=λ(s3,s4)=>
 if s4<(x1.2.1.length:Int)then
  Kac (α:=(List Int)) (
   (idx x1.2.1 s4).bind λx6=>
   Kac (α:=Bool) (
    if 0<=x6 then
     some (decide (x6<t1))
    else
    some false) λj8=>
   if j8=true then
    (app 8 s3 ([x6])).bind λx10=>
    some x10
   else
   some s3) λj11=>
  some (Ex.go (j11,(ca .i64 (s4+1))))
 else
 some (Ex.brk s3)
def df(t1:Int) (x2:((List Int)×(List Int)×(List Int))):((List Int)×Int)->Option (Ex ((List Int)×Int) (List Int) Unit):=λ(s15,s16)=>
 if s16<(x2.2.1.length:Int)then
  Kac (α:=(List Int)) (
   (idx x2.2.1 s16).bind λx18=>
   Kac (α:=Bool) (
    if 0<=x18 then
     some (decide (x18<t1))
    else
    some false) λj20=>
   if j20=true then
    (app 8 s15 ([x18])).bind λx22=>
    some x22
   else
   some s15) λj23=>
  some (Ex.go (j23,(ca .i64 (s16+1))))
 else
 some (Ex.brk s15)
def Xd(t0:GRule) (t1:Int):Option (List Int):=
 (Pd t0.Guard).bind λx1=>
 (Pd t0.Value).bind λx2=>
 (da (ef t1 x1) (([]:List Int),0)).bind λy=>match y with
 |.inr _=>none
 |.inl b14=>
 (da (df t1 x2) (b14,0)).bind λy=>match y with
 |.inr _=>none
 |.inl b26=>
 some b26
def th(t0:List Int):Option (List Int):=
 (lb t0).bind λx1=>
 (Pa x1).bind λx2=>
 some x2
def Oc(t0:GScope):Option (List (List Int)):=
 if t0.Defs.length<=1048576/\t0.Rules.length<=1048576/\(∀r∈t0.Rules,r.Guard.length<=1048576/\r.Value.length<=1048576)then
  ((aad t0.Defs.length).mapM λ(d:Nat)=>((t0.Rules.filter λ(r:GRule)=>r.Def==(d:Int)).mapM λr=>Xd r t0.Defs.length).bind λls=>some (kd ls.flatten))
 else none
def Ue(t0:GScope) (t1:Int):Option (List Int):=
 Kac (α:=Bool) (
  if¬t1<0 then
   some (decide ((t0.Defs.length:Int)<=t1))
  else
  some true) λj2=>
 if j2=true then
  some ([])
 else
 (Oc t0).bind λx4=>
 (Pk x4 t1).bind λx5=>
 some x5
def Ic(t0:List GScope) (t1:(GScope->Option Bool)):Int->Option (Ex Int Unit Int):=λs1=>
 if s1<(t0.length:Int)then
  (idx t0 s1).bind λx3=>
  (t1 x3).bind λx4=>
  if x4=true then
   some (Ex.ret s1)
  else
  some (Ex.go (ca .i64 (s1+1)))
 else
 some (Ex.brk ())
def Nb(t0:List GScope) (t1:(GScope->Option Bool)):Option Int:=
 (da (Ic t0 t1) 0).bind λy=>match y with
 |.inr v=>some v
 |.inl _=>
 some (-1)
def Va(t0:List GScope) (t1:(GScope->Option Bool)):Option Bool:=
 (Nb t0 t1).bind λx1=>
 some (decide (0<=x1))
def vd(t0:GScope) (t1:GScope):Option Bool:=
 some (decide (t0.Name=t1.Name))
def Fc(t0:GField) (t1:GField):Option Bool:=
 some (decide (t0.Name=t1.Name))
def Hc(t0:List GField) (t1:(GField->Option Bool)):Int->Option (Ex Int Unit Int):=λs1=>
 if s1<(t0.length:Int)then
  (idx t0 s1).bind λx3=>
  (t1 x3).bind λx4=>
  if x4=true then
   some (Ex.ret s1)
  else
  some (Ex.go (ca .i64 (s1+1)))
 else
 some (Ex.brk ())
def Mb(t0:List GField) (t1:(GField->Option Bool)):Option Int:=
 (da (Hc t0 t1) 0).bind λy=>match y with
 |.inr v=>some v
 |.inl _=>
 some (-1)
def Ha(t0:List GField) (t1:(GField->Option Bool)):Option Bool:=
 (Mb t0 t1).bind λx1=>
 some (decide (0<=x1))
def Eh(t0:GLaw) (t1:GField) (t2:List GField) (t3:List GField):Option Int:=
 (vb t1.Name).bind λx1=>
 if x1=false then
  some 2
 else
 Kac (α:=Bool) (
  (Ha t2 (λx900=>Fc x900 t1)).bind λx3=>
  if x3=false then
   (Ha t3 (λx900=>Fc x900 t1)).bind λx5=>
   some x5
  else
  some true) λj6=>
 if j6=true then
  some 7
 else
 (Tb t1.Type_ t0.Enums).bind λx8=>
 if x8=false then
  some 8
 else
 some 0
def bd(t0:List GRule) (t1:(GRule->Option Bool)):Int->Option (Ex Int Unit Int):=λs1=>
 if s1<(t0.length:Int)then
  (idx t0 s1).bind λx3=>
  (t1 x3).bind λx4=>
  if x4=true then
   some (Ex.ret s1)
  else
  some (Ex.go (ca .i64 (s1+1)))
 else
 some (Ex.brk ())
def pc(t0:List GRule) (t1:(GRule->Option Bool)):Option Int:=
 (da (bd t0 t1) 0).bind λy=>match y with
 |.inr v=>some v
 |.inl _=>
 some (-1)
def Kb(t0:List GRule) (t1:(GRule->Option Bool)):Option Bool:=
 (pc t0 t1).bind λx1=>
 some (decide (0<=x1))
def uf(t0:GRule) (t1:GRule):Option Bool:=
 some (decide (t0.Name=t1.Name))
def strings_Contains(t0:ByteArray) (t1:ByteArray):Option Bool:=
 if t1.size=1 then some (t0.data.toList.contains (t1.data.toList.headD 0))else none
def Kh(t0:ByteArray):Int->Option (Ex Int Unit Bool):=λs5=>
 if s5<(t0.size:Int)then
  Kac (α:=Bool) (
   (fu t0 s5).bind λx7=>
   if¬x7<32 then
    some (decide (126<x7))
   else
   some true) λj9=>
  if j9=true then
   some (Ex.ret false)
  else
  some (Ex.go (ca .i64 (s5+1)))
 else
 some (Ex.brk ())
def zi(t0:ByteArray):Option Bool:=
 Kac (α:=Bool) (
  if¬64<(t0.size:Int)then
   (strings_Contains t0 (Pac #[34])).bind λx2=>
   some x2
  else
  some true) λj3=>
 if j3=true then
  some false
 else
 (da (Kh t0) 0).bind λy=>match y with
 |.inr v=>some v
 |.inl _=>
 some true
def xh(t0:Int):Option Int:=
 Kac (α:=Bool) (
  if t0=1 then
   some true
  else
  if t0=2 then
   some true
  else
  if t0=3 then
   some true
  else
  if t0=4 then
   some true
  else
  if t0=5 then
   some true
  else
  if t0=6 then
   some true
  else
  if t0=7 then
   some true
  else
  if t0=8 then
   some true
  else
  if t0=9 then
   some true
  else
  if t0=35 then
   some true
  else
  if t0=36 then
   some true
  else
  if t0=37 then
   some true
  else
  if t0=38 then
   some true
  else
  some (t0==39)) λj14=>
 if j14=true then
  some 0
 else
 Kac (α:=Bool) (
  if t0=10 then
   some true
  else
  if t0=25 then
   some true
  else
  if t0=31 then
   some true
  else
  if t0=32 then
   some true
  else
  if t0=33 then
   some true
  else
  some (t0==34)) λj21=>
 if j21=true then
  some 1
 else
 Kac (α:=Bool) (
  if t0=11 then
   some true
  else
  if t0=12 then
   some true
  else
  if t0=13 then
   some true
  else
  if t0=14 then
   some true
  else
  if t0=15 then
   some true
  else
  if t0=16 then
   some true
  else
  if t0=17 then
   some true
  else
  if t0=18 then
   some true
  else
  if t0=19 then
   some true
  else
  if t0=20 then
   some true
  else
  if t0=21 then
   some true
  else
  if t0=22 then
   some true
  else
  if t0=23 then
   some true
  else
  if t0=24 then
   some true
  else
  if t0=27 then
   some true
  else
  if t0=28 then
   some true
  else
  if t0=29 then
   some true
  else
  some (t0==30)) λj40=>
 if j40=true then
  some 2
 else
 if t0=26 then
  some 3
 else
 some (-1)
def Qi(t0:List GNode):((List Int)×(List Int)×Int)->Option (Ex ((List Int)×(List Int)×Int) ((List Int)×(List Int)) ((List Int)×Int×Int)):=λ(s4,s5,s6)=>
 if s6<(t0.length:Int)then
  (idx t0 s6).bind λx8=>
  (xh x8.Op).bind λx9=>
  if x9<0 then
   some (Ex.ret ([],s6,2))
  else
  if(s5.length:Int)<x9 then
   some (Ex.ret ([],s6,5))
  else
  (idx s4 s6).bind λx12=>
  (put s4 s6 s6).bind λx13=>
  Kac (α:=(List Int)) (
   if 0<x9 then
    (idx s5 (ca .i64 ((s5.length:Int)-x9))).bind λx15=>
    (idx x13 s6).bind λx16=>
    (put x13 s6 x15).bind λx17=>
    some x17
   else
   some x13) λj18=>
  (Ws s5 (ca .i64 ((s5.length:Int)-x9))).bind λx19=>
  (idx j18 s6).bind λx20=>
  (app 8 x19 ([x20])).bind λx21=>
  if 12<(x21.length:Int)then
   some (Ex.ret ([],s6,16))
  else
  some (Ex.go (j18,x21,(ca .i64 (s6+1))))
 else
 some (Ex.brk (s4,s5))
def Tj(t0:List GNode):Option ((List Int)×Int×Int):=
 if 48<(t0.length:Int)then
  some ([],0,4)
 else
 if(t0.length:Int)=0 then
  some ([],0,5)
 else
 (Ww 8 0 (t0.length:Int) (t0.length:Int)).bind λx3=>
 (da (Qi t0) (x3,([]:List Int),0)).bind λy=>match y with
 |.inr v=>some v
 |.inl (b26,b27)=>
 if 1<(b27.length:Int)then
  some ([],(t0.length:Int),4)
 else
 some (b26,0,0)
def Im(t0:Int):Option Bool:=
 Kac (α:=Bool) (
  if t0=1 then
   some true
  else
  if t0=2 then
   some true
  else
  if t0=3 then
   some true
  else
  if t0=4 then
   some true
  else
  if t0=5 then
   some true
  else
  if t0=6 then
   some true
  else
  if t0=7 then
   some true
  else
  if t0=8 then
   some true
  else
  if t0=14 then
   some true
  else
  if t0=15 then
   some true
  else
  if t0=16 then
   some true
  else
  if t0=33 then
   some true
  else
  if t0=34 then
   some true
  else
  if t0=36 then
   some true
  else
  if t0=37 then
   some true
  else
  if t0=38 then
   some true
  else
  some (t0==39)) λj17=>
 if j17=true then
  some true
 else
 some false
def Db(t0:Int) (t1:Int) (t2:GSignature):Option (GType×Int):=
 (jd (GType.mk t1 0) t2.Enums).bind λx1=>
 Kac (α:=Bool) (
  if¬t0<x1.1 then
   some (decide (x1.2<t0))
  else
  some true) λj3=>
 if j3=true then
  some ((GType.mk 0 0),3)
 else
 some ((GType.mk t1 0),0)
def Xg(t0:Int) (t1:GSignature):Option (GType×Int):=
 if t0<0 then
  some ((GType.mk 0 0),3)
 else
 Kac (α:=Bool) (
  if¬(t1.Enums.length:Int)<=(ca .i64 (sad t0 16))then
   (idx t1.Enums (ca .i64 (sad t0 16))).bind λx3=>
   some (decide ((x3.Members.length:Int)<=(zad t0 16)))
  else
  some true) λj4=>
 if j4=true then
  some ((GType.mk 0 0),6)
 else
 some ((GType.mk 6 (ca .i64 (sad t0 16))),0)
def Qb(t0:Int) (t1:List GType) (t2:GSignature):Option (GType×Int):=
 Kac (α:=Bool) (
  if¬t0<0 then
   some (decide ((t1.length:Int)<=t0))
  else
  some true) λj2=>
 if j2=true then
  some ((GType.mk 0 0),6)
 else
 (idx t1 t0).bind λx4=>
 (Tb x4 t2.Enums).bind λx5=>
 if x5=false then
  some ((GType.mk 0 0),8)
 else
 some (x4,0)
def Pf(t0:Int):Option Bool:=
 Kac (α:=Bool) (
  if 0<=t0 then
   some (decide (t0<=5))
  else
  some false) λj2=>
 some j2
def Ah(t0:GNode) (t1:GType) (t2:GSignature):Option (GType×Int):=
 Kac (α:=(Int⊕(GType×Int))) (
  if t0.Op=34 then
   Kac (α:=Bool) (
    if¬t0.N<0 then
     (Pf (zad t0.N 8)).bind λx3=>
     some (!x3)
    else
    some true) λj4=>
   if j4=true then
    some (Sum.inr ((GType.mk 0 0),3))
   else
   some (Sum.inl (ca .i64 (sad t0.N 8)))
  else
  some (Sum.inl t0.N)) λz=>match z with
 |.inr v=>some v
 |.inl j6=>
 Kac (α:=Bool) (
  if¬j6<0 then
   some (decide ((t2.Tables.length:Int)<=j6))
  else
  some true) λj8=>
 if j8=true then
  some ((GType.mk 0 0),6)
 else
 (idx t2.Tables j6).bind λx10=>
 Kac (α:=Bool) (
  (Tb x10.Key t2.Enums).bind λx11=>
  if x11=true then
   (Tb x10.Value t2.Enums).bind λx13=>
   if x13=true then
    some (!((t1.Kind==x10.Key.Kind)&&(t1.Enum==x10.Key.Enum)))
   else
   some true
  else
  some true) λj15=>
 if j15=true then
  some ((GType.mk 0 0),8)
 else
 if t0.Op=34 then
  Kac (α:=Bool) (
   if x10.Key.Kind=3 then
    some (x10.Value.Kind !=4)
   else
   some true) λj19=>
  if j19=true then
   some ((GType.mk 0 0),8)
  else
  some (x10.Key,0)
 else
 some (x10.Value,0)
def Df(t0:Int):Option Bool:=
 Kac (α:=Bool) (
  if¬t0=2 then
   if¬t0=3 then
    some (t0==4)
   else
   some true
  else
  some true) λj3=>
 some j3
def Dg(t0:GNode) (t1:GSignature):Option (GType×Int):=
 if t1.HasMembers=false then
  some ((GType.mk 0 0),6)
 else
 if t0.Op=35 then
  some ((GType.mk 2 0),0)
 else
 (Qb t0.N t1.MemberDefs t1).bind λx3=>
 if¬x3.2=0 then
  some ((GType.mk 0 0),x3.2)
 else
 Kac (α:=Bool) (
  if t0.Op=36 then
   if¬x3.1.Kind=2 then
    some (x3.1.Kind==3)
   else
   some true
  else
  Kac (α:=Bool) (
   if t0.Op=37 then
    some true
   else
   some (t0.Op==38)) λj8=>
  if j8=true then
   some (x3.1.Kind==1)
  else
  if t0.Op=39 then
   (Df x3.1.Kind).bind λx11=>
   if x11=false then
    some (x3.1.Kind==5)
   else
   some true
  else
  some false) λj13=>
 if j13=false then
  some ((GType.mk 0 0),8)
 else
 some (x3.1,0)
def gh(t0:Int) (t1:Int) (t2:Int):Option (GType×Bool):=
 if t0=14 then
  Kac (α:=Bool) (
   if t2=4 then
    if¬t1=3 then
     some (t1==4)
    else
    some true
   else
   some false) λj4=>
  some ((GType.mk t1 0),j4)
 else
 if t2=2 then
  Kac (α:=Bool) (
   if¬t1=2 then
    some (t1==3)
   else
   some true) λj7=>
  some ((GType.mk t1 0),j7)
 else
 Kac (α:=Bool) (
  if t0=15 then
   if t1=3 then
    some (t2==3)
   else
   some false
  else
  some false) λj10=>
 if j10=true then
  some ((GType.mk 4 0),true)
 else
 some ((GType.mk 0 0),false)
def Aa(t0:Int) (t1:List GType):Option (GType×Bool):=
 if t0=10 then
  (idx t1 0).bind λx2=>
  (Df x2.Kind).bind λx3=>
  some (x2,x3)
 else
 if t0=25 then
  (idx t1 0).bind λx5=>
  some ((GType.mk 1 0),(x5.Kind==1))
 else
 Kac (α:=Bool) (
  if t0=11 then
   some true
  else
  some (t0==12)) λj7=>
 if j7=true then
  Kac (α:=(Int×Int×Bool)) (
   (idx t1 0).bind λx9=>
   (idx t1 1).bind λx10=>
   if x9.Kind=x10.Kind/\x9.Enum=x10.Enum then
    (Df x9.Kind).bind λx12=>
    some (x9.Kind,x9.Enum,x12)
   else
   some (x9.Kind,x9.Enum,false)) λ(j13,j14,j15)=>
  some ((GType.mk j13 j14),j15)
 else
 Kac (α:=Bool) (
  if t0=13 then
   some true
  else
  if t0=14 then
   some true
  else
  some (t0==15)) λj18=>
 if j18=true then
  (idx t1 0).bind λx20=>
  (idx t1 1).bind λx21=>
  (gh t0 x20.Kind x21.Kind).bind λx22=>
  some (x22.1,x22.2)
 else
 if t0=16 then
  Kac (α:=(Int×Int×Bool)) (
   (idx t1 0).bind λx24=>
   if x24.Kind=3 then
    (idx t1 1).bind λx26=>
    some (x24.Kind,x24.Enum,(x26.Kind==3))
   else
   some (x24.Kind,x24.Enum,false)) λ(j27,j28,j29)=>
  some ((GType.mk j27 j28),j29)
 else
 Kac (α:=Bool) (
  if t0=17 then
   some true
  else
  some (t0==18)) λj31=>
 if j31=true then
  Kac (α:=(Int×Int×Bool)) (
   (idx t1 0).bind λx33=>
   (idx t1 1).bind λx34=>
   if x33.Kind=x34.Kind/\x33.Enum=x34.Enum then
    (Df x33.Kind).bind λx36=>
    if x36=false then
     some (x33.Kind,x33.Enum,(x33.Kind==5))
    else
    some (x33.Kind,x33.Enum,true)
   else
   some (x33.Kind,x33.Enum,false)) λ(j38,j39,j40)=>
  some ((GType.mk j38 j39),j40)
 else
 Kac (α:=Bool) (
  if t0=19 then
   some true
  else
  some (t0==20)) λj42=>
 if j42=true then
  (idx t1 0).bind λx44=>
  (idx t1 1).bind λx45=>
  some ((GType.mk 1 0),((x44.Kind==x45.Kind)&&(x44.Enum==x45.Enum)))
 else
 Kac (α:=Bool) (
  if t0=21 then
   some true
  else
  some (t0==22)) λj47=>
 if j47=true then
  Kac (α:=Bool) (
   (idx t1 0).bind λx49=>
   (idx t1 1).bind λx50=>
   if x49.Kind=x50.Kind/\x49.Enum=x50.Enum then
    (Df x49.Kind).bind λx52=>
    if x52=false then
     some (x49.Kind==5)
    else
    some true
   else
   some false) λj54=>
  some ((GType.mk 1 0),j54)
 else
 Kac (α:=Bool) (
  if t0=23 then
   some true
  else
  some (t0==24)) λj56=>
 if j56=true then
  Kac (α:=Bool) (
   (idx t1 0).bind λx58=>
   if x58.Kind=1 then
    (idx t1 1).bind λx60=>
    some (x60.Kind==1)
   else
   some false) λj61=>
  some ((GType.mk 1 0),j61)
 else
 if t0=26 then
  Kac (α:=(Int×Int×Bool)) (
   (idx t1 1).bind λx63=>
   (idx t1 0).bind λx64=>
   if x64.Kind=1 then
    (idx t1 2).bind λx66=>
    some (x63.Kind,x63.Enum,((x63.Kind==x66.Kind)&&(x63.Enum==x66.Enum)))
   else
   some (x63.Kind,x63.Enum,false)) λ(j67,j68,j69)=>
  some ((GType.mk j67 j68),j69)
 else
 Kac (α:=Bool) (
  if t0=27 then
   some true
  else
  some (t0==28)) λj71=>
 if j71=true then
  Kac (α:=(Int×Int×Bool)) (
   (idx t1 0).bind λx73=>
   if x73.Kind=5 then
    (idx t1 1).bind λx75=>
    some (x73.Kind,x73.Enum,(x75.Kind==2))
   else
   some (x73.Kind,x73.Enum,false)) λ(j76,j77,j78)=>
  some ((GType.mk j76 j77),j78)
 else
 Kac (α:=Bool) (
  if t0=29 then
   some true
  else
  some (t0==30)) λj80=>
 if j80=true then
  Kac (α:=Bool) (
   (idx t1 0).bind λx82=>
   if x82.Kind=5 then
    (idx t1 1).bind λx84=>
    some (x84.Kind==5)
   else
   some false) λj85=>
  some ((GType.mk 2 0),j85)
 else
 Kac (α:=Bool) (
  if t0=31 then
   some true
  else
  some (t0==32)) λj87=>
 if j87=true then
  (idx t1 0).bind λx89=>
  some ((GType.mk 2 0),(x89.Kind==5))
 else
 some ((GType.mk 0 0),false)
def na(t0:GNode) (t1:List GType) (t2:GSignature):Option (GType×Int):=
 Kac (α:=(Unit⊕(GType×Int))) (
  if t0.Op=1 then
   (Db t0.N 1 t2).bind λx2=>
   some (Sum.inr (x2.1,x2.2))
  else
  if t0.Op=2 then
   (Db t0.N 2 t2).bind λx4=>
   some (Sum.inr (x4.1,x4.2))
  else
  if t0.Op=3 then
   (Db t0.N 3 t2).bind λx6=>
   some (Sum.inr (x6.1,x6.2))
  else
  if t0.Op=4 then
   (Db t0.N 4 t2).bind λx8=>
   some (Sum.inr (x8.1,x8.2))
  else
  if t0.Op=5 then
   (Db t0.N 5 t2).bind λx10=>
   some (Sum.inr (x10.1,x10.2))
  else
  if t0.Op=6 then
   (Xg t0.N t2).bind λx12=>
   some (Sum.inr (x12.1,x12.2))
  else
  if t0.Op=7 then
   (Qb t0.N t2.Inputs t2).bind λx14=>
   some (Sum.inr (x14.1,x14.2))
  else
  if t0.Op=8 then
   (Qb t0.N t2.Defs t2).bind λx16=>
   some (Sum.inr (x16.1,x16.2))
  else
  if t0.Op=9 then
   some (Sum.inr ((GType.mk 5 0),0))
  else
  Kac (α:=Bool) (
   if t0.Op=33 then
    some true
   else
   some (t0.Op==34)) λj19=>
  if j19=true then
   (idx t1 0).bind λx21=>
   (Ah t0 x21 t2).bind λx22=>
   some (Sum.inr (x22.1,x22.2))
  else
  Kac (α:=Bool) (
   if t0.Op=35 then
    some true
   else
   if t0.Op=36 then
    some true
   else
   if t0.Op=37 then
    some true
   else
   if t0.Op=38 then
    some true
   else
   some (t0.Op==39)) λj27=>
  if j27=true then
   (Dg t0 t2).bind λx29=>
   some (Sum.inr (x29.1,x29.2))
  else
  Kac (α:=Bool) (
   if t0.Op=14 then
    some true
   else
   if t0.Op=15 then
    some true
   else
   some (t0.Op==16)) λj32=>
  if j32=true then
   (Pf t0.N).bind λx34=>
   if x34=false then
    some (Sum.inr ((GType.mk 0 0),3))
   else
   some (Sum.inl ())
  else
  some (Sum.inl ())) λz=>match z with
 |.inr v=>some v
 |.inl _=>
 (Aa t0.Op t1).bind λx36=>
 if x36.2=false then
  some ((GType.mk 0 0),8)
 else
 some (x36.1,0)
def Hm(t0:List GNode) (t1:GSignature):((List GType)×Int)->Option (Ex ((List GType)×Int) (List GType) (GType×Int×Int)):=λ(s3,s4)=>
 if s4<(t0.length:Int)then
  (idx t0 s4).bind λx6=>
  Kac (α:=Bool) (
   if¬x6.N=0 then
    (Im x6.Op).bind λx8=>
    some (!x8)
   else
   some false) λj9=>
  if j9=true then
   some (Ex.ret ((GType.mk 0 0),s4,2))
  else
  (xh x6.Op).bind λx11=>
  (dE s3 (ca .i64 ((s3.length:Int)-x11))).bind λx12=>
  (na x6 x12 t1).bind λx13=>
  if¬x13.2=0 then
   some (Ex.ret ((GType.mk 0 0),s4,x13.2))
  else
  (Ws s3 (ca .i64 ((s3.length:Int)-x11))).bind λx15=>
  (app 16 x15 ([x13.1])).bind λx16=>
  some (Ex.go (x16,(ca .i64 (s4+1))))
 else
 some (Ex.brk s3)
def bp(t0:List GNode) (t1:GSignature):Option (GType×Int×Int):=
 (Tj t0).bind λx1=>
 if¬x1.2.2=0 then
  some ((GType.mk 0 0),x1.2.1,x1.2.2)
 else
 (da (Hm t0 t1) (([]:List GType),0)).bind λy=>match y with
 |.inr v=>some v
 |.inl b19=>
 (idx b19 0).bind λx20=>
 some (x20,0,0)
def Cj(t0:List GNode) (t1:GSignature) (t2:GType):Option Int:=
 (bp t0 t1).bind λx1=>
 if¬x1.2.2=0 then
  some x1.2.2
 else
 if¬(x1.1.Kind=t2.Kind/\x1.1.Enum=t2.Enum)then
  some 8
 else
 some 0
def Xj(x1:GRule) (x2:List GRule):(Int×Int)->Option (Ex (Int×Int) Int Unit):=λ(s3,s4)=>
 if s4<(x2.length:Int)then
  Kac (α:=Int) (
   (idx x2 s4).bind λx6=>
   if x6.Def=x1.Def then
    some (ca .i64 (s3+1))
   else
   some s3) λj8=>
  some (Ex.go (j8,(ca .i64 (s4+1))))
 else
 some (Ex.brk s3)
def Vl(t0:GScope) (t1:Int) (t2:GSignature):Option Int:=
 (idx t0.Rules t1).bind λx1=>
 (Ws t0.Rules t1).bind λx2=>
 (da (Xj x1 x2) (0,0)).bind λy=>match y with
 |.inr _=>none
 |.inl b11=>
 (vb x1.Name).bind λx12=>
 if x12=false then
  some 2
 else
 (Ws t0.Rules t1).bind λx14=>
 (Kb x14 (λx900=>uf x900 x1)).bind λx15=>
 if x15=true then
  some 7
 else
 Kac (α:=Bool) (
  if¬x1.Def<0 then
   some (decide ((t0.Defs.length:Int)<=x1.Def))
  else
  some true) λj18=>
 if j18=true then
  some 6
 else
 Kac (α:=Bool) (
  if¬x1.Parent=(-1)then
   if¬x1.Parent<0 then
    if¬t1<=x1.Parent then
     (idx t0.Rules x1.Parent).bind λx23=>
     some (x23.Def !=x1.Def)
    else
    some true
   else
   some true
  else
  some false) λj24=>
 if j24=true then
  some 9
 else
 Kac (α:=Bool) (
  if¬x1.Priority<0 then
   some (decide (9<x1.Priority))
  else
  some true) λj27=>
 if j27=true then
  some 3
 else
 Kac (α:=Bool) (
  if¬x1.Valid.From<0 then
   if¬x1.Valid.To<=x1.Valid.From then
    some (decide (109573<x1.Valid.To))
   else
   some true
  else
  some true) λj31=>
 if j31=true then
  some 3
 else
 if 8<=b11 then
  some 4
 else
 (zi x1.Source).bind λx34=>
 if x34=false then
  some 2
 else
 Kac (α:=(Unit⊕Int)) (
  if 0<(x1.Guard.length:Int)then
   (Cj x1.Guard t2 (GType.mk 1 0)).bind λx37=>
   if¬x37=0 then
    some (Sum.inr x37)
   else
   some (Sum.inl ())
  else
  some (Sum.inl ())) λz=>match z with
 |.inr v=>some v
 |.inl _=>
 (idx t0.Defs x1.Def).bind λx39=>
 (Cj x1.Value t2 x39.Type_).bind λx40=>
 some x40
def vg(t0:List Int) (t1:Int):Int->Option (Ex Int Unit Int):=λs1=>
 if s1<(t0.length:Int)then
  (idx t0 s1).bind λx3=>
  if t1=x3 then
   some (Ex.ret s1)
  else
  some (Ex.go (ca .i64 (s1+1)))
 else
 some (Ex.brk ())
def dn(t0:List Int) (t1:Int):Option Int:=
 (da (vg t0 t1) 0).bind λy=>match y with
 |.inr v=>some v
 |.inl _=>
 some (-1)
def Ae(t0:List Int) (t1:Int):Option Bool:=
 (dn t0 t1).bind λx1=>
 some (decide (0<=x1))
def Zi(t0:GLaw) (x1:GScope):Int->Option (Ex Int Unit (Int×Int)):=λs20=>
 if s20<(x1.Inputs.length:Int)then
  (idx x1.Inputs s20).bind λx22=>
  (Ws x1.Inputs s20).bind λx23=>
  (Eh t0 x22 x23 ([])).bind λx24=>
  if¬x24=0 then
   some (Ex.ret (x24,(ca .i64 (100+s20))))
  else
  some (Ex.go (ca .i64 (s20+1)))
 else
 some (Ex.brk ())
def Xi(t0:GLaw) (x1:GScope):Int->Option (Ex Int Unit (Int×Int)):=λs27=>
 if s27<(x1.Defs.length:Int)then
  (idx x1.Defs s27).bind λx29=>
  (Ws x1.Defs s27).bind λx30=>
  (Eh t0 x29 x1.Inputs x30).bind λx31=>
  if¬x31=0 then
   some (Ex.ret (x31,(ca .i64 (200+s27))))
  else
  some (Ex.go (ca .i64 (s27+1)))
 else
 some (Ex.brk ())
def Wi(x1:GScope) (x34:GSignature):Int->Option (Ex Int Unit (Int×Int)):=λs35=>
 if s35<(x1.Rules.length:Int)then
  (Vl x1 s35 x34).bind λx37=>
  if¬x37=0 then
   some (Ex.ret (x37,(ca .i64 (300+s35))))
  else
  some (Ex.go (ca .i64 (s35+1)))
 else
 some (Ex.brk ())
def Vi(x1:GScope):Int->Option (Ex Int Unit (Int×Int)):=λs40=>
 if s40<(x1.Defs.length:Int)then
  (Ue x1 s40).bind λx42=>
  (Ae x42 s40).bind λx43=>
  if x43=true then
   some (Ex.ret (9,(ca .i64 (200+s40))))
  else
  some (Ex.go (ca .i64 (s40+1)))
 else
 some (Ex.brk ())
def Yj(t0:GLaw) (t1:Int):Option (Int×Int):=
 (idx t0.Scopes t1).bind λx1=>
 (Ws t0.Scopes t1).bind λx2=>
 Kac (α:=Bool) (
  (Fk t0.Enums x1.Name).bind λx3=>
  if x3=false then
   (Xk t0.Tables x1.Name).bind λx5=>
   if x5=false then
    (Va x2 (λx900=>vd x900 x1)).bind λx7=>
    some x7
   else
   some true
  else
  some true) λj8=>
 (vb x1.Name).bind λx9=>
 if x9=false then
  some (2,0)
 else
 if j8=true then
  some (7,0)
 else
 Kac (α:=Bool) (
  if¬x1.MemberScope=(-1)then
   if¬x1.MemberScope<0 then
    if¬t1<=x1.MemberScope then
     (idx x2 x1.MemberScope).bind λx15=>
     some (x15.MemberScope !=(-1))
    else
    some true
   else
   some true
  else
  some false) λj16=>
 if j16=true then
  some (6,0)
 else
 if 12<(x1.Inputs.length:Int)then
  some (4,112)
 else
 if 12<(x1.Defs.length:Int)then
  some (4,212)
 else
 (da (Zi t0 x1) 0).bind λy=>match y with
 |.inr v=>some v
 |.inl _=>
 (da (Xi t0 x1) 0).bind λy=>match y with
 |.inr v=>some v
 |.inl _=>
 (pd t0 t1).bind λx34=>
 (da (Wi x1 x34) 0).bind λy=>match y with
 |.inr v=>some v
 |.inl _=>
 (da (Vi x1) 0).bind λy=>match y with
 |.inr v=>some v
 |.inl _=>
 some (0,0)
def Fh(t0:GLaw):Int->Option (Ex Int Unit GLawError):=λs2=>
 if s2<(t0.Scopes.length:Int)then
  (Yj t0 s2).bind λx4=>
  if¬x4.1=0 then
   some (Ex.ret (GLawError.mk x4.1 3 s2 x4.2))
  else
  some (Ex.go (ca .i64 (s2+1)))
 else
 some (Ex.brk ())
def xo(t0:GLaw):Option GLawError:=
 if 4<(t0.Scopes.length:Int)then
  some (GLawError.mk 4 3 4 0)
 else
 (da (Fh t0) 0).bind λy=>match y with
 |.inr v=>some v
 |.inl _=>
 some (GLawError.mk 0 0 0 0)
def Wk(t0:GLaw):Option GLawError:=
 (Rp t0).bind λx1=>
 if¬x1.Code=0 then
  some x1
 else
 (Ao t0).bind λx3=>
 if¬x3.Code=0 then
  some x3
 else
 (xo t0).bind λx5=>
 some x5
def Ge(t0:List GRule) (t1:(GRule->Option Bool)):((List Int)×(List Int)×(List Int)×Int)->Option (Ex ((List Int)×(List Int)×(List Int)×Int) ((List Int)×(List Int)) Unit):=λ(s2,s3,s4,s5)=>
 if s5<(t0.length:Int)then
  Kac (α:=((List Int)×(List Int)×(List Int))) (
   (idx t0 s5).bind λx7=>
   Kac (α:=Int) (
    Kac (α:=Bool) (
     if 0<=x7.Parent then
      some (decide (x7.Parent<s5))
     else
     some false) λj9=>
    if j9=true then
     (idx s4 x7.Parent).bind λx11=>
     some x11
    else
    some (-1)) λj12=>
   (idx s4 s5).bind λx13=>
   (put s4 s5 j12).bind λx14=>
   (t1 x7).bind λx15=>
   if x15=true then
    (idx x14 s5).bind λx17=>
    (put x14 s5 (s2.length:Int)).bind λx18=>
    (app 8 s2 ([s5])).bind λx19=>
    (app 8 s3 ([j12])).bind λx20=>
    some (x19,x20,x18)
   else
   some (s2,s3,x14)) λ(j21,j22,j23)=>
  some (Ex.go (j21,j22,j23,(ca .i64 (s5+1))))
 else
 some (Ex.brk (s2,s3))
def Cc(t0:List GRule) (t1:(GRule->Option Bool)):Option ((List Int)×(List Int)):=
 (Ww 8 0 (t0.length:Int) (t0.length:Int)).bind λx1=>
 (da (Ge t0 t1) (([]:List Int),([]:List Int),x1,0)).bind λy=>match y with
 |.inr _=>none
 |.inl (b28,b29)=>
 some (b28,b29)
def Wd(t0:GDateRange) (t1:Int):Option Bool:=
 Kac (α:=Bool) (
  (yg t0).bind λx1=>
  if x1=true then
   if t0.From<=t1 then
    some (decide (t1<t0.To))
   else
   some false
  else
  some false) λj4=>
 some j4
def Pc(t0:GRule) (t1:Int) (t2:Int):Option Bool:=
 Kac (α:=Bool) (
  if t0.Def=t1 then
   (Wd t0.Valid t2).bind λx2=>
   some x2
  else
  some false) λj3=>
 some j3
def td(t0:GScope) (t1:Int) (t2:Int):Option (List Int):=
 (Cc t0.Rules (λx900=>Pc x900 t1 t2)).bind λx1=>
 some x1.1
def Lf(t0:GScope) (x1:List Int):((List (List GNode))×Int)->Option (Ex ((List (List GNode))×Int) (List (List GNode)) Unit):=λ(s2,s3)=>
 if s3<(x1.length:Int)then
  Kac (α:=(List (List GNode))) (
   (idx x1 s3).bind λx5=>
   (idx t0.Rules x5).bind λx6=>
   if 0<(x6.Guard.length:Int)then
    (app 24 s2 ([x6.Guard])).bind λx8=>
    some x8
   else
   some s2) λj9=>
  some (Ex.go (j9,(ca .i64 (s3+1))))
 else
 some (Ex.brk s2)
def Gi(t0:GScope) (t1:Int) (t2:Int):Option (List (List GNode)):=
 (td t0 t1 t2).bind λx1=>
 (da (Lf t0 x1) (([]:List (List GNode)),0)).bind λy=>match y with
 |.inr _=>none
 |.inl b12=>
 some b12
def Me(t0:List ByteArray):Option (List ByteArray):=if t0.length<=1099511627776 then some t0 else none
def aj(t0:List GEnum):((List GEnum)×Int)->Option (Ex ((List GEnum)×Int) (List GEnum) Unit):=λ(s1,s2)=>
 if s2<(t0.length:Int)then
  (idx t0 s2).bind λx4=>
  (Me x4.Members).bind λx5=>
  (app 40 s1 ([(GEnum.mk x4.Name x5)])).bind λx6=>
  some (Ex.go (x6,(ca .i64 (s2+1))))
 else
 some (Ex.brk s1)
def Mm(t0:List GEnum):Option (List GEnum):=
 (da (aj t0) (([]:List GEnum),0)).bind λy=>match y with
 |.inr _=>none
 |.inl b9=>
 some b9
def Sd(t0:List GRow):Option (List GRow):=if t0.length<=1099511627776 then some t0 else none
def Ih(t0:List GTable):((List GTable)×Int)->Option (Ex ((List GTable)×Int) (List GTable) Unit):=λ(s1,s2)=>
 if s2<(t0.length:Int)then
  (idx t0 s2).bind λx4=>
  (Sd x4.Rows).bind λx5=>
  (app 72 s1 ([(GTable.mk x4.Name x4.Key x4.Value x5)])).bind λx6=>
  some (Ex.go (x6,(ca .i64 (s2+1))))
 else
 some (Ex.brk s1)
def Hl(t0:List GTable):Option (List GTable):=
 (da (Ih t0) (([]:List GTable),0)).bind λy=>match y with
 |.inr _=>none
 |.inl b9=>
 some b9
def Yn(t0:GLaw) (t1:Int):Option GSignature:=
 Kac (α:=Bool) (
  if¬t1<0 then
   some (decide ((t0.Scopes.length:Int)<=t1))
  else
  some true) λj2=>
 if j2=true then
  some (GSignature.mk ([]) ([]) ([]) ([]) ([]) false)
 else
 (pd t0 t1).bind λx4=>
 (Mm x4.Enums).bind λx5=>
 (Hl x4.Tables).bind λx6=>
 some (GSignature.mk x5 x6 x4.Inputs x4.Defs x4.MemberDefs x4.HasMembers)
def wg(t0:GNode):Option Bool:=
 Kac (α:=Bool) (
  if t0.Op=2 then
   some true
  else
  if t0.Op=3 then
   some true
  else
  if t0.Op=4 then
   some true
  else
  if t0.Op=5 then
   some true
  else
  some (t0.Op==6)) λj5=>
 if j5=true then
  some true
 else
 some false
def rf(t0:GNode):Option Bool:=
 Kac (α:=Bool) (
  if t0.Op=19 then
   some true
  else
  if t0.Op=20 then
   some true
  else
  if t0.Op=21 then
   some true
  else
  some (t0.Op==22)) λj4=>
 if j4=true then
  some true
 else
 some false
def Ak(t0:List GNode):Option ((List Int)×Int):=
 (Tj t0).bind λx1=>
 some (x1.1,x1.2.2)
def Sj(x1:((List Int)×Int)):((List Int)×Int×Int)->Option (Ex ((List Int)×Int×Int) (List Int) Unit):=λ(s9,s10,s11)=>
 if 0<=s11 then
  (idx s9 s11).bind λx13=>
  (put s9 s11 s10).bind λx14=>
  (idx x1.1 s10).bind λx15=>
  some (Ex.go (x14,(ca .i64 (x15-1)),(ca .i64 (s11-1))))
 else
 some (Ex.brk s9)
def Xn(t0:List GNode) (t1:Int):Option (List Int):=
 (Ak t0).bind λx1=>
 Kac (α:=Bool) (
  if x1.2=0 then
   if¬t1<0 then
    some (decide ((t0.length:Int)<=t1))
   else
   some true
  else
  some true) λj4=>
 if j4=true then
  some ([])
 else
 (idx t0 t1).bind λx6=>
 (xh x6.Op).bind λx7=>
 (Ww 8 0 x7 x7).bind λx8=>
 (da (Sj x1) (x8,(ca .i64 (t1-1)),(ca .i64 ((x8.length:Int)-1)))).bind λy=>match y with
 |.inr _=>none
 |.inl b19=>
 some b19
def Uc(t0:List GNode) (t1:Int):Option (Int×GNode×Bool):=
 (Xn t0 t1).bind λx1=>
 if¬(x1.length:Int)=2 then
  some (0,(GNode.mk 0 0),false)
 else
 (idx x1 0).bind λx3=>
 (idx t0 x3).bind λx4=>
 (idx x1 1).bind λx5=>
 (idx t0 x5).bind λx6=>
 Kac (α:=Bool) (
  if x4.Op=7 then
   (wg x6).bind λx8=>
   some x8
  else
  some false) λj9=>
 if j9=true then
  some (x4.N,x6,true)
 else
 Kac (α:=Bool) (
  if x6.Op=7 then
   (wg x4).bind λx12=>
   some x12
  else
  some false) λj13=>
 if j13=true then
  some (x6.N,x4,true)
 else
 some (0,(GNode.mk 0 0),false)
def El(t0:List GNode):Int->Option (Ex Int Unit Bool):=λs5=>
 if s5<(t0.length:Int)then
  Kac (α:=(Unit⊕(Ex Int Unit Bool))) (
   (idx t0 s5).bind λx7=>
   Kac (α:=Bool) (
    if x7.Op=1 then
     some true
    else
    if x7.Op=23 then
     some true
    else
    if x7.Op=24 then
     some true
    else
    if x7.Op=25 then
     some true
    else
    some (x7.Op==7)) λj12=>
   if j12=true then
    some (Sum.inl ())
   else
   (wg x7).bind λx14=>
   if x14=true then
    some (Sum.inl ())
   else
   (rf x7).bind λx16=>
   if x16=false then
    some (Sum.inr (Ex.ret false))
   else
   (Uc t0 s5).bind λx18=>
   if x18.2.2=false then
    some (Sum.inr (Ex.ret false))
   else
   some (Sum.inl ())) λz=>match z with
  |.inr v=>some v
  |.inl _=>
  some (Ex.go (ca .i64 (s5+1)))
 else
 some (Ex.brk ())
def qn(t0:List GNode) (t1:GSignature):Option Bool:=
 (bp t0 t1).bind λx1=>
 Kac (α:=Bool) (
  if x1.2.2=0 then
   some (!((x1.1.Kind==1)&&(x1.1.Enum==0)))
  else
  some true) λj3=>
 if j3=true then
  some false
 else
 (da (El t0) 0).bind λy=>match y with
 |.inr v=>some v
 |.inl _=>
 some true
def zc(t0:List GNode) (t1:GNode):Int->Option (Ex Int Unit Int):=λs1=>
 if s1<(t0.length:Int)then
  (idx t0 s1).bind λx3=>
  if t1.Op=x3.Op/\t1.N=x3.N then
   some (Ex.ret s1)
  else
  some (Ex.go (ca .i64 (s1+1)))
 else
 some (Ex.brk ())
def Af(t0:List GNode) (t1:GNode):Option Int:=
 (da (zc t0 t1) 0).bind λy=>match y with
 |.inr v=>some v
 |.inl _=>
 some (-1)
def xc(t0:List GNode) (t1:GNode):Option Bool:=
 (Af t0 t1).bind λx1=>
 some (decide (0<=x1))
def Mf(t0:(List (List GNode))) (t1:Int):Int->Option (Ex Int Unit Bool):=λs1=>
 if s1<(t0.length:Int)then
  (idx t0 s1).bind λx3=>
  (xc x3 (GNode.mk 7 t1)).bind λx4=>
  if x4=true then
   some (Ex.ret true)
  else
  some (Ex.go (ca .i64 (s1+1)))
 else
 some (Ex.brk ())
def Ii(t0:(List (List GNode))) (t1:Int):Option Bool:=
 (da (Mf t0 t1) 0).bind λy=>match y with
 |.inr v=>some v
 |.inl _=>
 some false
def Ld(x3:(Int×Int)):((List Int)×Int)->Option (Ex ((List Int)×Int) (List Int) Unit):=λ(s7,s8)=>
 if s8<=x3.2 then
  (app 8 s7 ([s8])).bind λx10=>
  some (Ex.go (x10,(ca .i64 (s8+1))))
 else
 some (Ex.brk s7)
def Md(t2:List Int) (x3:(Int×Int)):((List Int)×Int)->Option (Ex ((List Int)×Int) (List Int) Unit):=λ(s14,s15)=>
 if s15<(t2.length:Int)then
  Kac (α:=(List Int)) (
   (idx t2 s15).bind λx17=>
   Kac (α:=Bool) (
    if x3.1<=x17 then
     some (decide (x17<=x3.2))
    else
    some false) λj19=>
   if j19=true then
    (app 8 s14 ([x17])).bind λx21=>
    some x21
   else
   some s14) λj22=>
  some (Ex.go (j22,(ca .i64 (s15+1))))
 else
 some (Ex.brk s14)
def cf(t0:GType) (t1:List GEnum) (t2:List Int):Option (List Int):=
 (Tb t0 t1).bind λx1=>
 if x1=false then
  some ([])
 else
 (jd t0 t1).bind λx3=>
 Kac (α:=Bool) (
  if¬t0.Kind=1 then
   some (t0.Kind==6)
  else
  some true) λj5=>
 if j5=true then
  (da (Ld x3) (([]:List Int),x3.1)).bind λy=>match y with
  |.inr _=>none
  |.inl b13=>
  some b13
 else
 (da (Md t2 x3) ([x3.1],0)).bind λy=>match y with
 |.inr _=>none
 |.inl b25=>
 (lb b25).bind λx26=>
 (Pa x26).bind λx27=>
 some x27
def ph(t1:Int) (x4:List GNode):((List Int)×Int)->Option (Ex ((List Int)×Int) (List Int) Unit):=λ(s7,s8)=>
 if s8<(x4.length:Int)then
  Kac (α:=(List Int)) (
   (idx x4 s8).bind λx10=>
   (rf x10).bind λx11=>
   if x11=false then
    some s7
   else
   (Uc x4 s8).bind λx13=>
   Kac (α:=Bool) (
    if x13.2.2=true then
     if x13.1=t1 then
      some (x13.2.1.Op==6)
     else
     some true
    else
    some true) λj16=>
   if j16=true then
    some s7
   else
   (app 8 s7 ([x13.2.1.N])).bind λx18=>
   if x13.2.1.N<9223372036854775807 then
    (app 8 x18 ([(ca .i64 (x13.2.1.N+1))])).bind λx20=>
    some x20
   else
   some x18) λj21=>
  some (Ex.go (j21,(ca .i64 (s8+1))))
 else
 some (Ex.brk s7)
def qh(t0:(List (List GNode))) (t1:Int):((List Int)×Int)->Option (Ex ((List Int)×Int) (List Int) Unit):=λ(s1,s2)=>
 if s2<(t0.length:Int)then
  Kac (α:=(List Int)) (
   (idx t0 s2).bind λx4=>
   (Ak x4).bind λx5=>
   if¬x5.2=0 then
    some s1
   else
   (da (ph t1 x4) (s1,0)).bind λy=>match y with
   |.inr _=>none
   |.inl b24=>
   some b24) λj25=>
  some (Ex.go (j25,(ca .i64 (s2+1))))
 else
 some (Ex.brk s1)
def Dl(t0:(List (List GNode))) (t1:Int):Option (List Int):=
 (da (qh t0 t1) (([]:List Int),0)).bind λy=>match y with
 |.inr _=>none
 |.inl b28=>
 (lb b28).bind λx29=>
 (Pa x29).bind λx30=>
 some x30
def Dm(t0:(List (List Int))):(Int×Int)->Option (Ex (Int×Int) Int Int):=λ(s1,s2)=>
 if s2<(t0.length:Int)then
  Kac (α:=(Int⊕(Ex (Int×Int) Int Int))) (
   (idx t0 s2).bind λx4=>
   if(x4.length:Int)=0 then
    some (Sum.inr (Ex.ret 0))
   else
   if s1<=4096 then
    some (Sum.inl (ca .i64 (s1*(x4.length:Int))))
   else
   some (Sum.inl s1)) λz=>match z with
  |.inr v=>some v
  |.inl j7=>
  some (Ex.go (j7,(ca .i64 (s2+1))))
 else
 some (Ex.brk s1)
def tr(t0:(List (List Int))):Option Int:=
 (da (Dm t0) (1,0)).bind λy=>match y with
 |.inr v=>some v
 |.inl b10=>
 some (min b10 4097)
def Qj(x13:(List (List GNode))) (x14:GSignature):Int->Option (Ex Int Unit ((List (List Int))×Int)):=λs15=>
 if s15<(x13.length:Int)then
  (idx x13 s15).bind λx17=>
  (qn x17 x14).bind λx18=>
  if x18=false then
   some (Ex.ret ([],17))
  else
  some (Ex.go (ca .i64 (s15+1)))
 else
 some (Ex.brk ())
def Pj(t0:GLaw) (x12:GScope) (x13:(List (List GNode))):((List (List Int))×Int)->Option (Ex ((List (List Int))×Int) (List (List Int)) Unit):=λ(s21,s22)=>
 if s22<(x12.Inputs.length:Int)then
  (idx x12.Inputs s22).bind λx24=>
  Kac (α:=(List Int)) (
   (Ii x13 s22).bind λx25=>
   if x25=true then
    (Dl x13 s22).bind λx27=>
    (cf x24.Type_ t0.Enums x27).bind λx28=>
    some x28
   else
   some ([0])) λj29=>
  (app 24 s21 ([j29])).bind λx30=>
  some (Ex.go (x30,(ca .i64 (s22+1))))
 else
 some (Ex.brk s21)
def Ug(t0:GLaw) (t1:Int) (t2:Int) (t3:Int):Option ((List (List Int))×Int):=
 (Wk t0).bind λx1=>
 if¬x1.Code=0 then
  some ([],1)
 else
 Kac (α:=Bool) (
  if¬t1<0 then
   if¬(t0.Scopes.length:Int)<=t1 then
    if¬t2<0 then
     (idx t0.Scopes t1).bind λx6=>
     some (decide ((x6.Defs.length:Int)<=t2))
    else
    some true
   else
   some true
  else
  some true) λj7=>
 if j7=true then
  some ([],6)
 else
 Kac (α:=Bool) (
  if¬t3<0 then
   some (decide (109572<t3))
  else
  some true) λj10=>
 if j10=true then
  some ([],3)
 else
 (idx t0.Scopes t1).bind λx12=>
 (Gi x12 t2 t3).bind λx13=>
 (Yn t0 t1).bind λx14=>
 (da (Qj x13 x14) 0).bind λy=>match y with
 |.inr v=>some v
 |.inl _=>
 (da (Pj t0 x12 x13) (([]:List (List Int)),0)).bind λy=>match y with
 |.inr _=>none
 |.inl b33=>
 (tr b33).bind λx34=>
 if 4096<x34 then
  some ([],4)
 else
 some (b33,0)
def aq(t0:List Int) (t1:List Int):Int->Option (Ex Int Unit Bool):=λs2=>
 Kac (α:=Bool) (
  if s2<(t0.length:Int)then
   some (decide (s2<(t1.length:Int)))
  else
  some false) λj4=>
 if j4=true then
  (idx t0 s2).bind λx6=>
  (idx t1 s2).bind λx7=>
  if¬x6=x7 then
   some (Ex.ret false)
  else
  some (Ex.go (ca .i64 (s2+1)))
 else
 some (Ex.brk ())
def qt(t0:List Int) (t1:List Int):Option Bool:=
 if¬(t0.length:Int)=(t1.length:Int)then
  some false
 else
 (da (aq t0 t1) 0).bind λy=>match y with
 |.inr v=>some v
 |.inl _=>
 some true
def wk(t0:(List (List Int))) (t1:(List (List Int))):Int->Option (Ex Int Unit Bool):=λs2=>
 Kac (α:=Bool) (
  if s2<(t0.length:Int)then
   some (decide (s2<(t1.length:Int)))
  else
  some false) λj4=>
 if j4=true then
  (idx t0 s2).bind λx6=>
  (idx t1 s2).bind λx7=>
  (qt x6 x7).bind λx8=>
  if x8=false then
   some (Ex.ret false)
  else
  some (Ex.go (ca .i64 (s2+1)))
 else
 some (Ex.brk ())
def oo(t0:(List (List Int))) (t1:(List (List Int))):Option Bool:=
 if¬(t0.length:Int)=(t1.length:Int)then
  some false
 else
 (da (wk t0 t1) 0).bind λy=>match y with
 |.inr v=>some v
 |.inl _=>
 some true
def Qe(t0:GRule) (t1:Int) (t2:Int):Option Bool:=
 Kac (α:=Bool) (
  if t0.Def=t1 then
   (Wd t0.Valid t2).bind λx2=>
   some x2
  else
  some false) λj3=>
 some j3
def Ig(t0:GScope) (x1:((List Int)×(List Int))):((List Int)×Int)->Option (Ex ((List Int)×Int) (List Int) Unit):=λ(s2,s3)=>
 if s3<(x1.1.length:Int)then
  (idx x1.1 s3).bind λx5=>
  (idx t0.Rules x5).bind λx6=>
  (app 8 s2 ([x6.Priority])).bind λx7=>
  some (Ex.go (x7,(ca .i64 (s3+1))))
 else
 some (Ex.brk s2)
def oe(t0:GScope) (t1:Int) (t2:Int):Option ((List Int)×(List Int)×(List Int)):=
 (Cc t0.Rules (λx900=>Qe x900 t1 t2)).bind λx1=>
 (da (Ig t0 x1) (([]:List Int),0)).bind λy=>match y with
 |.inr _=>none
 |.inl b10=>
 some (x1.1,x1.2,b10)
def wh(t0:GEval_evaluator):((List Int)×Int×Int)->Option (Ex ((List Int)×Int×Int) (List Int) Unit):=λ(s4,s5,s6)=>
 if 0<=s6 then
  (idx s4 s6).bind λx8=>
  (put s4 s6 s5).bind λx9=>
  (idx t0.starts s5).bind λx10=>
  some (Ex.go (x9,(ca .i64 (x10-1)),(ca .i64 (s6-1))))
 else
 some (Ex.brk s4)
def pe(t0:GEval_evaluator) (t1:Int):Option (List Int):=
 (idx t0.nodes t1).bind λx1=>
 (xh x1.Op).bind λx2=>
 (Ww 8 0 x2 x2).bind λx3=>
 (da (wh t0) (x3,(ca .i64 (t1-1)),(ca .i64 ((x3.length:Int)-1)))).bind λy=>match y with
 |.inr _=>none
 |.inl b14=>
 some b14
def Fl(t0:GNode):Option Bool:=
 Kac (α:=Bool) (
  (xh t0.Op).bind λx1=>
  if¬x1<0 then
   if¬t0.N=0 then
    (Im t0.Op).bind λx4=>
    some (!x4)
   else
   some false
  else
  some true) λj5=>
 if j5=true then
  some false
 else
 Kac (α:=Bool) (
  if t0.Op=14 then
   some true
  else
  if t0.Op=15 then
   some true
  else
  some (t0.Op==16)) λj9=>
 if j9=true then
  Kac (α:=Bool) (
   if 0<=t0.N then
    some (decide (t0.N<=5))
   else
   some false) λj12=>
  some j12
 else
 if t0.Op=34 then
  Kac (α:=Bool) (
   if 0<=t0.N then
    some (decide ((zad t0.N 8)<=5))
   else
   some false) λj15=>
  some j15
 else
 if t0.Op=6 then
  some (decide (0<=t0.N))
 else
 some true
def Br(t0:GNode) (t1:GEnv):Option Bool:=
 if t0.Op=7 then
  Kac (α:=Bool) (
   if 0<=t0.N then
    some (decide (t0.N<(t1.Inputs.length:Int)))
   else
   some false) λj3=>
  some j3
 else
 if t0.Op=8 then
  Kac (α:=Bool) (
   if 0<=t0.N then
    if t0.N<(t1.Defs.length:Int)then
     (idx t1.Defs t0.N).bind λx7=>
     some (x7.Kind !=0)
    else
    some false
   else
   some false) λj8=>
  some j8
 else
 if t0.Op=33 then
  Kac (α:=Bool) (
   if 0<=t0.N then
    some (decide (t0.N<(t1.Tables.length:Int)))
   else
   some false) λj11=>
  some j11
 else
 if t0.Op=34 then
  some (decide ((ca .i64 (sad t0.N 8))<(t1.Tables.length:Int)))
 else
 Kac (α:=Bool) (
  if t0.Op=36 then
   some true
  else
  if t0.Op=37 then
   some true
  else
  if t0.Op=38 then
   some true
  else
  some (t0.Op==39)) λj16=>
 if j16=true then
  Kac (α:=Bool) (
   if 0<=t0.N then
    some (decide (t0.N<(t1.MemberTypes.length:Int)))
   else
   some false) λj19=>
  some j19
 else
 some true
def Wb(t0:GValue):Option Bool:=
 Kac (α:=Bool) (
  if¬t0.Kind=6 then
   some (t0.Enum !=0)
  else
  some false) λj2=>
 if j2=true then
  some false
 else
 if t0.Kind=1 then
  Kac (α:=Bool) (
   if¬t0.N=0 then
    some (t0.N==1)
   else
   some true) λj6=>
  some j6
 else
 if t0.Kind=2 then
  Kac (α:=Bool) (
   if(-1000000000000)<=t0.N then
    some (decide (t0.N<=1000000000000))
   else
   some false) λj9=>
  some j9
 else
 if t0.Kind=3 then
  Kac (α:=Bool) (
   if(-1000000000000000)<=t0.N then
    some (decide (t0.N<=1000000000000000))
   else
   some false) λj12=>
  some j12
 else
 if t0.Kind=4 then
  Kac (α:=Bool) (
   if(-1000000000)<=t0.N then
    some (decide (t0.N<=1000000000))
   else
   some false) λj15=>
  some j15
 else
 if t0.Kind=5 then
  Kac (α:=Bool) (
   if 0<=t0.N then
    some (decide (t0.N<=109572))
   else
   some false) λj18=>
  some j18
 else
 if t0.Kind=6 then
  Kac (α:=Bool) (
   if 0<=t0.Enum then
    if t0.Enum<8 then
     if 0<=t0.N then
      some (decide (t0.N<16))
     else
     some false
    else
    some false
   else
   some false) λj23=>
  some j23
 else
 some false
def Of(t0:List GValue):Int->Option (Ex Int Unit Bool):=λs1=>
 if s1<(t0.length:Int)then
  (idx t0 s1).bind λx3=>
  (Wb x3).bind λx4=>
  if x4=false then
   some (Ex.ret false)
  else
  some (Ex.go (ca .i64 (s1+1)))
 else
 some (Ex.brk ())
def Mi(t0:List GValue):Option Bool:=
 (da (Of t0) 0).bind λy=>match y with
 |.inr v=>some v
 |.inl _=>
 some true
def Us(t0:GValue) (t1:GType):Option Bool:=
 Kac (α:=Bool) (
  (Wb t0).bind λx1=>
  if x1=true then
   if t0.Kind=t1.Kind then
    some (t0.Enum==t1.Enum)
   else
   some false
  else
  some false) λj4=>
 some j4
def Vg(t0:Int):Option Bool:=
 Kac (α:=Bool) (
  if¬t0=2 then
   if¬t0=3 then
    some (t0==4)
   else
   some true
  else
  some true) λj3=>
 some j3
def Mo(t0:Int) (t1:GType):Option Bool:=
 if¬t1.Enum=0 then
  some false
 else
 if t0=36 then
  Kac (α:=Bool) (
   if¬t1.Kind=2 then
    some (t1.Kind==3)
   else
   some true) λj4=>
  some j4
 else
 if t0=39 then
  Kac (α:=Bool) (
   (Vg t1.Kind).bind λx6=>
   if x6=false then
    some (t1.Kind==5)
   else
   some true) λj8=>
  some j8
 else
 some (t1.Kind==1)
def He(t0:Int) (t1:Int):Option Bool:=
 if t0=10 then
  (Vg t1).bind λx2=>
  some x2
 else
 if t0=25 then
  some (t1==1)
 else
 some (t1==5)
def Wg(t0:GValue) (t1:GValue):Option Bool:=
 Kac (α:=Bool) (
  if t0.Kind=t1.Kind then
   some (t0.Enum==t1.Enum)
  else
  some false) λj2=>
 some j2
def Yd(t0:Int) (t1:GValue) (t2:GValue):Option Bool:=
 Kac (α:=Bool) (
  if t0=11 then
   some true
  else
  some (t0==12)) λj2=>
 if j2=true then
  Kac (α:=Bool) (
   (Wg t1 t2).bind λx4=>
   if x4=true then
    (Vg t1.Kind).bind λx6=>
    some x6
   else
   some false) λj7=>
  some j7
 else
 if t0=13 then
  Kac (α:=Bool) (
   if t2.Kind=2 then
    if¬t1.Kind=2 then
     some (t1.Kind==3)
    else
    some true
   else
   some false) λj11=>
  some j11
 else
 if t0=14 then
  Kac (α:=Bool) (
   if t2.Kind=4 then
    if¬t1.Kind=3 then
     some (t1.Kind==4)
    else
    some true
   else
   some false) λj15=>
  some j15
 else
 if t0=15 then
  if t2.Kind=2 then
   Kac (α:=Bool) (
    if¬t1.Kind=2 then
     some (t1.Kind==3)
    else
    some true) λj19=>
   some j19
  else
  Kac (α:=Bool) (
   if t1.Kind=3 then
    some (t2.Kind==3)
   else
   some false) λj21=>
  some j21
 else
 if t0=16 then
  Kac (α:=Bool) (
   if t1.Kind=3 then
    some (t2.Kind==3)
   else
   some false) λj24=>
  some j24
 else
 Kac (α:=Bool) (
  if t0=17 then
   some true
  else
  if t0=18 then
   some true
  else
  if t0=21 then
   some true
  else
  some (t0==22)) λj28=>
 if j28=true then
  Kac (α:=Bool) (
   (Wg t1 t2).bind λx30=>
   if x30=true then
    (Vg t1.Kind).bind λx32=>
    if x32=false then
     some (t1.Kind==5)
    else
    some true
   else
   some false) λj34=>
  some j34
 else
 Kac (α:=Bool) (
  if t0=19 then
   some true
  else
  some (t0==20)) λj36=>
 if j36=true then
  (Wg t1 t2).bind λx38=>
  some x38
 else
 Kac (α:=Bool) (
  if t0=23 then
   some true
  else
  some (t0==24)) λj40=>
 if j40=true then
  Kac (α:=Bool) (
   if t1.Kind=1 then
    some (t2.Kind==1)
   else
   some false) λj43=>
  some j43
 else
 Kac (α:=Bool) (
  if t0=27 then
   some true
  else
  some (t0==28)) λj45=>
 if j45=true then
  Kac (α:=Bool) (
   if t1.Kind=5 then
    some (t2.Kind==2)
   else
   some false) λj48=>
  some j48
 else
 Kac (α:=Bool) (
  if t1.Kind=5 then
   some (t2.Kind==5)
  else
  some false) λj50=>
 some j50
def Ea(t0:GNode) (t1:List GValue) (t2:GEnv):Option Bool:=
 if t0.Op=7 then
  (idx t2.Inputs t0.N).bind λx2=>
  (Wb x2).bind λx3=>
  some x3
 else
 if t0.Op=8 then
  (idx t2.Defs t0.N).bind λx5=>
  (Wb x5).bind λx6=>
  some x6
 else
 if t0.Op=33 then
  (idx t2.Tables t0.N).bind λx8=>
  Kac (α:=Bool) (
   (idx t1 0).bind λx9=>
   (Us x9 x8.Key).bind λx10=>
   if x10=true then
    if 1<=x8.Value.Kind then
     some (decide (x8.Value.Kind<=6))
    else
    some false
   else
   some false) λj13=>
  some j13
 else
 if t0.Op=34 then
  (idx t2.Tables (ca .i64 (sad t0.N 8))).bind λx15=>
  Kac (α:=Bool) (
   (idx t1 0).bind λx16=>
   if x16.Kind=3 then
    if x15.Key.Kind=3/\x15.Key.Enum=0 then
     some ((x15.Value.Kind==4)&&(x15.Value.Enum==0))
    else
    some false
   else
   some false) λj19=>
  some j19
 else
 Kac (α:=Bool) (
  if t0.Op=36 then
   some true
  else
  if t0.Op=37 then
   some true
  else
  if t0.Op=38 then
   some true
  else
  some (t0.Op==39)) λj23=>
 if j23=true then
  (idx t2.MemberTypes t0.N).bind λx25=>
  (Mo t0.Op x25).bind λx26=>
  some x26
 else
 if(t1.length:Int)=1 then
  (idx t1 0).bind λx28=>
  (He t0.Op x28.Kind).bind λx29=>
  some x29
 else
 if(t1.length:Int)=2 then
  (idx t1 0).bind λx31=>
  (idx t1 1).bind λx32=>
  (Yd t0.Op x31 x32).bind λx33=>
  some x33
 else
 if(t1.length:Int)=3 then
  Kac (α:=Bool) (
   (idx t1 0).bind λx35=>
   if x35.Kind=1 then
    (idx t1 1).bind λx37=>
    (idx t1 2).bind λx38=>
    (Wg x37 x38).bind λx39=>
    some x39
   else
   some false) λj40=>
  some j40
 else
 some true
def uM(t0:GNode) (t1:GEnv) (x1:GType):(Int×Int×Int×Int)->Option (Ex (Int×Int×Int×Int) (Int×Int×Int) (GValue×Int)):=λ(s7,s8,s9,s10)=>
 if s10<(t1.Members.length:Int)then
  Kac (α:=((Int×Int×Int)⊕(Ex (Int×Int×Int×Int) (Int×Int×Int) (GValue×Int)))) (
   (idx t1.Members s10).bind λx12=>
   Kac (α:=Bool) (
    if¬(x12.length:Int)<=t0.N then
     (idx x12 t0.N).bind λx14=>
     some (x14.Kind==0)
    else
    some true) λj15=>
   if j15=true then
    some (Sum.inr (Ex.ret ((GValue.mk 0 0 0),6)))
   else
   (idx x12 t0.N).bind λx17=>
   (Us x17 x1).bind λx18=>
   if x18=false then
    some (Sum.inr (Ex.ret ((GValue.mk 0 0 0),8)))
   else
   if t0.Op=36 then
    (Wb (GValue.mk s7 s8 (ca .i64 (s9+x17.N)))).bind λx21=>
    if x21=false then
     some (Sum.inr (Ex.ret ((GValue.mk 0 0 0),3)))
    else
    some (Sum.inl (s7,s8,(ca .i64 (s9+x17.N))))
   else
   if t0.Op=37 then
    some (Sum.inl (s7,s8,(min s9 x17.N)))
   else
   if t0.Op=38 then
    some (Sum.inl (s7,s8,(max s9 x17.N)))
   else
   if t0.Op=39 then
    Kac (α:=Bool) (
     if¬s10=0 then
      some (decide (s9<x17.N))
     else
     some true) λj27=>
    if j27=true then
     some (Sum.inl (x17.Kind,x17.Enum,x17.N))
    else
    some (Sum.inl (s7,s8,s9))
   else
   some (Sum.inl (s7,s8,s9))) λz=>match z with
  |.inr v=>some v
  |.inl (j29,j30,j31)=>
  some (Ex.go (j29,j30,j31,(ca .i64 (s10+1))))
 else
 some (Ex.brk (s7,s8,s9))
def Cq(t0:GNode) (t1:GEnv):Option (GValue×Int):=none
def qw(t0:GTable) (t1:Int) (t2:Int):Option (Int×Bool):=none
def Co(t0 t1:Int):Option (Int×Int):=if 0<=t0/\t0<18446744073709551616/\0<=t1/\t1<18446744073709551616 then some (t0*t1 / 18446744073709551616,t0*t1 % 18446744073709551616)else none
def Bo(t0 t1 t2:Int):Option (Int×Int):=if 0<=t0/\t0<t2/\0<=t1/\t1<18446744073709551616/\t2<18446744073709551616 then some ((t0*18446744073709551616+t1) / t2,(t0*18446744073709551616+t1) % t2)else none
def aA(t0:Int) (t1:Int):Option (Int×Int×Bool):=
 Kac (α:=Int) (
  if t1<0 then
   some (ca .u64 (-(ca .u64 t1)))
  else
  some (ca .u64 t1)) λj2=>
 (Co (ca .u64 t0) j2).bind λx3=>
 if 1000000<=x3.1 then
  some (0,0,false)
 else
 (Bo x3.1 x3.2 1000000).bind λx5=>
 if 1000000000000000<x5.1 then
  some (0,0,false)
 else
 if t1<0 then
  some ((ca .i64 (-(ca .i64 x5.1))),(ca .i64 (-(ca .i64 x5.2))),true)
 else
 some ((ca .i64 x5.1),(ca .i64 x5.2),true)
def pP(t0:GTable) (t1:Int) (t2:Int):(Int×Int×Int)->Option (Ex (Int×Int×Int) (Int×Int) (Int×Int)):=λ(s10,s11,s12)=>
 if s12<(t0.Rows.length:Int)then
  Kac (α:=((Int×Int)⊕(Ex (Int×Int×Int) (Int×Int) (Int×Int)))) (
   (idx t0.Rows s12).bind λx14=>
   Kac (α:=Bool) (
    (Wd x14.Valid t1).bind λx15=>
    if x15=true then
     some (decide ((min x14.Hi t2)<=(max x14.Lo 0)))
    else
    some true) λj17=>
   if j17=true then
    some (Sum.inl (s10,s11))
   else
   (aA (ca .i64 ((min x14.Hi t2)-(max x14.Lo 0))) x14.N).bind λx19=>
   if x19.2.2=false then
    some (Sum.inr (Ex.ret (0,3)))
   else
   some (Sum.inl ((ca .i64 (s10+x19.1)),(ca .i64 (s11+x19.2.1))))) λz=>match z with
  |.inr v=>some v
  |.inl (j21,j22)=>
  some (Ex.go (j21,j22,(ca .i64 (s12+1))))
 else
 some (Ex.brk (s10,s11))
def ju(t0:GTable) (t1:Int) (t2:Int) (t3:Int):Option (Int×Int):=none
def Bg(t0:Bool):Option GValue:=
 if t0=true then
  some (GValue.mk 1 0 1)
 else
 some (GValue.mk 1 0 0)
def Dz(t0:Int):Option (Int×Int×Int):=none
def Ft(t0:Int) (t1:GValue):Option GValue:=
 if t0=10 then
  some (GValue.mk t1.Kind 0 (ca .i64 (-t1.N)))
 else
 if t0=25 then
  (Bg (t1.N==0)).bind λx3=>
  some x3
 else
 (Dz t1.N).bind λx4=>
 if t0=31 then
  some (GValue.mk 2 0 x4.1)
 else
 some (GValue.mk 2 0 x4.2.1)
def Bx(t0:GNode) (t1:GValue) (t2:GValue):Option (GValue×Int):=none
def vt(t0:Int) (t1:Int):Option (Int×Int):=none
def tp(t0:Int) (t1:Int):Option Int:=none
def Ni(t0:GNode) (t1:GValue) (t2:GValue):Option (GValue×Int):=
 Kac (α:=Bool) (
  if t0.Op=11 then
   some true
  else
  some (t0.Op==27)) λj2=>
 if j2=true then
  some ((GValue.mk t1.Kind 0 (ca .i64 (t1.N+t2.N))),0)
 else
 if t0.Op=12 then
  some ((GValue.mk t1.Kind 0 (ca .i64 (t1.N-t2.N))),0)
 else
 Kac (α:=Bool) (
  if t0.Op=13 then
   some true
  else
  if t0.Op=14 then
   some true
  else
  if t0.Op=15 then
   some true
  else
  some (t0.Op==16)) λj8=>
 if j8=true then
  (Bx t0 t1 t2).bind λx10=>
  some (x10.1,x10.2)
 else
 Kac (α:=Bool) (
  if t0.Op=17 then
   some true
  else
  some (t0.Op==18)) λj12=>
 if j12=true then
  if(t0.Op==17)=(decide (t2.N<t1.N))then
   some (t2,0)
  else
  some (t1,0)
 else
 if t0.Op=19 then
  (Bg (t1.N==t2.N)).bind λx16=>
  some (x16,0)
 else
 if t0.Op=20 then
  (Bg (t1.N !=t2.N)).bind λx18=>
  some (x18,0)
 else
 if t0.Op=21 then
  (Bg (decide (t1.N<t2.N))).bind λx20=>
  some (x20,0)
 else
 if t0.Op=22 then
  (Bg (decide (t1.N<=t2.N))).bind λx22=>
  some (x22,0)
 else
 if t0.Op=23 then
  Kac (α:=(Int×Int×Int)) (
   if t1.N=1 then
    (Bg (t2.N==1)).bind λx25=>
    some (x25.Kind,x25.Enum,x25.N)
   else
   (Bg false).bind λx26=>
   some (x26.Kind,x26.Enum,x26.N)) λ(j27,j28,j29)=>
  some ((GValue.mk j27 j28 j29),0)
 else
 if t0.Op=24 then
  Kac (α:=(Int×Int×Int)) (
   if¬t1.N=1 then
    (Bg (t2.N==1)).bind λx32=>
    some (x32.Kind,x32.Enum,x32.N)
   else
   (Bg true).bind λx33=>
   some (x33.Kind,x33.Enum,x33.N)) λ(j34,j35,j36)=>
  some ((GValue.mk j34 j35 j36),0)
 else
 if t0.Op=28 then
  (vt t1.N t2.N).bind λx38=>
  some ((GValue.mk 5 0 x38.1),x38.2)
 else
 if t0.Op=29 then
  some ((GValue.mk 2 0 (ca .i64 (t2.N-t1.N))),0)
 else
 (tp t1.N t2.N).bind λx40=>
 some ((GValue.mk 2 0 x40),0)
def nb(t0:GNode) (t1:List GValue) (t2:GEnv):Option (GValue×Int):=
 Kac (α:=Bool) (
  if t0.Op=1 then
   some true
  else
  if t0.Op=2 then
   some true
  else
  if t0.Op=3 then
   some true
  else
  if t0.Op=4 then
   some true
  else
  some (t0.Op==5)) λj5=>
 if j5=true then
  some ((GValue.mk t0.Op 0 t0.N),0)
 else
 if t0.Op=6 then
  some ((GValue.mk 6 (ca .i64 (sad t0.N 16)) (zad t0.N 16)),0)
 else
 if t0.Op=7 then
  (idx t2.Inputs t0.N).bind λx9=>
  some (x9,0)
 else
 if t0.Op=8 then
  (idx t2.Defs t0.N).bind λx11=>
  some (x11,0)
 else
 if t0.Op=9 then
  some ((GValue.mk 5 0 t2.Date),0)
 else
 if t0.Op=35 then
  some ((GValue.mk 2 0 (t2.Members.length:Int)),0)
 else
 Kac (α:=Bool) (
  if t0.Op=36 then
   some true
  else
  if t0.Op=37 then
   some true
  else
  if t0.Op=38 then
   some true
  else
  some (t0.Op==39)) λj17=>
 if j17=true then
  (Cq t0 t2).bind λx19=>
  some (x19.1,x19.2)
 else
 if t0.Op=33 then
  (idx t2.Tables t0.N).bind λx21=>
  (idx t1 0).bind λx22=>
  (qw x21 t2.Date x22.N).bind λx23=>
  if x23.2=false then
   some ((GValue.mk 0 0 0),6)
  else
  (idx x21.Rows x23.1).bind λx25=>
  some ((GValue.mk x21.Value.Kind x21.Value.Enum x25.N),0)
 else
 if t0.Op=34 then
  (idx t2.Tables (ca .i64 (sad t0.N 8))).bind λx27=>
  (idx t1 0).bind λx28=>
  (ju x27 t2.Date x28.N (zad t0.N 8)).bind λx29=>
  some ((GValue.mk 3 0 x29.1),x29.2)
 else
 if(t1.length:Int)=1 then
  (idx t1 0).bind λx31=>
  (Ft t0.Op x31).bind λx32=>
  some (x32,0)
 else
 if(t1.length:Int)=2 then
  (idx t1 0).bind λx34=>
  (idx t1 1).bind λx35=>
  (Ni t0 x34 x35).bind λx36=>
  some (x36.1,x36.2)
 else
 (idx t1 0).bind λx37=>
 if x37.N=1 then
  (idx t1 1).bind λx39=>
  some (x39,0)
 else
 (idx t1 2).bind λx40=>
 some (x40,0)
def ub(t0:GNode) (t1:List GValue) (t2:GEnv):Option (GValue×Int):=
 Kac (α:=Bool) (
  (Fl t0).bind λx1=>
  if x1=true then
   (xh t0.Op).bind λx3=>
   some ((t1.length:Int) !=x3)
  else
  some true) λj4=>
 if j4=true then
  some ((GValue.mk 0 0 0),2)
 else
 (Br t0 t2).bind λx6=>
 if x6=false then
  some ((GValue.mk 0 0 0),6)
 else
 Kac (α:=Bool) (
  (Mi t1).bind λx8=>
  if x8=true then
   (Ea t0 t1 t2).bind λx10=>
   some (!x10)
  else
  some true) λj11=>
 if j11=true then
  some ((GValue.mk 0 0 0),8)
 else
 (nb t0 t1 t2).bind λx13=>
 if¬x13.2=0 then
  some ((GValue.mk 0 0 0),x13.2)
 else
 (Wb x13.1).bind λx15=>
 if x15=false then
  some ((GValue.mk 0 0 0),3)
 else
 some (x13.1,0)
def Yc(t0:GEval_evaluator) (x2:List Int) (R341:(GEval_evaluator->Int->Option (GValue×Int))):((List GValue)×Int)->Option (Ex ((List GValue)×Int) (List GValue) (GValue×Int)):=λ(s9,s10)=>
 if s10<(x2.length:Int)then
  (idx x2 s10).bind λx12=>
  (R341 t0 x12).bind λx13=>
  if¬x13.2=0 then
   some (Ex.ret ((GValue.mk 0 0 0),x13.2))
  else
  (idx s9 s10).bind λx15=>
  (put s9 s10 x13.1).bind λx16=>
  some (Ex.go (x16,(ca .i64 (s10+1))))
 else
 some (Ex.brk s9)
def Dc(R341:(GEval_evaluator->Int->Option (GValue×Int))) (R455:(GEval_evaluator->GNode->(List Int)->Option (GValue×Int))) (R512:(GEval_evaluator->Int->Option (GValue×Int))) (t0:GEval_evaluator) (t1:Int):Option (GValue×Int):=
 (idx t0.nodes t1).bind λx1=>
 (pe t0 t1).bind λx2=>
 Kac (α:=Bool) (
  if x1.Op=23 then
   some true
  else
  if x1.Op=24 then
   some true
  else
  some (x1.Op==26)) λj5=>
 if j5=true then
  (R455 t0 x1 x2).bind λx7=>
  some (x7.1,x7.2)
 else
 (Ww 24 (GValue.mk 0 0 0) (x2.length:Int) (x2.length:Int)).bind λx8=>
 (da (Yc t0 x2 R341) (x8,0)).bind λy=>match y with
 |.inr v=>some v
 |.inl b19=>
 (ub x1 b19 t0.env).bind λx20=>
 some (x20.1,x20.2)
def kf(R341:(GEval_evaluator->Int->Option (GValue×Int))) (R455:(GEval_evaluator->GNode->(List Int)->Option (GValue×Int))) (R512:(GEval_evaluator->Int->Option (GValue×Int))) (t0:GEval_evaluator) (t1:GNode) (t2:List Int):Option (GValue×Int):=
 if¬t1.N=0 then
  some ((GValue.mk 0 0 0),2)
 else
 (idx t2 0).bind λx2=>
 (R512 t0 x2).bind λx3=>
 if¬x3.2=0 then
  some ((GValue.mk 0 0 0),x3.2)
 else
 Kac (α:=Bool) (
  if t1.Op=26 then
   some (x3.1.N==1)
  else
  some false) λj6=>
 if j6=true then
  (idx t2 1).bind λx8=>
  (R341 t0 x8).bind λx9=>
  some (x9.1,x9.2)
 else
 if t1.Op=26 then
  (idx t2 2).bind λx11=>
  (R341 t0 x11).bind λx12=>
  some (x12.1,x12.2)
 else
 if(t1.Op==23)=(x3.1.N==0)then
  some (x3.1,0)
 else
 (idx t2 1).bind λx14=>
 (R512 t0 x14).bind λx15=>
 some (x15.1,x15.2)
def Bc(R341:(GEval_evaluator->Int->Option (GValue×Int))) (R455:(GEval_evaluator->GNode->(List Int)->Option (GValue×Int))) (R512:(GEval_evaluator->Int->Option (GValue×Int))) (t0:GEval_evaluator) (t1:Int):Option (GValue×Int):=
 (R341 t0 t1).bind λx1=>
 if¬x1.2=0 then
  some ((GValue.mk 0 0 0),x1.2)
 else
 Kac (α:=Bool) (
  if x1.1.Kind=1 then
   (Wb x1.1).bind λx4=>
   some (!x4)
  else
  some true) λj5=>
 if j5=true then
  some ((GValue.mk 0 0 0),8)
 else
 some (x1.1,0)
def ea:Nat->(GEval_evaluator->Int->Option (GValue×Int))×(GEval_evaluator->GNode->(List Int)->Option (GValue×Int))×(GEval_evaluator->Int->Option (GValue×Int))
 |0=>(λ_ _=>none,λ_ _ _=>none,λ_ _=>none)
 |n+1=>(Dc (ea n).1 (ea n).2.1 (ea n).2.2,kf (ea n).1 (ea n).2.1 (ea n).2.2,Bc (ea n).1 (ea n).2.1 (ea n).2.2)
def Mj(t0:GEval_evaluator) (t1:Int):Option (GValue×Int):=(ea br).1 t0 t1
def Is(t0:GEval_evaluator) (t1:GNode) (t2:List Int):Option (GValue×Int):=(ea br).2.1 t0 t1 t2
def Cp(t0:GEval_evaluator) (t1:Int):Option (GValue×Int):=(ea br).2.2 t0 t1
def Ra(t0:List GNode) (t1:GEnv):Option (GValue×Int):=
 (Ak t0).bind λx1=>
 if¬x1.2=0 then
  some ((GValue.mk 0 0 0),x1.2)
 else
 (Mj (GEval_evaluator.mk t0 x1.1 t1) (ca .i64 ((t0.length:Int)-1))).bind λx3=>
 some (x3.1,x3.2)
def De(t0:GLaw) (t1:GScope) (t2:List Int) (t3:Int) (t4:List GValue):((List Bool)×Int)->Option (Ex ((List Bool)×Int) (List Bool) Unit):=λ(s2,s3)=>
 if s3<(t2.length:Int)then
  Kac (α:=(List Bool)) (
   (idx t2 s3).bind λx5=>
   (idx t1.Rules x5).bind λx6=>
   if(x6.Guard.length:Int)=0 then
    (idx s2 s3).bind λx8=>
    (put s2 s3 true).bind λx9=>
    some x9
   else
   (Ra x6.Guard (GEnv.mk t3 t4 ([]) ([]) ([]) t0.Tables)).bind λx10=>
   if x10.2=0 then
    (idx s2 s3).bind λx12=>
    (put s2 s3 (x10.1.N==1)).bind λx13=>
    some x13
   else
   (idx s2 s3).bind λx14=>
   (put s2 s3 false).bind λx15=>
   some x15) λj16=>
  some (Ex.go (j16,(ca .i64 (s3+1))))
 else
 some (Ex.brk s2)
def Hg(t0:GLaw) (t1:GScope) (t2:List Int) (t3:Int) (t4:List GValue):Option (List Bool):=
 (Ww 1 false (t2.length:Int) (t2.length:Int)).bind λx1=>
 (da (De t0 t1 t2 t3 t4) (x1,0)).bind λy=>match y with
 |.inr _=>none
 |.inl b19=>
 some b19
def Yf(t0:List Int) (t1:List Int):Int->Option (Ex Int Unit Int):=λs3=>
 if s3<(t0.length:Int)then
  (idx t0 s3).bind λx5=>
  Kac (α:=Bool) (
   if¬x5<(-1)then
    some (decide (s3<=x5))
   else
   some true) λj7=>
  if j7=true then
   some (Ex.ret 9)
  else
  Kac (α:=Bool) (
   (idx t1 s3).bind λx9=>
   if¬x9<0 then
    some (decide (9<x9))
   else
   some true) λj11=>
  if j11=true then
   some (Ex.ret 3)
  else
  some (Ex.go (ca .i64 (s3+1)))
 else
 some (Ex.brk ())
def sj(t0:List Int) (t1:List Int):Option Int:=
 if¬(t0.length:Int)=(t1.length:Int)then
  some 2
 else
 if 8<(t0.length:Int)then
  some 4
 else
 (da (Yf t0 t1) 0).bind λy=>match y with
 |.inr v=>some v
 |.inl _=>
 some 0
def Xf(t0:List Int) (t1:Int):((List Int)×Int)->Option (Ex ((List Int)×Int) (List Int) Unit):=λ(s1,s2)=>
 if s2<(t0.length:Int)then
  Kac (α:=(List Int)) (
   (idx t0 s2).bind λx4=>
   if x4=t1 then
    (app 8 s1 ([s2])).bind λx6=>
    some x6
   else
   some s1) λj7=>
  some (Ex.go (j7,(ca .i64 (s2+1))))
 else
 some (Ex.brk s1)
def qj(t0:List Int) (t1:Int):Option (List Int):=
 (da (Xf t0 t1) (([]:List Int),0)).bind λy=>match y with
 |.inr _=>none
 |.inl b10=>
 some b10
def Kd(t0:GRuletree_tree) (x1:List Int):((List Int)×Int)->Option (Ex ((List Int)×Int) (List Int) Unit):=λ(s2,s3)=>
 if s3<(x1.length:Int)then
  Kac (α:=(List Int)) (
   (idx x1 s3).bind λx5=>
   (idx t0.outcome x5).bind λx6=>
   if x6=(-1)then
    some s2
   else
   Kac (α:=(List Int)) (
    Kac (α:=Bool) (
     if 0<(s2.length:Int)then
      (idx t0.priority x5).bind λx9=>
      (idx s2 0).bind λx10=>
      (idx t0.priority x10).bind λx11=>
      some (decide (x11<x9))
     else
     some false) λj12=>
    if j12=true then
     (Ws s2 0).bind λx14=>
     some x14
    else
    some s2) λj15=>
   Kac (α:=Bool) (
    if¬(j15.length:Int)=0 then
     (idx t0.priority x5).bind λx17=>
     (idx j15 0).bind λx18=>
     (idx t0.priority x18).bind λx19=>
     some (x17==x19)
    else
    some true) λj20=>
   if j20=true then
    (app 8 j15 ([x5])).bind λx22=>
    some x22
   else
   some j15) λj23=>
  some (Ex.go (j23,(ca .i64 (s3+1))))
 else
 some (Ex.brk s2)
def Rc(t0:GRuletree_tree) (t1:Int):Option (List Int):=
 (qj t0.parent t1).bind λx1=>
 (da (Kd t0 x1) (([]:List Int),0)).bind λy=>match y with
 |.inr _=>none
 |.inl b26=>
 some b26
def Jb(t0:GRuletree_tree) (t1:Int):Option Int:=
 (Rc t0 t1).bind λx1=>
 if(x1.length:Int)=0 then
  some (-1)
 else
 if(x1.length:Int)=1 then
  (idx x1 0).bind λx4=>
  (idx t0.outcome x4).bind λx5=>
  some x5
 else
 some (-2)
def Zf(t0:List Int) (t1:List Int) (t2:List Bool):((List Int)×Int)->Option (Ex ((List Int)×Int) (List Int) Unit):=λ(s2,s3)=>
 if 0<=s3 then
  Kac (α:=(List Int)) (
   (Jb (GRuletree_tree.mk t0 t1 s2) s3).bind λx5=>
   (idx s2 s3).bind λx6=>
   (put s2 s3 x5).bind λx7=>
   Kac (α:=Bool) (
    (idx x7 s3).bind λx8=>
    if x8=(-1)then
     (idx t2 s3).bind λx10=>
     some x10
    else
    some false) λj11=>
   if j11=true then
    (idx x7 s3).bind λx13=>
    (put x7 s3 s3).bind λx14=>
    some x14
   else
   some x7) λj15=>
  some (Ex.go (j15,(ca .i64 (s3-1))))
 else
 some (Ex.brk s2)
def tg(t0:List Int) (t1:List Int) (t2:List Bool):Option (List Int):=
 (Ww 8 0 (t0.length:Int) (t0.length:Int)).bind λx1=>
 (da (Zf t0 t1 t2) (x1,(ca .i64 ((t0.length:Int)-1)))).bind λy=>match y with
 |.inr _=>none
 |.inl b18=>
 some b18
def We(t0:List Int) (t1:List Int) (t2:List Bool):Option Int:=
 Kac (α:=Bool) (
  (sj t0 t1).bind λx1=>
  if x1=0 then
   some ((t2.length:Int) !=(t0.length:Int))
  else
  some true) λj3=>
 if j3=true then
  some (-1)
 else
 (tg t0 t1 t2).bind λx5=>
 (Jb (GRuletree_tree.mk t0 t1 x5) (-1)).bind λx6=>
 some x6
def Gf(t0:List Int) (t1:List Int) (x3:List Int):(List Int)->Option (Ex (List Int) (List Int) Unit):=λs5=>
 if(s5.length:Int)=1 then
  (idx s5 0).bind λx7=>
  (Rc (GRuletree_tree.mk t0 t1 x3) x7).bind λx8=>
  some (Ex.go x8)
 else
 some (Ex.brk s5)
def Jd(t0:List Int) (t1:List Int) (t2:List Bool):Option (Int×Int×Bool):=
 (We t0 t1 t2).bind λx1=>
 if¬x1=(-2)then
  some (0,0,false)
 else
 (tg t0 t1 t2).bind λx3=>
 (Rc (GRuletree_tree.mk t0 t1 x3) (-1)).bind λx4=>
 (da (Gf t0 t1 x3) x4).bind λy=>match y with
 |.inr _=>none
 |.inl b10=>
 if(b10.length:Int)<2 then
  some (0,0,false)
 else
 (idx b10 0).bind λx12=>
 (idx b10 1).bind λx13=>
 some (x12,x13,true)
def Ja(t0:List GCoverageHole) (t1:(GCoverageHole->Option Bool)):Int->Option (Ex Int Unit Int):=λs1=>
 if s1<(t0.length:Int)then
  (idx t0 s1).bind λx3=>
  (t1 x3).bind λx4=>
  if x4=true then
   some (Ex.ret s1)
  else
  some (Ex.go (ca .i64 (s1+1)))
 else
 some (Ex.brk ())
def Qa(t0:List GCoverageHole) (t1:(GCoverageHole->Option Bool)):Option Int:=
 (da (Ja t0 t1) 0).bind λy=>match y with
 |.inr v=>some v
 |.inl _=>
 some (-1)
def ua(t0:List GCoverageHole) (t1:(GCoverageHole->Option Bool)):Option Bool:=
 (Qa t0 t1).bind λx1=>
 some (decide (0<=x1))
def Ji(t0:GCoverageHole) (t1:GCoverageHole):Option Bool:=
 Kac (α:=Bool) (
  if t0.Outcome=t1.Outcome then
   if t0.RuleA=t1.RuleA then
    some (t0.RuleB==t1.RuleB)
   else
   some false
  else
  some false) λj3=>
 some j3
def fb(t0:GCoverageHole) (t1:GCoverageHole):Option Bool:=
 (Ji t0 t1).bind λx1=>
 some x1
def Xc(x1:((List (List Int))×Int)) (x3:GScope) (s7:List Int):((List GValue)×Int)->Option (Ex ((List GValue)×Int) (List GValue) Unit):=λ(s10,s11)=>
 if s11<(x3.Inputs.length:Int)then
  (idx x3.Inputs s11).bind λx13=>
  (idx x1.1 s11).bind λx14=>
  (idx s7 s11).bind λx15=>
  (idx x14 x15).bind λx16=>
  (app 24 s10 ([(GValue.mk x13.Type_.Kind x13.Type_.Enum x16)])).bind λx17=>
  some (Ex.go (x17,(ca .i64 (s11+1))))
 else
 some (Ex.brk s10)
def Vc(x1:((List (List Int))×Int)) (x3:GScope) (s7:List Int):Option (List GValue):=
 (da (Xc x1 x3 s7) (([]:List GValue),0)).bind λy=>match y with
 |.inr _=>none
 |.inl b20=>
 some b20
def Ce(x1:((List (List Int))×Int)):((List Int)×Int)->Option (Ex ((List Int)×Int) (List Int) ((List Int)×Bool)):=λ(s35,s36)=>
 if 0<=s36 then
  (idx s35 s36).bind λx38=>
  (put s35 s36 (ca .i64 (x38+1))).bind λx39=>
  (idx x39 s36).bind λx40=>
  (idx x1.1 s36).bind λx41=>
  if x40<(x41.length:Int)then
   some (Ex.ret (x39,true))
  else
  (put x39 s36 0).bind λx43=>
  some (Ex.go (x43,(ca .i64 (s36-1))))
 else
 some (Ex.brk s35)
def Wc(x1:((List (List Int))×Int)) (s7:List Int):Option ((List Int)×Bool):=
 (da (Ce x1) (s7,(ca .i64 ((s7.length:Int)-1)))).bind λy=>match y with
 |.inr v=>some v
 |.inl b46=>
 some (b46,false)
def jc(t0:GLaw) (t3:Int) (x1:((List (List Int))×Int)) (x3:GScope) (x4:((List Int)×(List Int)×(List Int))):((List GCoverageHole)×(List Int)×Bool)->Option (Ex ((List GCoverageHole)×(List Int)×Bool) (List GCoverageHole) Unit):=λ(s6,s7,s8)=>
 if s8=true then
  Kac (α:=(List GCoverageHole)) (
   (Vc x1 x3 s7).bind λi21=>
   (Hg t0 x3 x4.1 t3 i21).bind λx22=>
   (We x4.2.1 x4.2.2 x22).bind λx23=>
   if 0<=x23 then
    some s6
   else
   Kac (α:=(Int×Int)) (
    if x23=(-2)then
     (Jd x4.2.1 x4.2.2 x22).bind λx26=>
     (idx x4.1 x26.1).bind λx27=>
     (idx x4.1 x26.2.1).bind λx28=>
     some (x27,x28)
    else
    some ((-1),(-1))) λ(j29,j30)=>
   (ua s6 (λx900=>fb x900 (GCoverageHole.mk x23 j29 j30 ([])))).bind λx31=>
   if x31=false then
    (app 48 s6 ([(GCoverageHole.mk x23 j29 j30 i21)])).bind λx33=>
    some x33
   else
   some s6) λj34=>
  (Wc x1 s7).bind λ(i47,i48)=>
  some (Ex.go (j34,i47,i48))
 else
 some (Ex.brk s6)
def Na(t0:GLaw) (t1:Int) (t2:Int) (t3:Int):Option ((List GCoverageHole)×Int):=
 (Ug t0 t1 t2 t3).bind λx1=>
 if¬x1.2=0 then
  some ([],x1.2)
 else
 (idx t0.Scopes t1).bind λx3=>
 (oe x3 t2 t3).bind λx4=>
 (Ww 8 0 (x1.1.length:Int) (x1.1.length:Int)).bind λx5=>
 (da (jc t0 t3 x1 x3 x4) (([]:List GCoverageHole),x5,true)).bind λy=>match y with
 |.inr _=>none
 |.inl b52=>
 some (b52,0)
def gy(t0:List GValue) (t1:List GValue):Int->Option (Ex Int Unit Bool):=λs2=>
 Kac (α:=Bool) (
  if s2<(t0.length:Int)then
   some (decide (s2<(t1.length:Int)))
  else
  some false) λj4=>
 if j4=true then
  (idx t0 s2).bind λx6=>
  (idx t1 s2).bind λx7=>
  if¬(x6.Kind=x7.Kind/\x6.Enum=x7.Enum/\x6.N=x7.N)then
   some (Ex.ret false)
  else
  some (Ex.go (ca .i64 (s2+1)))
 else
 some (Ex.brk ())
def cn(t0:List GValue) (t1:List GValue):Option Bool:=
 if¬(t0.length:Int)=(t1.length:Int)then
  some false
 else
 (da (gy t0 t1) 0).bind λy=>match y with
 |.inr v=>some v
 |.inl _=>
 some true
def ug(t0:GCoverageHole) (t1:GCoverageHole):Option Bool:=
 Kac (α:=Bool) (
  if t0.Outcome=t1.Outcome then
   if t0.RuleA=t1.RuleA then
    if t0.RuleB=t1.RuleB then
     (cn t0.Inputs t1.Inputs).bind λx4=>
     some x4
    else
    some false
   else
   some false
  else
  some false) λj5=>
 some j5
def sq(t0:List GCoverageHole) (t1:List GCoverageHole):Int->Option (Ex Int Unit Bool):=λs2=>
 Kac (α:=Bool) (
  if s2<(t0.length:Int)then
   some (decide (s2<(t1.length:Int)))
  else
  some false) λj4=>
 if j4=true then
  (idx t0 s2).bind λx6=>
  (idx t1 s2).bind λx7=>
  (ug x6 x7).bind λx8=>
  if x8=false then
   some (Ex.ret false)
  else
  some (Ex.go (ca .i64 (s2+1)))
 else
 some (Ex.brk ())
def Zh(t0:List GCoverageHole) (t1:List GCoverageHole):Option Bool:=
 if¬(t0.length:Int)=(t1.length:Int)then
  some false
 else
 (da (sq t0 t1) 0).bind λy=>match y with
 |.inr v=>some v
 |.inl _=>
 some true
def Te(k:Int) (rs:List GRule):GLaw:=GLaw.mk [] [] [GScope.mk (Pac #[104,111,117,115,101]) (-1) [GField.mk (Pac #[97]) (GType.mk k 0)] [GField.mk (Pac #[100]) (GType.mk 3 0)] rs]
def Zp(n:ByteArray) (p:Int) (g:List GNode) (v:Int):GRule:=GRule.mk n 0 p 0 (GDateRange.mk 0 109573) g [GNode.mk 3 v] (Pac #[])
def Kt(t0:List GNode):Option GLaw:=some (Te 2 [Zp (Pac #[98,97,115,101]) (-1) t0 5])
def Gu(t0:List GNode):Option GLaw:=Kt t0
def ue  : Option Bool:=
 (Kt ([(GNode.mk 7 0),(GNode.mk 2 18),(GNode.mk 21 0)])).bind λx1=>
 (Ug x1 0 0 1).bind λx2=>
 (Na x1 0 0 1).bind λx3=>
 (Gu ([])).bind λx4=>
 (Na x4 0 0 1).bind λx5=>
 Kac (α:=Bool) (
  if x2.2=0 then
   if x3.2=0 then
    if x5.2=0 then
     if(x5.1.length:Int)=0 then
      (oo x2.1 ([[(-1000000000000),18,19]])).bind λx10=>
      some (!x10)
     else
     some true
    else
    some true
   else
   some true
  else
  some true) λj11=>
 if j11=true then
  some false
 else
 (Zh x3.1 ([(GCoverageHole.mk (-1) (-1) (-1) ([(GValue.mk 2 0 18)]))])).bind λx13=>
 some x13
def Mr(t0:Int):Option Bool:=
 Kac (α:=Bool) (
  if 97<=t0 then
   some (decide (t0<=122))
  else
  some false) λj2=>
 some j2
def Nu(t0:Int):Option Bool:=
 Kac (α:=Bool) (
  if 48<=t0 then
   some (decide (t0<=57))
  else
  some false) λj2=>
 some j2
def Rt(t0:Int):Option Bool:=
 Kac (α:=Bool) (
  (Mr t0).bind λx1=>
  if x1=false then
   (Nu t0).bind λx3=>
   if x3=false then
    some (t0==95)
   else
   some true
  else
  some true) λj5=>
 some j5
def Rf  : Option (List ByteArray):=
 some ([(Pac #[105,102]),(Pac #[116,104,101,110]),(Pac #[101,108,115,101]),(Pac #[111,114]),(Pac #[97,110,100]),(Pac #[110,111,116]),(Pac #[116,114,117,101]),(Pac #[102,97,108,115,101]),(Pac #[116,111,100,97,121]),(Pac #[115,104,97,114,101]),(Pac #[100,105,118]),(Pac #[114,111,117,110,100]),(Pac #[109,105,110]),(Pac #[109,97,120]),(Pac #[112,108,117,115]),(Pac #[109,111,110,116,104,115]),(Pac #[100,97,121,115]),(Pac #[121,101,97,114,115]),(Pac #[121,101,97,114]),(Pac #[109,111,110,116,104]),(Pac #[116,97,98]),(Pac #[98,97,110,100]),(Pac #[99,111,117,110,116]),(Pac #[115,117,109]),(Pac #[97,108,108]),(Pac #[97,110,121]),(Pac #[109,111,115,116]),(Pac #[101,110,117,109]),(Pac #[116,97,98,108,101]),(Pac #[114,111,119]),(Pac #[115,99,111,112,101]),(Pac #[109,101,109,98,101,114,115]),(Pac #[105,110,112,117,116]),(Pac #[100,101,102]),(Pac #[114,117,108,101]),(Pac #[111,102]),(Pac #[111,118,101,114]),(Pac #[112,114,105,111]),(Pac #[102,114,111,109]),(Pac #[116,111]),(Pac #[101,110,100]),(Pac #[119,104,101,110]),(Pac #[105,115]),(Pac #[115,114,99]),(Pac #[98,111,111,108]),(Pac #[105,110,116]),(Pac #[109,111,110,101,121]),(Pac #[114,97,116,101]),(Pac #[100,97,116,101]),(Pac #[100,111,119,110]),(Pac #[117,112]),(Pac #[122,101,114,111]),(Pac #[97,119,97,121]),(Pac #[104,97,108,102]),(Pac #[101,118,101,110])])
def mf(t0:ByteArray):Int->Option (Ex Int Unit Bool):=λs7=>
 if s7<(t0.size:Int)then
  (fu t0 s7).bind λx9=>
  (Rt x9).bind λx10=>
  if x10=false then
   some (Ex.ret false)
  else
  some (Ex.go (ca .i64 (s7+1)))
 else
 some (Ex.brk ())
def lf(t0:ByteArray) (x13:List ByteArray):Int->Option (Ex Int Unit Bool):=λs14=>
 if s14<(x13.length:Int)then
  (idx x13 s14).bind λx16=>
  if x16=t0 then
   some (Ex.ret false)
  else
  some (Ex.go (ca .i64 (s14+1)))
 else
 some (Ex.brk ())
def wb(t0:ByteArray):Option Bool:=
 Kac (α:=Bool) (
  if¬(t0.size:Int)=0 then
   if¬16<(t0.size:Int)then
    (fu t0 0).bind λx3=>
    (Mr x3).bind λx4=>
    some (!x4)
   else
   some true
  else
  some true) λj5=>
 if j5=true then
  some false
 else
 (da (mf t0) 0).bind λy=>match y with
 |.inr v=>some v
 |.inl _=>
 (Rf).bind λx13=>
 (da (lf t0 x13) 0).bind λy=>match y with
 |.inr v=>some v
 |.inl _=>
 some true
def kc(t0:GLaw) (t1:Int) (t2:Int) (t3:ByteArray):Int->Option (Ex Int Unit Bool):=λs1=>
 if s1<(t0.Enums.length:Int)then
  Kac (α:=Bool) (
   if¬1<t1 then
    if s1<t2 then
     (idx t0.Enums s1).bind λx5=>
     some (decide (x5.Name=t3))
    else
    some false
   else
   (idx t0.Enums s1).bind λx6=>
   some (decide (x6.Name=t3))) λj7=>
  if j7=true then
   some (Ex.ret true)
  else
  some (Ex.go (ca .i64 (s1+1)))
 else
 some (Ex.brk ())
def ib(t0:GLaw) (t1:Int) (t2:Int) (t3:ByteArray):Int->Option (Ex Int Unit Bool):=λs10=>
 if s10<(t0.Tables.length:Int)then
  Kac (α:=Bool) (
   if¬2<t1 then
    if t1=2 then
     if s10<t2 then
      (idx t0.Tables s10).bind λx15=>
      some (decide (x15.Name=t3))
     else
     some false
    else
    some false
   else
   (idx t0.Tables s10).bind λx16=>
   some (decide (x16.Name=t3))) λj17=>
  if j17=true then
   some (Ex.ret true)
  else
  some (Ex.go (ca .i64 (s10+1)))
 else
 some (Ex.brk ())
def yb(t0:GLaw) (t1:Int) (t2:Int) (t3:ByteArray):Int->Option (Ex Int Unit Bool):=λs20=>
 if s20<(t0.Scopes.length:Int)then
  Kac (α:=Bool) (
   if t1=3 then
    if s20<t2 then
     (idx t0.Scopes s20).bind λx24=>
     some (decide (x24.Name=t3))
    else
    some false
   else
   some false) λj25=>
  if j25=true then
   some (Ex.ret true)
  else
  some (Ex.go (ca .i64 (s20+1)))
 else
 some (Ex.brk ())
def tc(t0:GLaw) (t1:Int) (t2:Int) (t3:ByteArray):Option Bool:=
 (da (kc t0 t1 t2 t3) 0).bind λy=>match y with
 |.inr v=>some v
 |.inl _=>
 (da (ib t0 t1 t2 t3) 0).bind λy=>match y with
 |.inr v=>some v
 |.inl _=>
 (da (yb t0 t1 t2 t3) 0).bind λy=>match y with
 |.inr v=>some v
 |.inl _=>
 some false
def Ph(t1:Int) (x1:GEnum) (s9:Int) (x11:ByteArray):Int->Option (Ex Int Unit (Ex (Int×Int) Unit GLawError)):=λs14=>
 if s14<s9 then
  (idx x1.Members s14).bind λx16=>
  if x16=x11 then
   some (Ex.ret (Ex.ret (GLawError.mk 7 1 t1 (ca .i64 (100+s9)))))
  else
  some (Ex.go (ca .i64 (s14+1)))
 else
 some (Ex.brk ())
def Qh(t1:Int) (x1:GEnum):(Int×Int)->Option (Ex (Int×Int) Unit GLawError):=λ(s8,s9)=>
 if s9<(x1.Members.length:Int)then
  (idx x1.Members s9).bind λx11=>
  (wb x11).bind λx12=>
  if x12=false then
   some (Ex.ret (GLawError.mk 2 1 t1 (ca .i64 (100+s9))))
  else
  (da (Ph t1 x1 s9 x11) 0).bind λy=>match y with
  |.inr v=>some v
  |.inl _=>
  some (Ex.go ((ca .i64 (100+s9)),(ca .i64 (s9+1))))
 else
 some (Ex.brk ())
def Ml(t0:GLaw) (t1:Int):Option GLawError:=
 (idx t0.Enums t1).bind λx1=>
 (wb x1.Name).bind λx2=>
 if x2=false then
  some (GLawError.mk 2 1 t1 0)
 else
 (tc t0 1 t1 x1.Name).bind λx4=>
 if x4=true then
  some (GLawError.mk 7 1 t1 0)
 else
 if(x1.Members.length:Int)=0 then
  some (GLawError.mk 5 1 t1 0)
 else
 if 16<(x1.Members.length:Int)then
  some (GLawError.mk 4 1 t1 116)
 else
 (da (Qh t1 x1) (0,0)).bind λy=>match y with
 |.inr v=>some v
 |.inl _=>
 some (GLawError.mk 0 0 0 0)
def Rb(t0:GType) (t1:List GEnum):Option Bool:=
 if t0.Kind=6 then
  Kac (α:=Bool) (
   if 0<=t0.Enum then
    some (decide (t0.Enum<(t1.length:Int)))
   else
   some false) λj3=>
  some j3
 else
 Kac (α:=Bool) (
  if 1<=t0.Kind then
   if t0.Kind<=5 then
    some (t0.Enum==0)
   else
   some false
  else
  some false) λj6=>
 some j6
def dj(t0:GDateRange):Option Bool:=
 Kac (α:=Bool) (
  if 0<=t0.From then
   if t0.From<=t0.To then
    some (decide (t0.To<=109573))
   else
   some false
  else
  some false) λj3=>
 some j3
def Ff(t0:GType) (t1:List GEnum):Option (Int×Int):=
 (Rb t0 t1).bind λx1=>
 if x1=false then
  some (0,(-1))
 else
 if t0.Kind=1 then
  some (0,1)
 else
 if t0.Kind=2 then
  some ((-1000000000000),1000000000000)
 else
 if t0.Kind=3 then
  some ((-1000000000000000),1000000000000000)
 else
 if t0.Kind=4 then
  some ((-1000000000),1000000000)
 else
 if t0.Kind=5 then
  some (0,109572)
 else
 (idx t1 t0.Enum).bind λx8=>
 some (0,(ca .i64 ((x8.Members.length:Int)-1)))
def Tt(t0:Int) (t1:GType) (t2:List GEnum):Option Bool:=
 (Ff t1 t2).bind λx1=>
 Kac (α:=Bool) (
  if x1.1<=t0 then
   some (decide (t0<=x1.2))
  else
  some false) λj3=>
 some j3
def Nr(t0:GRow) (t1:GTable) (t2:List GEnum):Option Bool:=
 Kac (α:=Bool) (
  (dj t0.Valid).bind λx1=>
  if x1=true then
   if¬t0.Valid.From=t0.Valid.To then
    some (decide (t0.Hi<=t0.Lo))
   else
   some true
  else
  some true) λj4=>
 if j4=true then
  some true
 else
 Kac (α:=Bool) (
  (Tt t0.Lo t1.Key t2).bind λx6=>
  if x6=true then
   (Tt (ca .i64 (t0.Hi-1)) t1.Key t2).bind λx8=>
   if x8=true then
    (Tt t0.N t1.Value t2).bind λx10=>
    some (!x10)
   else
   some true
  else
  some true) λj11=>
 some j11
def Eo(t0:GDateRange) (t1:GDateRange):Option (GDateRange×Bool):=
 Kac (α:=Bool) (
  (dj t0).bind λx1=>
  if x1=true then
   (dj t1).bind λx3=>
   some (!x3)
  else
  some true) λj4=>
 if j4=true then
  some ((GDateRange.mk 0 0),false)
 else
 if(min t0.To t1.To)<=(max t0.From t1.From)then
  some ((GDateRange.mk 0 0),false)
 else
 some ((GDateRange.mk (max t0.From t1.From) (min t0.To t1.To)),true)
def Wm(t0:GRow) (t1:GRow):Option Bool:=
 (Eo t0.Valid t1.Valid).bind λx1=>
 Kac (α:=Bool) (
  if x1.2=true then
   some (decide ((max t0.Lo t1.Lo)<(min t0.Hi t1.Hi)))
  else
  some false) λj3=>
 some j3
def jj(t0:GTable) (s7:Int) (x9:GRow):Int->Option (Ex Int Unit (Ex Int Unit (Int×Int))):=λs12=>
 if s12<s7 then
  (idx t0.Rows s12).bind λx14=>
  (Wm x14 x9).bind λx15=>
  if x15=true then
   some (Ex.ret (Ex.ret (s7,11)))
  else
  some (Ex.go (ca .i64 (s12+1)))
 else
 some (Ex.brk ())
def kj(t0:GTable) (t1:List GEnum):Int->Option (Ex Int Unit (Int×Int)):=λs7=>
 if s7<(t0.Rows.length:Int)then
  (idx t0.Rows s7).bind λx9=>
  (Nr x9 t0 t1).bind λx10=>
  if x10=true then
   some (Ex.ret (s7,3))
  else
  (da (jj t0 s7 x9) 0).bind λy=>match y with
  |.inr v=>some v
  |.inl _=>
  some (Ex.go (ca .i64 (s7+1)))
 else
 some (Ex.brk ())
def Vm(t0:GTable) (t1:List GEnum):Option (Int×Int):=
 if 64<(t0.Rows.length:Int)then
  some (64,4)
 else
 Kac (α:=Bool) (
  (Rb t0.Key t1).bind λx2=>
  if x2=true then
   (Rb t0.Value t1).bind λx4=>
   some (!x4)
  else
  some true) λj5=>
 if j5=true then
  some ((-1),8)
 else
 (da (kj t0 t1) 0).bind λy=>match y with
 |.inr v=>some v
 |.inl _=>
 some (0,0)
def qk(t0:GLaw) (t1:Int):Option GLawError:=
 (idx t0.Tables t1).bind λx1=>
 (wb x1.Name).bind λx2=>
 if x2=false then
  some (GLawError.mk 2 2 t1 0)
 else
 (tc t0 2 t1 x1.Name).bind λx4=>
 if x4=true then
  some (GLawError.mk 7 2 t1 0)
 else
 (Vm x1 t0.Enums).bind λx6=>
 if x6.2=0 then
  some (GLawError.mk 0 0 0 0)
 else
 Kac (α:=Int) (
  if 0<=x6.1 then
   some (ca .i64 (100+x6.1))
  else
  some 0) λj9=>
 some (GLawError.mk x6.2 2 t1 j9)
def oj(t0:List GField) (t1:Int) (t2:ByteArray):Int->Option (Ex Int Unit Bool):=λs1=>
 Kac (α:=Bool) (
  if s1<t1 then
   some (decide (s1<(t0.length:Int)))
  else
  some false) λj3=>
 if j3=true then
  (idx t0 s1).bind λx5=>
  if x5.Name=t2 then
   some (Ex.ret true)
  else
  some (Ex.go (ca .i64 (s1+1)))
 else
 some (Ex.brk ())
def Rh(t0:List GField) (t1:Int) (t2:ByteArray):Option Bool:=
 (da (oj t0 t1 t2) 0).bind λy=>match y with
 |.inr v=>some v
 |.inl _=>
 some false
def Mg(t0:GLaw) (t1:Int) (x1:GScope):Int->Option (Ex Int Unit GLawError):=λs2=>
 if s2<(x1.Inputs.length:Int)then
  Kac (α:=Int) (
   (idx x1.Inputs s2).bind λx4=>
   (wb x4.Name).bind λx5=>
   if x5=false then
    some 2
   else
   (Rh x1.Inputs s2 x4.Name).bind λx7=>
   if x7=true then
    some 7
   else
   (Rb x4.Type_ t0.Enums).bind λx9=>
   if x9=false then
    some 8
   else
   some 0) λj11=>
  if¬j11=0 then
   some (Ex.ret (GLawError.mk j11 3 t1 (ca .i64 (100+s2))))
  else
  some (Ex.go (ca .i64 (s2+1)))
 else
 some (Ex.brk ())
def Lg(t0:GLaw) (t1:Int) (x1:GScope):Int->Option (Ex Int Unit GLawError):=λs14=>
 if s14<(x1.Defs.length:Int)then
  Kac (α:=Int) (
   (idx x1.Defs s14).bind λx16=>
   (wb x16.Name).bind λx17=>
   if x17=false then
    some 2
   else
   Kac (α:=Bool) (
    (Rh x1.Inputs (x1.Inputs.length:Int) x16.Name).bind λx19=>
    if x19=false then
     (Rh x1.Defs s14 x16.Name).bind λx21=>
     some x21
    else
    some true) λj22=>
   if j22=true then
    some 7
   else
   (Rb x16.Type_ t0.Enums).bind λx24=>
   if x24=false then
    some 8
   else
   some 0) λj26=>
  if¬j26=0 then
   some (Ex.ret (GLawError.mk j26 3 t1 (ca .i64 (200+s14))))
  else
  some (Ex.go (ca .i64 (s14+1)))
 else
 some (Ex.brk ())
def lk(t0:GLaw) (t1:Int):Option GLawError:=
 (idx t0.Scopes t1).bind λx1=>
 (da (Mg t0 t1 x1) 0).bind λy=>match y with
 |.inr v=>some v
 |.inl _=>
 (da (Lg t0 t1 x1) 0).bind λy=>match y with
 |.inr v=>some v
 |.inl _=>
 some (GLawError.mk 0 0 0 0)
def Ms(t0:List GField):((List GType)×Int)->Option (Ex ((List GType)×Int) (List GType) Unit):=λ(s1,s2)=>
 if s2<(t0.length:Int)then
  (idx t0 s2).bind λx4=>
  (app 16 s1 ([x4.Type_])).bind λx5=>
  some (Ex.go (x5,(ca .i64 (s2+1))))
 else
 some (Ex.brk s1)
def nk(t0:List GField):Option (List GType):=
 (da (Ms t0) (([]:List GType),0)).bind λy=>match y with
 |.inr _=>none
 |.inl b8=>
 some b8
def Ai(t0:GLaw) (t1:Int):Option GSignature:=
 Kac (α:=Bool) (
  if¬t1<0 then
   some (decide ((t0.Scopes.length:Int)<=t1))
  else
  some true) λj2=>
 if j2=true then
  some (GSignature.mk ([]) ([]) ([]) ([]) ([]) false)
 else
 (idx t0.Scopes t1).bind λx4=>
 (nk x4.Inputs).bind λx5=>
 (nk x4.Defs).bind λx6=>
 Kac (α:=((List GType)×Bool)) (
  Kac (α:=Bool) (
   if 0<=x4.MemberScope then
    some (decide (x4.MemberScope<(t0.Scopes.length:Int)))
   else
   some false) λj8=>
  if j8=true then
   (idx t0.Scopes x4.MemberScope).bind λx10=>
   (nk x10.Defs).bind λx11=>
   some (x11,true)
  else
  some (([]:List GType),false)) λ(j12,j13)=>
 some (GSignature.mk t0.Enums t0.Tables x5 x6 j12 j13)
def Th(t0:ByteArray):Int->Option (Ex Int Unit Bool):=λs1=>
 if s1<(t0.size:Int)then
  Kac (α:=Bool) (
   (fu t0 s1).bind λx3=>
   if¬x3<32 then
    if¬126<x3 then
     some (x3==34)
    else
    some true
   else
   some true) λj6=>
  if j6=true then
   some (Ex.ret false)
  else
  some (Ex.go (ca .i64 (s1+1)))
 else
 some (Ex.brk ())
def Nl(t0:ByteArray):Option Bool:=
 (da (Th t0) 0).bind λy=>match y with
 |.inr v=>some v
 |.inl _=>
 some (decide ((t0.size:Int)<=64))
def Gk(t0:Int):Option Int:=
 Kac (α:=Bool) (
  if 1<=t0 then
   if¬t0<=9 then
    if 35<=t0 then
     some (decide (t0<=39))
    else
    some false
   else
   some true
  else
  if 35<=t0 then
   some (decide (t0<=39))
  else
  some false) λj5=>
 if j5=true then
  some 0
 else
 Kac (α:=Bool) (
  if t0=10 then
   some true
  else
  if t0=25 then
   some true
  else
  if t0=31 then
   some true
  else
  if t0=32 then
   some true
  else
  if t0=33 then
   some true
  else
  some (t0==34)) λj12=>
 if j12=true then
  some 1
 else
 if t0=26 then
  some 3
 else
 Kac (α:=Bool) (
  if 11<=t0 then
   some (decide (t0<=30))
  else
  some false) λj16=>
 if j16=true then
  some 2
 else
 some (-1)
def Oh(t0:List GNode):((List Int)×(List Int)×Int)->Option (Ex ((List Int)×(List Int)×Int) ((List Int)×(List Int)) ((List Int)×Int×Int)):=λ(s3,s4,s5)=>
 if s5<(t0.length:Int)then
  (idx t0 s5).bind λx7=>
  (Gk x7.Op).bind λx8=>
  if x8<0 then
   some (Ex.ret ([],s5,2))
  else
  if(s4.length:Int)<x8 then
   some (Ex.ret ([],s5,5))
  else
  Kac (α:=((List Int)×Int)) (
   if 0<x8 then
    (idx s4 (ca .i64 ((s4.length:Int)-x8))).bind λx12=>
    (Ws s4 (ca .i64 ((s4.length:Int)-x8))).bind λx13=>
    some (x13,x12)
   else
   some (s4,s5)) λ(j14,j15)=>
  (app 8 j14 ([j15])).bind λx16=>
  (app 8 s3 ([j15])).bind λx17=>
  if 12<(x16.length:Int)then
   some (Ex.ret ([],s5,16))
  else
  some (Ex.go (x17,x16,(ca .i64 (s5+1))))
 else
 some (Ex.brk (s3,s4))
def Eg(t0:List GNode):Option ((List Int)×Int×Int):=
 if 48<(t0.length:Int)then
  some ([],0,4)
 else
 if(t0.length:Int)=0 then
  some ([],0,5)
 else
 (da (Oh t0) (([]:List Int),([]:List Int),0)).bind λy=>match y with
 |.inr v=>some v
 |.inl (b22,b23)=>
 if 1<(b23.length:Int)then
  some ([],(t0.length:Int),4)
 else
 some (b22,0,0)
def Wl(t0:Int):Option Bool:=
 Kac (α:=Bool) (
  if 1<=t0 then
   if¬t0<=8 then
    if 36<=t0 then
     some (decide (t0<=39))
    else
    some false
   else
   some true
  else
  if 36<=t0 then
   some (decide (t0<=39))
  else
  some false) λj5=>
 if j5=true then
  some true
 else
 Kac (α:=Bool) (
  if¬t0=14 then
   if¬t0=15 then
    if¬t0=16 then
     if¬t0=33 then
      some (t0==34)
     else
     some true
    else
    some true
   else
   some true
  else
  some true) λj11=>
 some j11
def xb(t0:Int):Option GType:=
 some (GType.mk t0 0)
def db(t0:GNode) (t1:GSignature):Option Bool:=
 Kac (α:=Bool) (
  if t0.Op=1 then
   some true
  else
  if t0.Op=2 then
   some true
  else
  if t0.Op=3 then
   some true
  else
  if t0.Op=4 then
   some true
  else
  some (t0.Op==5)) λj5=>
 if j5=true then
  (xb t0.Op).bind λx7=>
  (Ff x7 t1.Enums).bind λx8=>
  Kac (α:=Bool) (
   if x8.1<=t0.N then
    some (decide (t0.N<=x8.2))
   else
   some false) λj10=>
  some j10
 else
 Kac (α:=Bool) (
  if t0.Op=14 then
   some true
  else
  if t0.Op=15 then
   some true
  else
  some (t0.Op==16)) λj13=>
 if j13=true then
  Kac (α:=Bool) (
   if 0<=t0.N then
    some (decide (t0.N<=5))
   else
   some false) λj16=>
  some j16
 else
 if t0.Op=34 then
  Kac (α:=Bool) (
   if 0<=t0.N then
    some (decide ((zad t0.N 8)<=5))
   else
   some false) λj19=>
  some j19
 else
 if t0.Op=6 then
  some (decide (0<=t0.N))
 else
 some true
def ic(t0:GNode) (t1:GSignature):Option Bool:=
 if t0.Op=6 then
  Kac (α:=Bool) (
   if(ca .i64 (sad t0.N 16))<(t1.Enums.length:Int)then
    (idx t1.Enums (ca .i64 (sad t0.N 16))).bind λx3=>
    some (decide ((zad t0.N 16)<(x3.Members.length:Int)))
   else
   some false) λj4=>
  some j4
 else
 if t0.Op=7 then
  Kac (α:=Bool) (
   if 0<=t0.N then
    some (decide (t0.N<(t1.Inputs.length:Int)))
   else
   some false) λj7=>
  some j7
 else
 if t0.Op=8 then
  Kac (α:=Bool) (
   if 0<=t0.N then
    some (decide (t0.N<(t1.Defs.length:Int)))
   else
   some false) λj10=>
  some j10
 else
 if t0.Op=33 then
  Kac (α:=Bool) (
   if 0<=t0.N then
    some (decide (t0.N<(t1.Tables.length:Int)))
   else
   some false) λj13=>
  some j13
 else
 if t0.Op=34 then
  some (decide ((ca .i64 (sad t0.N 8))<(t1.Tables.length:Int)))
 else
 if t0.Op=35 then
  some t1.HasMembers
 else
 Kac (α:=Bool) (
  if t0.Op=36 then
   some true
  else
  if t0.Op=37 then
   some true
  else
  if t0.Op=38 then
   some true
  else
  some (t0.Op==39)) λj19=>
 if j19=true then
  Kac (α:=Bool) (
   if t1.HasMembers=true then
    if 0<=t0.N then
     some (decide (t0.N<(t1.MemberDefs.length:Int)))
    else
    some false
   else
   some false) λj23=>
  some j23
 else
 some true
def ij(t0:Int):Option Bool:=
 Kac (α:=Bool) (
  if¬t0=2 then
   if¬t0=3 then
    some (t0==4)
   else
   some true
  else
  some true) λj3=>
 some j3
def Yg(t0:Int):Option Bool:=
 Kac (α:=Bool) (
  (ij t0).bind λx1=>
  if x1=false then
   some (t0==5)
  else
  some true) λj3=>
 some j3
def Ej(t0:GNode) (t1:GSignature):Option (GType×Bool):=
 Kac (α:=(Int×Int)) (
  if t0.Op=6 then
   some (6,(ca .i64 (sad t0.N 16)))
  else
  if t0.Op=7 then
   (idx t1.Inputs t0.N).bind λx3=>
   some (x3.Kind,x3.Enum)
  else
  if t0.Op=8 then
   (idx t1.Defs t0.N).bind λx5=>
   some (x5.Kind,x5.Enum)
  else
  if t0.Op=9 then
   (xb 5).bind λx7=>
   some (x7.Kind,x7.Enum)
  else
  if t0.Op=35 then
   (xb 2).bind λx9=>
   some (x9.Kind,x9.Enum)
  else
  Kac (α:=Bool) (
   if t0.Op=36 then
    some true
   else
   if t0.Op=37 then
    some true
   else
   if t0.Op=38 then
    some true
   else
   some (t0.Op==39)) λj13=>
  if j13=true then
   (idx t1.MemberDefs t0.N).bind λx15=>
   some (x15.Kind,x15.Enum)
  else
  (xb t0.Op).bind λx16=>
  some (x16.Kind,x16.Enum)) λ(j17,j18)=>
 (Rb (GType.mk j17 j18) t1.Enums).bind λx19=>
 Kac (α:=Bool) (
  if t0.Op=36 then
   if x19=true then
    if¬j17=2 then
     some (j17==3)
    else
    some true
   else
   some false
  else
  Kac (α:=Bool) (
   if t0.Op=37 then
    some true
   else
   some (t0.Op==38)) λj24=>
  if j24=true then
   if x19=true then
    some (j17==1)
   else
   some false
  else
  if t0.Op=39 then
   if x19=true then
    (Yg j17).bind λx29=>
    some x29
   else
   some false
  else
  some x19) λj30=>
 some ((GType.mk j17 j18),j30)
def kl(t0:GNode) (t1:GType) (t2:GSignature):Option (GType×Bool):=
 if t0.Op=10 then
  (ij t1.Kind).bind λx2=>
  some (t1,x2)
 else
 if t0.Op=25 then
  some (t1,(t1.Kind==1))
 else
 Kac (α:=Bool) (
  if t0.Op=31 then
   some true
  else
  some (t0.Op==32)) λj5=>
 if j5=true then
  (xb 2).bind λx7=>
  some (x7,(t1.Kind==5))
 else
 if t0.Op=33 then
  (idx t2.Tables t0.N).bind λx9=>
  Kac (α:=Bool) (
   (Rb x9.Key t2.Enums).bind λx10=>
   if x10=true then
    (Rb x9.Value t2.Enums).bind λx12=>
    if x12=true then
     some ((t1.Kind==x9.Key.Kind)&&(t1.Enum==x9.Key.Enum))
    else
    some false
   else
   some false) λj14=>
  some (x9.Value,j14)
 else
 (idx t2.Tables (ca .i64 (sad t0.N 8))).bind λx15=>
 Kac (α:=Bool) (
  if t1.Kind=3 then
   (xb 3).bind λx17=>
   if x15.Key.Kind=x17.Kind/\x15.Key.Enum=x17.Enum then
    (xb 4).bind λx19=>
    some ((x15.Value.Kind==x19.Kind)&&(x15.Value.Enum==x19.Enum))
   else
   some false
  else
  some false) λj20=>
 some (t1,j20)
def Vp(t0:Int) (t1:Int) (t2:Int):Option (GType×Bool):=
 if t0=13 then
  Kac (α:=(Int×Int×Bool)) (
   (xb t1).bind λx2=>
   if t2=2 then
    if¬t1=2 then
     some (x2.Kind,x2.Enum,(t1==3))
    else
    some (x2.Kind,x2.Enum,true)
   else
   some (x2.Kind,x2.Enum,false)) λ(j5,j6,j7)=>
  some ((GType.mk j5 j6),j7)
 else
 if t0=14 then
  Kac (α:=(Int×Int×Bool)) (
   (xb t1).bind λx9=>
   if t2=4 then
    if¬t1=3 then
     some (x9.Kind,x9.Enum,(t1==4))
    else
    some (x9.Kind,x9.Enum,true)
   else
   some (x9.Kind,x9.Enum,false)) λ(j12,j13,j14)=>
  some ((GType.mk j12 j13),j14)
 else
 Kac (α:=Bool) (
  if t1=3 then
   some (t2==3)
  else
  some false) λj16=>
 if j16=true then
  (xb 4).bind λx18=>
  some (x18,true)
 else
 Kac (α:=(Int×Int×Bool)) (
  (xb t1).bind λx19=>
  if t2=2 then
   if¬t1=2 then
    some (x19.Kind,x19.Enum,(t1==3))
   else
   some (x19.Kind,x19.Enum,true)
  else
  some (x19.Kind,x19.Enum,false)) λ(j22,j23,j24)=>
 some ((GType.mk j22 j23),j24)
def fj(t0:Int) (t1:GType) (t2:GType):Option (GType×Bool):=
 Kac (α:=Bool) (
  if t0=11 then
   some true
  else
  some (t0==12)) λj2=>
 if j2=true then
  Kac (α:=Bool) (
   if t1.Kind=t2.Kind/\t1.Enum=t2.Enum then
    (ij t1.Kind).bind λx5=>
    some x5
   else
   some false) λj6=>
  some (t1,j6)
 else
 Kac (α:=Bool) (
  if t0=13 then
   some true
  else
  if t0=14 then
   some true
  else
  some (t0==15)) λj9=>
 if j9=true then
  (Vp t0 t1.Kind t2.Kind).bind λx11=>
  some (x11.1,x11.2)
 else
 if t0=16 then
  Kac (α:=Bool) (
   if t1.Kind=3 then
    some (t2.Kind==3)
   else
   some false) λj14=>
  some (t1,j14)
 else
 Kac (α:=Bool) (
  if t0=17 then
   some true
  else
  some (t0==18)) λj16=>
 if j16=true then
  Kac (α:=Bool) (
   if t1.Kind=t2.Kind/\t1.Enum=t2.Enum then
    (Yg t1.Kind).bind λx19=>
    some x19
   else
   some false) λj20=>
  some (t1,j20)
 else
 Kac (α:=Bool) (
  if t0=19 then
   some true
  else
  some (t0==20)) λj22=>
 if j22=true then
  (xb 1).bind λx24=>
  some (x24,((t1.Kind==t2.Kind)&&(t1.Enum==t2.Enum)))
 else
 Kac (α:=Bool) (
  if t0=21 then
   some true
  else
  some (t0==22)) λj26=>
 if j26=true then
  Kac (α:=(Int×Int×Bool)) (
   (xb 1).bind λx28=>
   if t1.Kind=t2.Kind/\t1.Enum=t2.Enum then
    (Yg t1.Kind).bind λx30=>
    some (x28.Kind,x28.Enum,x30)
   else
   some (x28.Kind,x28.Enum,false)) λ(j31,j32,j33)=>
  some ((GType.mk j31 j32),j33)
 else
 Kac (α:=Bool) (
  if t0=23 then
   some true
  else
  some (t0==24)) λj35=>
 if j35=true then
  Kac (α:=Bool) (
   if t1.Kind=1 then
    some (t2.Kind==1)
   else
   some false) λj38=>
  some (t1,j38)
 else
 Kac (α:=Bool) (
  if t0=27 then
   some true
  else
  some (t0==28)) λj40=>
 if j40=true then
  Kac (α:=Bool) (
   if t1.Kind=5 then
    some (t2.Kind==2)
   else
   some false) λj43=>
  some (t1,j43)
 else
 Kac (α:=(Int×Int×Bool)) (
  (xb 2).bind λx44=>
  if t1.Kind=5 then
   some (x44.Kind,x44.Enum,(t2.Kind==5))
  else
  some (x44.Kind,x44.Enum,false)) λ(j46,j47,j48)=>
 some ((GType.mk j46 j47),j48)
def Ta(t0:GNode) (t1:List GType) (t2:GSignature):Option (GType×Int):=
 Kac (α:=Bool) (
  if¬t0.N=0 then
   (Wl t0.Op).bind λx2=>
   some (!x2)
  else
  some false) λj3=>
 if j3=true then
  some ((GType.mk 0 0),2)
 else
 (db t0 t2).bind λx5=>
 if x5=false then
  some ((GType.mk 0 0),3)
 else
 (ic t0 t2).bind λx7=>
 if x7=false then
  some ((GType.mk 0 0),6)
 else
 Kac (α:=(Int×Int×Bool)) (
  if(t1.length:Int)=0 then
   (Ej t0 t2).bind λx10=>
   some (x10.1.Kind,x10.1.Enum,x10.2)
  else
  if(t1.length:Int)=1 then
   (idx t1 0).bind λx12=>
   (kl t0 x12 t2).bind λx13=>
   some (x13.1.Kind,x13.1.Enum,x13.2)
  else
  if(t1.length:Int)=2 then
   (idx t1 0).bind λx15=>
   (idx t1 1).bind λx16=>
   (fj t0.Op x15 x16).bind λx17=>
   some (x17.1.Kind,x17.1.Enum,x17.2)
  else
  (idx t1 1).bind λx18=>
  (idx t1 0).bind λx19=>
  if x19.Kind=1 then
   (idx t1 2).bind λx21=>
   some (x18.Kind,x18.Enum,((x18.Kind==x21.Kind)&&(x18.Enum==x21.Enum)))
  else
  some (x18.Kind,x18.Enum,false)) λ(j22,j23,j24)=>
 if j24=false then
  some ((GType.mk 0 0),8)
 else
 some ((GType.mk j22 j23),0)
def Kl(t0:List GNode) (t1:GSignature):((List GType)×Int)->Option (Ex ((List GType)×Int) (List GType) (GType×Int×Int)):=λ(s3,s4)=>
 if s4<(t0.length:Int)then
  (idx t0 s4).bind λx6=>
  (Gk x6.Op).bind λx7=>
  (dE s3 (ca .i64 ((s3.length:Int)-x7))).bind λx8=>
  (Ta x6 x8 t1).bind λx9=>
  if¬x9.2=0 then
   some (Ex.ret ((GType.mk 0 0),s4,x9.2))
  else
  (Ws s3 (ca .i64 ((s3.length:Int)-x7))).bind λx11=>
  (app 16 x11 ([x9.1])).bind λx12=>
  some (Ex.go (x12,(ca .i64 (s4+1))))
 else
 some (Ex.brk s3)
def xn(t0:List GNode) (t1:GSignature):Option (GType×Int×Int):=
 (Eg t0).bind λx1=>
 if¬x1.2.2=0 then
  some ((GType.mk 0 0),x1.2.1,x1.2.2)
 else
 (da (Kl t0 t1) (([]:List GType),0)).bind λy=>match y with
 |.inr v=>some v
 |.inl b15=>
 (idx b15 0).bind λx16=>
 some (x16,0,0)
def Bi(t0:List GNode) (t1:GSignature) (t2:GType):Option Int:=
 (xn t0 t1).bind λx1=>
 if¬x1.2.2=0 then
  some x1.2.2
 else
 if¬(x1.1.Kind=t2.Kind/\x1.1.Enum=t2.Enum)then
  some 8
 else
 some 0
def Uh(t2:Int) (x1:GScope) (x2:GRule):(Int×Int)->Option (Ex (Int×Int) Int Int):=λ(s5,s6)=>
 if s6<t2 then
  Kac (α:=(Int⊕(Ex (Int×Int) Int Int))) (
   (idx x1.Rules s6).bind λx8=>
   if x8.Name=x2.Name then
    some (Sum.inr (Ex.ret 7))
   else
   if x8.Def=x2.Def then
    some (Sum.inl (ca .i64 (s5+1)))
   else
   some (Sum.inl s5)) λz=>match z with
  |.inr v=>some v
  |.inl j11=>
  some (Ex.go (j11,(ca .i64 (s6+1))))
 else
 some (Ex.brk s5)
def Ol(t0:GLaw) (t1:Int) (t2:Int):Option Int:=
 (idx t0.Scopes t1).bind λx1=>
 (idx x1.Rules t2).bind λx2=>
 (wb x2.Name).bind λx3=>
 if x3=false then
  some 2
 else
 (da (Uh t2 x1 x2) (0,0)).bind λy=>match y with
 |.inr v=>some v
 |.inl b14=>
 Kac (α:=Bool) (
  if¬x2.Def<0 then
   some (decide ((x1.Defs.length:Int)<=x2.Def))
  else
  some true) λj16=>
 if j16=true then
  some 6
 else
 Kac (α:=Bool) (
  if¬x2.Parent=(-1)then
   if¬x2.Parent<0 then
    if¬t2<=x2.Parent then
     (idx x1.Rules x2.Parent).bind λx21=>
     some (x21.Def !=x2.Def)
    else
    some true
   else
   some true
  else
  some false) λj22=>
 if j22=true then
  some 9
 else
 Kac (α:=Bool) (
  if¬x2.Priority<0 then
   if¬9<x2.Priority then
    (dj x2.Valid).bind λx26=>
    if x26=true then
     some (x2.Valid.From==x2.Valid.To)
    else
    some true
   else
   some true
  else
  some true) λj28=>
 if j28=true then
  some 3
 else
 if 8<=b14 then
  some 4
 else
 (Nl x2.Source).bind λx31=>
 if x31=false then
  some 2
 else
 (Ai t0 t1).bind λx33=>
 Kac (α:=(Unit⊕Int)) (
  if 0<(x2.Guard.length:Int)then
   (Bi x2.Guard x33 (GType.mk 1 0)).bind λx35=>
   if¬x35=0 then
    some (Sum.inr x35)
   else
   some (Sum.inl ())
  else
  some (Sum.inl ())) λz=>match z with
 |.inr v=>some v
 |.inl _=>
 (idx x1.Defs x2.Def).bind λx37=>
 (Bi x2.Value x33 x37.Type_).bind λx38=>
 some x38
def Nw(t0:List Int) (t1:Int):((List Int)×Bool×Int)->Option (Ex ((List Int)×Bool×Int) ((List Int)×Bool) Unit):=λ(s1,s2,s3)=>
 if s3<(t0.length:Int)then
  Kac (α:=((List Int)×Bool)) (
   Kac (α:=Bool) (
    if s2=false then
     (idx t0 s3).bind λx6=>
     some (decide (t1<=x6))
    else
    some false) λj7=>
   if j7=true then
    Kac (α:=(List Int)) (
     (idx t0 s3).bind λx9=>
     if t1<x9 then
      (app 8 s1 ([t1])).bind λx11=>
      some x11
     else
     some s1) λj12=>
    some (j12,true)
   else
   some (s1,s2)) λ(j13,j14)=>
  (idx t0 s3).bind λx15=>
  (app 8 j13 ([x15])).bind λx16=>
  some (Ex.go (x16,j14,(ca .i64 (s3+1))))
 else
 some (Ex.brk (s1,s2))
def ql(t0:List Int) (t1:Int):Option (List Int):=
 (da (Nw t0 t1) (([]:List Int),false,0)).bind λy=>match y with
 |.inr _=>none
 |.inl (b20,b21)=>
 Kac (α:=(List Int)) (
  if b21=false then
   (app 8 b20 ([t1])).bind λx23=>
   some x23
  else
  some b20) λj24=>
 some j24
def Wt(t0:GScope) (t1:Int):Option Bool:=
 Kac (α:=Bool) (
  if 0<=t1 then
   some (decide (t1<(t0.Defs.length:Int)))
  else
  some false) λj2=>
 some j2
def Ll(t0:List Int) (t1:Int):((List Int)×Bool×Int)->Option (Ex ((List Int)×Bool×Int) ((List Int)×Bool) Unit):=λ(s1,s2,s3)=>
 if s3<(t0.length:Int)then
  Kac (α:=((List Int)×Bool)) (
   Kac (α:=Bool) (
    if s2=false then
     (idx t0 s3).bind λx6=>
     some (decide (t1<=x6))
    else
    some false) λj7=>
   if j7=true then
    Kac (α:=(List Int)) (
     (idx t0 s3).bind λx9=>
     if t1<x9 then
      (app 8 s1 ([t1])).bind λx11=>
      some x11
     else
     some s1) λj12=>
    some (j12,true)
   else
   some (s1,s2)) λ(j13,j14)=>
  (idx t0 s3).bind λx15=>
  (app 8 j13 ([x15])).bind λx16=>
  some (Ex.go (x16,j14,(ca .i64 (s3+1))))
 else
 some (Ex.brk (s1,s2))
def il(t0:List Int) (t1:Int):Option (List Int):=
 (da (Ll t0 t1) (([]:List Int),false,0)).bind λy=>match y with
 |.inr _=>none
 |.inl (b20,b21)=>
 Kac (α:=(List Int)) (
  if b21=false then
   (app 8 b20 ([t1])).bind λx23=>
   some x23
  else
  some b20) λj24=>
 some j24
def Kg(t0:List GNode):((List Int)×(List Int)×(List Int)×Int)->Option (Ex ((List Int)×(List Int)×(List Int)×Int) ((List Int)×(List Int)×(List Int)) Unit):=λ(s1,s2,s3,s4)=>
 if s4<(t0.length:Int)then
  Kac (α:=((List Int)×(List Int)×(List Int))) (
   (idx t0 s4).bind λx6=>
   Kac (α:=(List Int)) (
    if x6.Op=7 then
     (il s1 x6.N).bind λx8=>
     some x8
    else
    some s1) λj9=>
   Kac (α:=(List Int)) (
    if x6.Op=8 then
     (il s2 x6.N).bind λx11=>
     some x11
    else
    some s2) λj12=>
   Kac (α:=Bool) (
    if 36<=x6.Op then
     some (decide (x6.Op<=39))
    else
    some false) λj14=>
   if j14=true then
    (il s3 x6.N).bind λx16=>
    some (j9,j12,x16)
   else
   some (j9,j12,s3)) λ(j17,j18,j19)=>
  some (Ex.go (j17,j18,j19,(ca .i64 (s4+1))))
 else
 some (Ex.brk (s1,s2,s3))
def kh(t0:List GNode):Option ((List Int)×(List Int)×(List Int)):=
 (da (Kg t0) (([]:List Int),([]:List Int),([]:List Int),0)).bind λy=>match y with
 |.inr _=>none
 |.inl (b24,b25,b26)=>
 some (b24,b25,b26)
def Bn(t0:GScope) (x8:((List Int)×(List Int)×(List Int))):((List Int)×Int)->Option (Ex ((List Int)×Int) (List Int) Unit):=λ(s10,s11)=>
 if s11<(x8.2.1.length:Int)then
  Kac (α:=(List Int)) (
   (idx x8.2.1 s11).bind λx13=>
   (Wt t0 x13).bind λx14=>
   if x14=true then
    (ql s10 x13).bind λx16=>
    some x16
   else
   some s10) λj17=>
  some (Ex.go (j17,(ca .i64 (s11+1))))
 else
 some (Ex.brk s10)
def An(t0:GScope) (x9:((List Int)×(List Int)×(List Int))):((List Int)×Int)->Option (Ex ((List Int)×Int) (List Int) Unit):=λ(s21,s22)=>
 if s22<(x9.2.1.length:Int)then
  Kac (α:=(List Int)) (
   (idx x9.2.1 s22).bind λx24=>
   (Wt t0 x24).bind λx25=>
   if x25=true then
    (ql s21 x24).bind λx27=>
    some x27
   else
   some s21) λj28=>
  some (Ex.go (j28,(ca .i64 (s22+1))))
 else
 some (Ex.brk s21)
def gk(t0:GScope) (t1:Int):((List Int)×Int)->Option (Ex ((List Int)×Int) (List Int) Unit):=λ(s3,s4)=>
 if s4<(t0.Rules.length:Int)then
  Kac (α:=(List Int)) (
   (idx t0.Rules s4).bind λx6=>
   if¬x6.Def=t1 then
    some s3
   else
   (kh x6.Guard).bind λx8=>
   (kh x6.Value).bind λx9=>
   (da (Bn t0 x8) (s3,0)).bind λy=>match y with
   |.inr _=>none
   |.inl b20=>
   (da (An t0 x9) (b20,0)).bind λy=>match y with
   |.inr _=>none
   |.inl b31=>
   some b31) λj32=>
  some (Ex.go (j32,(ca .i64 (s4+1))))
 else
 some (Ex.brk s3)
def yn(t0:GScope) (t1:Int):Option (List Int):=
 (Wt t0 t1).bind λx1=>
 if x1=false then
  some ([])
 else
 (da (gk t0 t1) (([]:List Int),0)).bind λy=>match y with
 |.inr _=>none
 |.inl b35=>
 some b35
def Sf(x9:List Int):((List Int)×Int)->Option (Ex ((List Int)×Int) (List Int) Unit):=λ(s10,s11)=>
 if s11<(x9.length:Int)then
  (idx x9 s11).bind λx13=>
  (ql s10 x13).bind λx14=>
  some (Ex.go (x14,(ca .i64 (s11+1))))
 else
 some (Ex.brk s10)
def Tf(t0:GScope) (s2:List Int):((List Int)×Int)->Option (Ex ((List Int)×Int) (List Int) Unit):=λ(s5,s6)=>
 if s6<(s2.length:Int)then
  (idx s2 s6).bind λx8=>
  (yn t0 x8).bind λx9=>
  (da (Sf x9) (s5,0)).bind λy=>match y with
  |.inr _=>none
  |.inl b17=>
  some (Ex.go (b17,(ca .i64 (s6+1))))
 else
 some (Ex.brk s5)
def Uf(t0:GScope):((List Int)×Int)->Option (Ex ((List Int)×Int) (List Int) Unit):=λ(s2,s3)=>
 if s3<(t0.Defs.length:Int)then
  (da (Tf t0 s2) (s2,0)).bind λy=>match y with
  |.inr _=>none
  |.inl b20=>
  some (Ex.go (b20,(ca .i64 (s3+1))))
 else
 some (Ex.brk s2)
def ik(t0:GScope) (t1:Int):Option (List Int):=
 (yn t0 t1).bind λx1=>
 (da (Uf t0) (x1,0)).bind λy=>match y with
 |.inr _=>none
 |.inl b23=>
 some b23
def Wf(t0:GLaw) (t1:Int) (x1:GScope):Int->Option (Ex Int Unit GLawError):=λs16=>
 if s16<(x1.Rules.length:Int)then
  (Ol t0 t1 s16).bind λx18=>
  if¬x18=0 then
   some (Ex.ret (GLawError.mk x18 3 t1 (ca .i64 (300+s16))))
  else
  some (Ex.go (ca .i64 (s16+1)))
 else
 some (Ex.brk ())
def Ng(t1:Int) (s21:Int) (x23:List Int):Int->Option (Ex Int Unit (Ex Int Unit GLawError)):=λs24=>
 if s24<(x23.length:Int)then
  (idx x23 s24).bind λx26=>
  if x26=s21 then
   some (Ex.ret (Ex.ret (GLawError.mk 9 3 t1 (ca .i64 (200+s21)))))
  else
  some (Ex.go (ca .i64 (s24+1)))
 else
 some (Ex.brk ())
def Vf(t1:Int) (x1:GScope):Int->Option (Ex Int Unit GLawError):=λs21=>
 if s21<(x1.Defs.length:Int)then
  (ik x1 s21).bind λx23=>
  (da (Ng t1 s21 x23) 0).bind λy=>match y with
  |.inr v=>some v
  |.inl _=>
  some (Ex.go (ca .i64 (s21+1)))
 else
 some (Ex.brk ())
def pk(t0:GLaw) (t1:Int):Option GLawError:=
 (idx t0.Scopes t1).bind λx1=>
 (wb x1.Name).bind λx2=>
 if x2=false then
  some (GLawError.mk 2 3 t1 0)
 else
 (tc t0 3 t1 x1.Name).bind λx4=>
 if x4=true then
  some (GLawError.mk 7 3 t1 0)
 else
 Kac (α:=Bool) (
  if¬x1.MemberScope=(-1)then
   if¬x1.MemberScope<0 then
    if¬t1<=x1.MemberScope then
     (idx t0.Scopes x1.MemberScope).bind λx9=>
     some (x9.MemberScope !=(-1))
    else
    some true
   else
   some true
  else
  some false) λj10=>
 if j10=true then
  some (GLawError.mk 6 3 t1 0)
 else
 if 12<(x1.Inputs.length:Int)then
  some (GLawError.mk 4 3 t1 112)
 else
 if 12<(x1.Defs.length:Int)then
  some (GLawError.mk 4 3 t1 212)
 else
 (lk t0 t1).bind λx14=>
 if¬x14.Code=0 then
  some x14
 else
 (da (Wf t0 t1 x1) 0).bind λy=>match y with
 |.inr v=>some v
 |.inl _=>
 (da (Vf t1 x1) 0).bind λy=>match y with
 |.inr v=>some v
 |.inl _=>
 some (GLawError.mk 0 0 0 0)
def nj(t0:GLaw):Int->Option (Ex Int Unit GLawError):=λs2=>
 if s2<(t0.Enums.length:Int)then
  (Ml t0 s2).bind λx4=>
  if¬x4.Code=0 then
   some (Ex.ret x4)
  else
  some (Ex.go (ca .i64 (s2+1)))
 else
 some (Ex.brk ())
def mj(t0:GLaw):Int->Option (Ex Int Unit GLawError):=λs8=>
 if s8<(t0.Tables.length:Int)then
  (qk t0 s8).bind λx10=>
  if¬x10.Code=0 then
   some (Ex.ret x10)
  else
  some (Ex.go (ca .i64 (s8+1)))
 else
 some (Ex.brk ())
def lj(t0:GLaw):Int->Option (Ex Int Unit GLawError):=λs14=>
 if s14<(t0.Scopes.length:Int)then
  (pk t0 s14).bind λx16=>
  if¬x16.Code=0 then
   some (Ex.ret x16)
  else
  some (Ex.go (ca .i64 (s14+1)))
 else
 some (Ex.brk ())
def Xm(t0:GLaw):Option GLawError:=
 if 8<(t0.Enums.length:Int)then
  some (GLawError.mk 4 1 8 0)
 else
 (da (nj t0) 0).bind λy=>match y with
 |.inr v=>some v
 |.inl _=>
 if 8<(t0.Tables.length:Int)then
  some (GLawError.mk 4 2 8 0)
 else
 (da (mj t0) 0).bind λy=>match y with
 |.inr v=>some v
 |.inl _=>
 if 4<(t0.Scopes.length:Int)then
  some (GLawError.mk 4 3 4 0)
 else
 (da (lj t0) 0).bind λy=>match y with
 |.inr v=>some v
 |.inl _=>
 some (GLawError.mk 0 0 0 0)
def Nh(t0:GDateRange) (t1:Int):Option Bool:=
 Kac (α:=Bool) (
  (dj t0).bind λx1=>
  if x1=true then
   if t0.From<=t1 then
    some (decide (t1<t0.To))
   else
   some false
  else
  some false) λj4=>
 some j4
def fk(t0:GScope) (t1:Int) (t2:Int):((List Int)×Int)->Option (Ex ((List Int)×Int) (List Int) Unit):=λ(s1,s2)=>
 if s2<(t0.Rules.length:Int)then
  Kac (α:=(List Int)) (
   Kac (α:=Bool) (
    (idx t0.Rules s2).bind λx4=>
    if x4.Def=t1 then
     (Nh x4.Valid t2).bind λx6=>
     some x6
    else
    some false) λj7=>
   if j7=true then
    (app 8 s1 ([s2])).bind λx9=>
    some x9
   else
   some s1) λj10=>
  some (Ex.go (j10,(ca .i64 (s2+1))))
 else
 some (Ex.brk s1)
def Fj(t0:GScope) (t1:Int) (t2:Int):Option (List Int):=
 (da (fk t0 t1 t2) (([]:List Int),0)).bind λy=>match y with
 |.inr _=>none
 |.inl b13=>
 some b13
def Bs(t0:GScope) (x1:List Int):((List (List GNode))×Int)->Option (Ex ((List (List GNode))×Int) (List (List GNode)) Unit):=λ(s2,s3)=>
 if s3<(x1.length:Int)then
  Kac (α:=(List (List GNode))) (
   (idx x1 s3).bind λx5=>
   (idx t0.Rules x5).bind λx6=>
   if 0<(x6.Guard.length:Int)then
    (app 24 s2 ([x6.Guard])).bind λx8=>
    some x8
   else
   some s2) λj9=>
  some (Ex.go (j9,(ca .i64 (s3+1))))
 else
 some (Ex.brk s2)
def Wp(t0:GScope) (t1:Int) (t2:Int):Option (List (List GNode)):=
 (Fj t0 t1 t2).bind λx1=>
 (da (Bs t0 x1) (([]:List (List GNode)),0)).bind λy=>match y with
 |.inr _=>none
 |.inl b12=>
 some b12
def lh(t0:Int):Option Bool:=
 Kac (α:=Bool) (
  if 19<=t0 then
   some (decide (t0<=22))
  else
  some false) λj2=>
 some j2
def Hj(t0:Int):Option Bool:=
 Kac (α:=Bool) (
  if 2<=t0 then
   some (decide (t0<=6))
  else
  some false) λj2=>
 some j2
def Tp(x1:((List Int)×Int×Int)):((List Int)×Int×Int)->Option (Ex ((List Int)×Int×Int) (List Int) Unit):=λ(s9,s10,s11)=>
 if 0<=s11 then
  (idx s9 s11).bind λx13=>
  (put s9 s11 s10).bind λx14=>
  (idx x1.1 s10).bind λx15=>
  some (Ex.go (x14,(ca .i64 (x15-1)),(ca .i64 (s11-1))))
 else
 some (Ex.brk s9)
def ck(t0:List GNode) (t1:Int):Option (List Int):=
 (Eg t0).bind λx1=>
 Kac (α:=Bool) (
  if x1.2.2=0 then
   if¬t1<0 then
    some (decide ((t0.length:Int)<=t1))
   else
   some true
  else
  some true) λj4=>
 if j4=true then
  some ([])
 else
 (idx t0 t1).bind λx6=>
 (Gk x6.Op).bind λx7=>
 (Ww 8 0 x7 x7).bind λx8=>
 (da (Tp x1) (x8,(ca .i64 (t1-1)),(ca .i64 (x7-1)))).bind λy=>match y with
 |.inr _=>none
 |.inl b19=>
 some b19
def Dn(t0:List GNode) (t1:Int):Option (GNode×GNode×Bool):=
 (ck t0 t1).bind λx1=>
 Kac (α:=Bool) (
  (idx t0 t1).bind λx2=>
  (lh x2.Op).bind λx3=>
  if x3=true then
   some ((x1.length:Int) !=2)
  else
  some true) λj5=>
 if j5=true then
  some ((GNode.mk 0 0),(GNode.mk 0 0),false)
 else
 (idx x1 0).bind λx7=>
 (idx t0 x7).bind λx8=>
 (idx x1 1).bind λx9=>
 (idx t0 x9).bind λx10=>
 Kac (α:=Bool) (
  if x8.Op=7 then
   (Hj x10.Op).bind λx12=>
   some x12
  else
  some false) λj13=>
 if j13=true then
  some (x8,x10,true)
 else
 Kac (α:=Bool) (
  if x10.Op=7 then
   (Hj x8.Op).bind λx16=>
   some x16
  else
  some false) λj17=>
 if j17=true then
  some (x10,x8,true)
 else
 some ((GNode.mk 0 0),(GNode.mk 0 0),false)
def Ql(t0:List GNode):Int->Option (Ex Int Unit Bool):=λs5=>
 if s5<(t0.length:Int)then
  Kac (α:=(Unit⊕(Ex Int Unit Bool))) (
   (idx t0 s5).bind λx7=>
   (lh x7.Op).bind λx8=>
   if x8=true then
    (Dn t0 s5).bind λx10=>
    if x10.2.2=false then
     some (Sum.inr (Ex.ret false))
    else
    some (Sum.inl ())
   else
   Kac (α:=Bool) (
    if¬x7.Op=1 then
     if¬x7.Op=23 then
      if¬x7.Op=24 then
       if¬x7.Op=25 then
        if¬x7.Op=7 then
         (Hj x7.Op).bind λx17=>
         some (!x17)
        else
        some false
       else
       some false
      else
      some false
     else
     some false
    else
    some false) λj18=>
   if j18=true then
    some (Sum.inr (Ex.ret false))
   else
   some (Sum.inl ())) λz=>match z with
  |.inr v=>some v
  |.inl _=>
  some (Ex.go (ca .i64 (s5+1)))
 else
 some (Ex.brk ())
def Cn(t0:List GNode) (t1:GSignature):Option Bool:=
 (xn t0 t1).bind λx1=>
 Kac (α:=Bool) (
  if x1.2.2=0 then
   some (!((x1.1.Kind==1)&&(x1.1.Enum==0)))
  else
  some true) λj3=>
 if j3=true then
  some false
 else
 (da (Ql t0) 0).bind λy=>match y with
 |.inr v=>some v
 |.inl _=>
 some true
def Rl(t0:(List (List GNode))) (t1:Int) (s1:Int):Int->Option (Ex Int Unit (Ex Int Unit Bool)):=λs3=>
 (idx t0 s1).bind λx4=>
 if s3<(x4.length:Int)then
  Kac (α:=Bool) (
   (idx x4 s3).bind λx6=>
   if x6.Op=7 then
    some (x6.N==t1)
   else
   some false) λj8=>
  if j8=true then
   some (Ex.ret (Ex.ret true))
  else
  some (Ex.go (ca .i64 (s3+1)))
 else
 some (Ex.brk ())
def Sl(t0:(List (List GNode))) (t1:Int):Int->Option (Ex Int Unit Bool):=λs1=>
 if s1<(t0.length:Int)then
  (da (Rl t0 t1 s1) 0).bind λy=>match y with
  |.inr v=>some v
  |.inl _=>
  some (Ex.go (ca .i64 (s1+1)))
 else
 some (Ex.brk ())
def Xp(t0:(List (List GNode))) (t1:Int):Option Bool:=
 (da (Sl t0 t1) 0).bind λy=>match y with
 |.inr v=>some v
 |.inl _=>
 some false
def Jl(t0:List Int) (t1:Int):((List Int)×Int)->Option (Ex ((List Int)×Int) (List Int) Unit):=λ(s1,s2)=>
 if s2<(t0.length:Int)then
  Kac (α:=(List Int)) (
   (idx t0 s2).bind λx4=>
   if x4<t1 then
    (app 8 s1 ([x4])).bind λx6=>
    some x6
   else
   some s1) λj7=>
  some (Ex.go (j7,(ca .i64 (s2+1))))
 else
 some (Ex.brk s1)
def Il(t0:List Int) (t1:Int):((List Int)×Int)->Option (Ex ((List Int)×Int) (List Int) Unit):=λ(s12,s13)=>
 if s13<(t0.length:Int)then
  Kac (α:=(List Int)) (
   (idx t0 s13).bind λx15=>
   if t1<x15 then
    (app 8 s12 ([x15])).bind λx17=>
    some x17
   else
   some s12) λj18=>
  some (Ex.go (j18,(ca .i64 (s13+1))))
 else
 some (Ex.brk s12)
def bl(t0:List Int) (t1:Int):Option (List Int):=
 (da (Jl t0 t1) (([]:List Int),0)).bind λy=>match y with
 |.inr _=>none
 |.inl b10=>
 (app 8 b10 ([t1])).bind λx11=>
 (da (Il t0 t1) (x11,0)).bind λy=>match y with
 |.inr _=>none
 |.inl b21=>
 some b21
def Gj(x1:(Int×Int)):((List Int)×Int)->Option (Ex ((List Int)×Int) (List Int) Unit):=λ(s6,s7)=>
 if s7<=x1.2 then
  (app 8 s6 ([s7])).bind λx9=>
  some (Ex.go (x9,(ca .i64 (s7+1))))
 else
 some (Ex.brk s6)
def Od(t2:List Int) (x1:(Int×Int)):((List Int)×Int)->Option (Ex ((List Int)×Int) (List Int) Unit):=λ(s13,s14)=>
 if s14<(t2.length:Int)then
  Kac (α:=(List Int)) (
   Kac (α:=Bool) (
    (idx t2 s14).bind λx16=>
    if x1.1<=x16 then
     some (decide (x16<=x1.2))
    else
    some false) λj18=>
   if j18=true then
    (idx t2 s14).bind λx20=>
    (bl s13 x20).bind λx21=>
    some x21
   else
   some s13) λj22=>
  some (Ex.go (j22,(ca .i64 (s14+1))))
 else
 some (Ex.brk s13)
def nf(t0:GType) (t1:List GEnum) (t2:List Int):Option (List Int):=
 (Ff t0 t1).bind λx1=>
 if x1.2<x1.1 then
  some ([])
 else
 Kac (α:=Bool) (
  if¬t0.Kind=1 then
   some (t0.Kind==6)
  else
  some true) λj4=>
 if j4=true then
  (da (Gj x1) (([]:List Int),x1.1)).bind λy=>match y with
  |.inr _=>none
  |.inl b12=>
  some b12
 else
 (da (Od t2 x1) ([x1.1],0)).bind λy=>match y with
 |.inr _=>none
 |.inl b25=>
 some b25
def Xh(t0:(List (List GNode))) (t1:Int) (s2:Int):((List Int)×Int)->Option (Ex ((List Int)×Int) (List Int) Unit):=λ(s4,s5)=>
 (idx t0 s2).bind λx6=>
 if s5<(x6.length:Int)then
  Kac (α:=(List Int)) (
   (Dn x6 s5).bind λx8=>
   Kac (α:=Bool) (
    if x8.2.2=true then
     if x8.1.N=t1 then
      some (x8.2.1.Op==6)
     else
     some true
    else
    some true) λj11=>
   if j11=true then
    some s4
   else
   (bl s4 x8.2.1.N).bind λx13=>
   if x8.2.1.N<(ca .i64 (x8.2.1.N+1))then
    (bl x13 (ca .i64 (x8.2.1.N+1))).bind λx15=>
    some x15
   else
   some x13) λj16=>
  some (Ex.go (j16,(ca .i64 (s5+1))))
 else
 some (Ex.brk s4)
def Yh(t0:(List (List GNode))) (t1:Int):((List Int)×Int)->Option (Ex ((List Int)×Int) (List Int) Unit):=λ(s1,s2)=>
 if s2<(t0.length:Int)then
  (da (Xh t0 t1 s2) (s1,0)).bind λy=>match y with
  |.inr _=>none
  |.inl b19=>
  some (Ex.go (b19,(ca .i64 (s2+1))))
 else
 some (Ex.brk s1)
def Pl(t0:(List (List GNode))) (t1:Int):Option (List Int):=
 (da (Yh t0 t1) (([]:List Int),0)).bind λy=>match y with
 |.inr _=>none
 |.inl b22=>
 some b22
def Ym(t0:(List (List Int))):Int->Option (Ex Int Unit Int):=λs1=>
 if s1<(t0.length:Int)then
  (idx t0 s1).bind λx3=>
  if(x3.length:Int)=0 then
   some (Ex.ret 0)
  else
  some (Ex.go (ca .i64 (s1+1)))
 else
 some (Ex.brk ())
def Vh(t0:(List (List Int))):(Int×Int)->Option (Ex (Int×Int) Int Unit):=λ(s6,s7)=>
 Kac (α:=Bool) (
  if s7<(t0.length:Int)then
   some (decide (s6<=4096))
  else
  some false) λj9=>
 if j9=true then
  (idx t0 s7).bind λx11=>
  some (Ex.go ((ca .i64 (s6*(x11.length:Int))),(ca .i64 (s7+1))))
 else
 some (Ex.brk s6)
def Pr(t0:(List (List Int))):Option Int:=
 (da (Ym t0) 0).bind λy=>match y with
 |.inr v=>some v
 |.inl _=>
 (da (Vh t0) (1,0)).bind λy=>match y with
 |.inr _=>none
 |.inl b14=>
 some (min b14 4097)
def mo(x13:(List (List GNode))) (x14:GSignature):Int->Option (Ex Int Unit ((List (List Int))×Int)):=λs15=>
 if s15<(x13.length:Int)then
  (idx x13 s15).bind λx17=>
  (Cn x17 x14).bind λx18=>
  if x18=false then
   some (Ex.ret ([],17))
  else
  some (Ex.go (ca .i64 (s15+1)))
 else
 some (Ex.brk ())
def ko(t0:GLaw) (x12:GScope) (x13:(List (List GNode))):((List (List Int))×Int)->Option (Ex ((List (List Int))×Int) (List (List Int)) Unit):=λ(s21,s22)=>
 if s22<(x12.Inputs.length:Int)then
  Kac (α:=(List (List Int))) (
   (Xp x13 s22).bind λx24=>
   if x24=true then
    (idx x12.Inputs s22).bind λx26=>
    (Pl x13 s22).bind λx27=>
    (nf x26.Type_ t0.Enums x27).bind λx28=>
    (app 24 s21 ([x28])).bind λx29=>
    some x29
   else
   (app 24 s21 ([[0]])).bind λx30=>
   some x30) λj31=>
  some (Ex.go (j31,(ca .i64 (s22+1))))
 else
 some (Ex.brk s21)
def Ro(t0:GLaw) (t1:Int) (t2:Int) (t3:Int):Option ((List (List Int))×Int):=
 (Xm t0).bind λx1=>
 if¬x1.Code=0 then
  some ([],1)
 else
 Kac (α:=Bool) (
  if¬t1<0 then
   if¬(t0.Scopes.length:Int)<=t1 then
    if¬t2<0 then
     (idx t0.Scopes t1).bind λx6=>
     some (decide ((x6.Defs.length:Int)<=t2))
    else
    some true
   else
   some true
  else
  some true) λj7=>
 if j7=true then
  some ([],6)
 else
 Kac (α:=Bool) (
  if¬t3<0 then
   some (decide (109572<t3))
  else
  some true) λj10=>
 if j10=true then
  some ([],3)
 else
 (idx t0.Scopes t1).bind λx12=>
 (Wp x12 t2 t3).bind λx13=>
 (Ai t0 t1).bind λx14=>
 (da (mo x13 x14) 0).bind λy=>match y with
 |.inr v=>some v
 |.inl _=>
 (da (ko t0 x12 x13) (([]:List (List Int)),0)).bind λy=>match y with
 |.inr _=>none
 |.inl b34=>
 (Pr b34).bind λx35=>
 if 4096<x35 then
  some ([],4)
 else
 some (b34,0)
def Pp(x3:((List (List Int))×Int)):(Int×Int)->Option (Ex (Int×Int) Int Unit):=λ(s4,s5)=>
 Kac (α:=Bool) (
  if s5<(x3.1.length:Int)then
   some (decide (s4<=600))
  else
  some false) λj7=>
 if j7=true then
  (idx x3.1 s5).bind λx9=>
  some (Ex.go ((ca .i64 (s4*(x9.length:Int))),(ca .i64 (s5+1))))
 else
 some (Ex.brk s4)
def Gr(t0:GLaw) (t1:Int) (t2:Int) (t3:Int):Option Bool:=
 (Ij t0).bind λx1=>
 if x1=false then
  some false
 else
 (Ro t0 t1 t2 t3).bind λx3=>
 (da (Pp x3) (1,0)).bind λy=>match y with
 |.inr _=>none
 |.inl b12=>
 some (decide (b12<=600))
def kg(t0:GLaw) (t1:Int) (t2:Int) (t3:Int):Option GDeadrules_tree:=
 (idx t0.Scopes t1).bind λx1=>
 (oe x1 t2 t3).bind λx2=>
 some (GDeadrules_tree.mk x1 t0.Tables t3 x2.1 x2.2.1 x2.2.2)
def Nc(t0:GDeadrules_tree) (t1:List GValue):((List Bool)×Int)->Option (Ex ((List Bool)×Int) (List Bool) Unit):=λ(s2,s3)=>
 if s3<(t0.rules.length:Int)then
  Kac (α:=(List Bool)) (
   (idx t0.rules s3).bind λx5=>
   (idx t0.scope.Rules x5).bind λx6=>
   if(x6.Guard.length:Int)=0 then
    (idx s2 s3).bind λx8=>
    (put s2 s3 true).bind λx9=>
    some x9
   else
   (Ra x6.Guard (GEnv.mk t0.date t1 ([]) ([]) ([]) t0.tables)).bind λx10=>
   if x10.2=0 then
    (idx s2 s3).bind λx12=>
    (put s2 s3 (x10.1.N==1)).bind λx13=>
    some x13
   else
   (idx s2 s3).bind λx14=>
   (put s2 s3 false).bind λx15=>
   some x15) λj16=>
  some (Ex.go (j16,(ca .i64 (s3+1))))
 else
 some (Ex.brk s2)
def Kc(t0:GDeadrules_tree) (t1:List GValue):Option Int:=
 (Ww 1 false (t0.rules.length:Int) (t0.rules.length:Int)).bind λx1=>
 (da (Nc t0 t1) (x1,0)).bind λy=>match y with
 |.inr _=>none
 |.inl b19=>
 (We t0.parents t0.priorities b19).bind λx20=>
 some x20
def Nk(x1:((List (List Int))×Int)) (x3:GDeadrules_tree) (s7:List Int):((List GValue)×Int)->Option (Ex ((List GValue)×Int) (List GValue) Unit):=λ(s10,s11)=>
 if s11<(x3.scope.Inputs.length:Int)then
  (idx x3.scope.Inputs s11).bind λx13=>
  (idx x1.1 s11).bind λx14=>
  (idx s7 s11).bind λx15=>
  (idx x14 x15).bind λx16=>
  (app 24 s10 ([(GValue.mk x13.Type_.Kind x13.Type_.Enum x16)])).bind λx17=>
  some (Ex.go (x17,(ca .i64 (s11+1))))
 else
 some (Ex.brk s10)
def Kk(x1:((List (List Int))×Int)) (x3:GDeadrules_tree) (s7:List Int):Option (List GValue):=
 (da (Nk x1 x3 s7) (([]:List GValue),0)).bind λy=>match y with
 |.inr _=>none
 |.inl b20=>
 some b20
def Jo(x1:((List (List Int))×Int)):((List Int)×Int)->Option (Ex ((List Int)×Int) (List Int) ((List Int)×Bool)):=λ(s27,s28)=>
 if 0<=s28 then
  (idx s27 s28).bind λx30=>
  (put s27 s28 (ca .i64 (x30+1))).bind λx31=>
  (idx x31 s28).bind λx32=>
  (idx x1.1 s28).bind λx33=>
  if x32<(x33.length:Int)then
   some (Ex.ret (x31,true))
  else
  (put x31 s28 0).bind λx35=>
  some (Ex.go (x35,(ca .i64 (s28-1))))
 else
 some (Ex.brk s27)
def Mk(x1:((List (List Int))×Int)) (s7:List Int):Option ((List Int)×Bool):=
 (da (Jo x1) (s7,(ca .i64 ((s7.length:Int)-1)))).bind λy=>match y with
 |.inr v=>some v
 |.inl b38=>
 some (b38,false)
def sh(x1:((List (List Int))×Int)) (x3:GDeadrules_tree):((List Bool)×(List Int)×Bool)->Option (Ex ((List Bool)×(List Int)×Bool) (List Bool) Unit):=λ(s6,s7,s8)=>
 if s8=true then
  Kac (α:=(List Bool)) (
   (Kk x1 x3 s7).bind λi21=>
   (Kc x3 i21).bind λx22=>
   if 0<=x22 then
    (idx s6 x22).bind λx24=>
    (put s6 x22 true).bind λx25=>
    some x25
   else
   some s6) λj26=>
  (Mk x1 s7).bind λ(i39,i40)=>
  some (Ex.go (j26,i39,i40))
 else
 some (Ex.brk s6)
def rh(x3:GDeadrules_tree) (b44:List Bool):((List Int)×Int)->Option (Ex ((List Int)×Int) (List Int) Unit):=λ(s45,s46)=>
 if s46<(x3.rules.length:Int)then
  Kac (α:=(List Int)) (
   (idx x3.rules s46).bind λx48=>
   (idx b44 s46).bind λx49=>
   if x49=false then
    (app 8 s45 ([x48])).bind λx51=>
    some x51
   else
   some s45) λj52=>
  some (Ex.go (j52,(ca .i64 (s46+1))))
 else
 some (Ex.brk s45)
def Ee(t0:GLaw) (t1:Int) (t2:Int) (t3:Int):Option ((List Int)×Int):=
 (Ug t0 t1 t2 t3).bind λx1=>
 if¬x1.2=0 then
  some ([],x1.2)
 else
 (kg t0 t1 t2 t3).bind λx3=>
 (Ww 1 false (x3.rules.length:Int) (x3.rules.length:Int)).bind λx4=>
 (Ww 8 0 (x1.1.length:Int) (x1.1.length:Int)).bind λx5=>
 (da (sh x1 x3) (x4,x5,true)).bind λy=>match y with
 |.inr _=>none
 |.inl b44=>
 (da (rh x3 b44) (([]:List Int),0)).bind λy=>match y with
 |.inr _=>none
 |.inl b55=>
 some (b55,0)
def mi(x11:((List (List Int))×Int)) (x13:GDeadrules_tree) (s15:List Int):((List GValue)×Int)->Option (Ex ((List GValue)×Int) (List GValue) Unit):=λ(s18,s19)=>
 if s19<(x13.scope.Inputs.length:Int)then
  (idx x13.scope.Inputs s19).bind λx21=>
  (idx x11.1 s19).bind λx22=>
  (idx s15 s19).bind λx23=>
  (idx x22 x23).bind λx24=>
  (app 24 s18 ([(GValue.mk x21.Type_.Kind x21.Type_.Enum x24)])).bind λx25=>
  some (Ex.go (x25,(ca .i64 (s19+1))))
 else
 some (Ex.brk s18)
def ji(x11:((List (List Int))×Int)) (x13:GDeadrules_tree) (s15:List Int):Option (List GValue):=
 (da (mi x11 x13 s15) (([]:List GValue),0)).bind λy=>match y with
 |.inr _=>none
 |.inl b28=>
 some b28
def Xl(x11:((List (List Int))×Int)):((List Int)×Int)->Option (Ex ((List Int)×Int) (List Int) ((List Int)×Bool)):=λ(s35,s36)=>
 if 0<=s36 then
  (idx s35 s36).bind λx38=>
  (put s35 s36 (ca .i64 (x38+1))).bind λx39=>
  (idx x39 s36).bind λx40=>
  (idx x11.1 s36).bind λx41=>
  if x40<(x41.length:Int)then
   some (Ex.ret (x39,true))
  else
  (put x39 s36 0).bind λx43=>
  some (Ex.go (x43,(ca .i64 (s36-1))))
 else
 some (Ex.brk s35)
def ki(x11:((List (List Int))×Int)) (s15:List Int):Option ((List Int)×Bool):=
 (da (Xl x11) (s15,(ca .i64 ((s15.length:Int)-1)))).bind λy=>match y with
 |.inr v=>some v
 |.inl b46=>
 some (b46,false)
def Gd(t2:Int) (x11:((List (List Int))×Int)) (x13:GDeadrules_tree):((List Int)×Bool)->Option (Ex ((List Int)×Bool) Unit ((List GValue)×Bool×Int)):=λ(s15,s16)=>
 if s16=true then
  (ji x11 x13 s15).bind λi29=>
  (Kc x13 i29).bind λx30=>
  Kac (α:=Bool) (
   if 0<=x30 then
    (idx x13.rules x30).bind λx32=>
    some (x32==t2)
   else
   some false) λj33=>
  if j33=true then
   some (Ex.ret (i29,true,0))
  else
  (ki x11 s15).bind λ(i47,i48)=>
  some (Ex.go (i47,i48))
 else
 some (Ex.brk ())
def Yb(t0:GLaw) (t1:Int) (t2:Int) (t3:Int):Option ((List GValue)×Bool×Int):=
 (Wk t0).bind λx1=>
 if¬x1.Code=0 then
  some ([],false,1)
 else
 Kac (α:=Bool) (
  if¬t1<0 then
   if¬(t0.Scopes.length:Int)<=t1 then
    if¬t2<0 then
     (idx t0.Scopes t1).bind λx6=>
     some (decide ((x6.Rules.length:Int)<=t2))
    else
    some true
   else
   some true
  else
  some true) λj7=>
 if j7=true then
  some ([],false,6)
 else
 (idx t0.Scopes t1).bind λx9=>
 (idx x9.Rules t2).bind λx10=>
 (Ug t0 t1 x10.Def t3).bind λx11=>
 if¬x11.2=0 then
  some ([],false,x11.2)
 else
 (kg t0 t1 x10.Def t3).bind λx13=>
 (Ww 8 0 (x11.1.length:Int) (x11.1.length:Int)).bind λx14=>
 (da (Gd t2 x11 x13) (x14,true)).bind λy=>match y with
 |.inr v=>some v
 |.inl _=>
 some ([],false,0)
def ct:Option GLaw:=some (Te 3 [Zp (Pac #[98,97,115,101]) (-1) [GNode.mk 7 0,GNode.mk 3 5,GNode.mk 21 0] 1,Zp (Pac #[109,111,114,101]) 0 [GNode.mk 7 0,GNode.mk 3 9,GNode.mk 21 0] 1])
def Ek  : Option Bool:=
 (ct).bind λx1=>
 (Ee x1 0 0 100).bind λx2=>
 (ct).bind λx3=>
 (Yb x3 0 1 100).bind λx4=>
 (ct).bind λx5=>
 (Yb x5 0 0 100).bind λx6=>
 Kac (α:=Bool) (
  (qt x2.1 ([0])).bind λx7=>
  if x7=true then
   if x2.2=0 then
    if x4.2.1=true then
     if x4.2.2=0 then
      if x6.2.1=false then
       if x6.2.2=0 then
        (cn x4.1 ([(GValue.mk 3 0 (-1000000000000000))])).bind λx14=>
        some x14
       else
       some false
      else
      some false
     else
     some false
    else
    some false
   else
   some false
  else
  some false) λj15=>
 some j15
def zG(t0:List Int) (t1:Int):Int->Option (Ex Int Unit Int):=λs1=>
 if s1<(t0.length:Int)then
  (idx t0 s1).bind λx3=>
  if x3=t1 then
   some (Ex.ret s1)
  else
  some (Ex.go (ca .i64 (s1+1)))
 else
 some (Ex.brk ())
def WL(t0:List Int) (t1:Int):Option Int:=
 (da (zG t0 t1) 0).bind λy=>match y with
 |.inr v=>some v
 |.inl _=>
 some (-1)
def cE(t0:GScope) (t1:List Int):(Int×Int)->Option (Ex (Int×Int) Unit Int):=λ(s2,s3)=>
 Kac (α:=Bool) (
  if 0<=s3 then
   some (decide (s3<s2))
  else
  some false) λj5=>
 if j5=true then
  (WL t1 s3).bind λx7=>
  if 0<=x7 then
   some (Ex.ret x7)
  else
  (idx t0.Rules s3).bind λx9=>
  some (Ex.go (s3,x9.Parent))
 else
 some (Ex.brk ())
def SJ(t0:GScope) (t1:List Int) (t2:Int):Option Int:=
 (idx t0.Rules t2).bind λx1=>
 (da (cE t0 t1) (t2,x1.Parent)).bind λy=>match y with
 |.inr v=>some v
 |.inl _=>
 some (-1)
def bE(t0:GScope) (x1:List Int):((List Int)×(List Int)×Int)->Option (Ex ((List Int)×(List Int)×Int) ((List Int)×(List Int)) Unit):=λ(s2,s3,s4)=>
 if s4<(x1.length:Int)then
  (idx x1 s4).bind λx6=>
  (SJ t0 x1 x6).bind λx7=>
  (app 8 s2 ([x7])).bind λx8=>
  (idx t0.Rules x6).bind λx9=>
  (app 8 s3 ([x9.Priority])).bind λx10=>
  some (Ex.go (x8,x10,(ca .i64 (s4+1))))
 else
 some (Ex.brk (s2,s3))
def RJ(t0:GScope) (t1:Int) (t2:Int):Option ((List Int)×(List Int)×(List Int)):=
 (Fj t0 t1 t2).bind λx1=>
 (da (bE t0 x1) (([]:List Int),([]:List Int),0)).bind λy=>match y with
 |.inr _=>none
 |.inl (b14,b15)=>
 some (x1,b14,b15)
def GJ(t0:List GNode):Option ((List Int)×Int):=
 (Eg t0).bind λx1=>
 some (x1.1,x1.2.2)
def YA(t0:Int):Option (Int×Int):=
 if t0=1 then
  some (0,1)
 else
 if t0=2 then
  some ((-1000000000000),1000000000000)
 else
 if t0=3 then
  some ((-1000000000000000),1000000000000000)
 else
 if t0=4 then
  some ((-1000000000),1000000000)
 else
 if t0=5 then
  some (0,109572)
 else
 if t0=6 then
  some (0,15)
 else
 some (0,(-1))
def Qd(t0:GValue):Option Bool:=
 (YA t0.Kind).bind λx1=>
 Kac (α:=Bool) (
  if¬t0.N<x1.1 then
   some (decide (x1.2<t0.N))
  else
  some true) λj3=>
 if j3=true then
  some false
 else
 if t0.Kind=6 then
  Kac (α:=Bool) (
   if 0<=t0.Enum then
    some (decide (t0.Enum<8))
   else
   some false) λj7=>
  some j7
 else
 some (t0.Enum==0)
def KH(t0:Int):Option Bool:=
 Kac (α:=Bool) (
  if 1<=t0 then
   if¬t0<=8 then
    if 36<=t0 then
     some (decide (t0<=39))
    else
    some false
   else
   some true
  else
  if 36<=t0 then
   some (decide (t0<=39))
  else
  some false) λj5=>
 if j5=true then
  some true
 else
 Kac (α:=Bool) (
  if¬t0=14 then
   if¬t0=15 then
    if¬t0=16 then
     if¬t0=33 then
      some (t0==34)
     else
     some true
    else
    some true
   else
   some true
  else
  some true) λj11=>
 some j11
def JJ(t0:GNode) (t1:Int):Option Bool:=
 Kac (α:=Bool) (
  (Gk t0.Op).bind λx1=>
  if x1=t1 then
   if¬t0.N=0 then
    (KH t0.Op).bind λx4=>
    some (!x4)
   else
   some false
  else
  some true) λj5=>
 if j5=true then
  some false
 else
 Kac (α:=Bool) (
  if t0.Op=14 then
   some true
  else
  if t0.Op=15 then
   some true
  else
  some (t0.Op==16)) λj9=>
 if j9=true then
  Kac (α:=Bool) (
   if 0<=t0.N then
    some (decide (t0.N<=5))
   else
   some false) λj12=>
  some j12
 else
 if t0.Op=34 then
  Kac (α:=Bool) (
   if 0<=t0.N then
    some (decide ((zad t0.N 8)<=5))
   else
   some false) λj15=>
  some j15
 else
 if t0.Op=6 then
  some (decide (0<=t0.N))
 else
 some true
def UL(t0:GNode) (t1:GEnv):Option Bool:=
 if t0.Op=7 then
  Kac (α:=Bool) (
   if 0<=t0.N then
    some (decide (t0.N<(t1.Inputs.length:Int)))
   else
   some false) λj3=>
  some j3
 else
 if t0.Op=8 then
  Kac (α:=Bool) (
   if 0<=t0.N then
    if t0.N<(t1.Defs.length:Int)then
     (idx t1.Defs t0.N).bind λx7=>
     some (x7.Kind !=0)
    else
    some false
   else
   some false) λj8=>
  some j8
 else
 if t0.Op=33 then
  Kac (α:=Bool) (
   if 0<=t0.N then
    some (decide (t0.N<(t1.Tables.length:Int)))
   else
   some false) λj11=>
  some j11
 else
 if t0.Op=34 then
  some (decide ((ca .i64 (sad t0.N 8))<(t1.Tables.length:Int)))
 else
 Kac (α:=Bool) (
  if t0.Op=36 then
   some true
  else
  if t0.Op=37 then
   some true
  else
  if t0.Op=38 then
   some true
  else
  some (t0.Op==39)) λj16=>
 if j16=true then
  Kac (α:=Bool) (
   if 0<=t0.N then
    some (decide (t0.N<(t1.MemberTypes.length:Int)))
   else
   some false) λj19=>
  some j19
 else
 some true
def IH(t0:Int) (t1:GType):Option Bool:=
 if¬t1.Enum=0 then
  some false
 else
 if t0=36 then
  Kac (α:=Bool) (
   if¬t1.Kind=2 then
    some (t1.Kind==3)
   else
   some true) λj4=>
  some j4
 else
 if t0=39 then
  Kac (α:=Bool) (
   if 2<=t1.Kind then
    some (decide (t1.Kind<=5))
   else
   some false) λj7=>
  some j7
 else
 some (t1.Kind==1)
def jR(t0:GValue) (t1:GType):Option Bool:=
 Kac (α:=Bool) (
  (Qd t0).bind λx1=>
  if x1=true then
   if t0.Kind=t1.Kind then
    some (t0.Enum==t1.Enum)
   else
   some false
  else
  some false) λj4=>
 some j4
def HN(t0:Int) (t1:Int) (t2:Int) (t3:Bool):Option Int:=
 if t0=36 then
  some (ca .i64 (t1+t2))
 else
 if t0=37 then
  some (ca .i64 (t1*t2))
 else
 if t0=38 then
  if t1<t2 then
   some t2
  else
  some t1
 else
 Kac (α:=Bool) (
  if t3=false then
   some (decide (t1<t2))
  else
  some true) λj6=>
 if j6=true then
  some t2
 else
 some t1
def Zd(t0:Int) (t1:Int):Option (GValue×Int):=
 (Qd (GValue.mk t0 0 t1)).bind λx1=>
 if x1=false then
  some ((GValue.mk 0 0 0),3)
 else
 some ((GValue.mk t0 0 t1),0)
def DC(t0:GNode) (t1:GEnv) (x1:GType):(Int×Int)->Option (Ex (Int×Int) Int (GValue×Int)):=λ(s6,s7)=>
 if s7<(t1.Members.length:Int)then
  (idx t1.Members s7).bind λx9=>
  Kac (α:=Bool) (
   if¬(x9.length:Int)<=t0.N then
    (idx x9 t0.N).bind λx11=>
    some (x11.Kind==0)
   else
   some true) λj12=>
  if j12=true then
   some (Ex.ret ((GValue.mk 0 0 0),6))
  else
  (idx x9 t0.N).bind λx14=>
  (jR x14 x1).bind λx15=>
  if x15=false then
   some (Ex.ret ((GValue.mk 0 0 0),8))
  else
  (HN t0.Op s6 x14.N (s7==0)).bind λx17=>
  (Zd x1.Kind x17).bind λx18=>
  if¬x18.2=0 then
   some (Ex.ret ((GValue.mk 0 0 0),x18.2))
  else
  some (Ex.go (x17,(ca .i64 (s7+1))))
 else
 some (Ex.brk s6)
def LH(t0:GNode) (t1:GEnv):Option (GValue×Int):=
 (idx t1.MemberTypes t0.N).bind λx1=>
 (IH t0.Op x1).bind λx2=>
 if x2=false then
  some ((GValue.mk 0 0 0),8)
 else
 Kac (α:=Int) (
  if t0.Op=37 then
   some 1
  else
  some 0) λj5=>
 (da (DC t0 t1 x1) (j5,0)).bind λy=>match y with
 |.inr v=>some v
 |.inl b22=>
 Kac (α:=Bool) (
  if t0.Op=39 then
   some ((t1.Members.length:Int)==0)
  else
  some false) λj24=>
 if j24=true then
  some ((GValue.mk 0 0 0),6)
 else
 (Zd x1.Kind b22).bind λx26=>
 some (x26.1,x26.2)
def JH(t0:GNode) (t1:GEnv):Option (GValue×Int):=
 if t0.Op=7 then
  (idx t1.Inputs t0.N).bind λx2=>
  (Qd x2).bind λx3=>
  if x3=false then
   some ((GValue.mk 0 0 0),8)
  else
  some (x2,0)
 else
 if t0.Op=8 then
  (idx t1.Defs t0.N).bind λx6=>
  (Qd x6).bind λx7=>
  if x7=false then
   some ((GValue.mk 0 0 0),8)
  else
  some (x6,0)
 else
 if t0.Op=9 then
  (Zd 5 t1.Date).bind λx10=>
  some (x10.1,x10.2)
 else
 if t0.Op=35 then
  (Zd 2 (t1.Members.length:Int)).bind λx12=>
  some (x12.1,x12.2)
 else
 if t0.Op=6 then
  (Qd (GValue.mk 6 (ca .i64 (sad t0.N 16)) (zad t0.N 16))).bind λx14=>
  if x14=false then
   some ((GValue.mk 0 0 0),3)
  else
  some ((GValue.mk 6 (ca .i64 (sad t0.N 16)) (zad t0.N 16)),0)
 else
 (Zd t0.Op t0.N).bind λx16=>
 some (x16.1,x16.2)
def jw(t0:Int):Option Bool:=
 Kac (α:=Bool) (
  if¬t0=2 then
   if¬t0=3 then
    some (t0==4)
   else
   some true
  else
  some true) λj3=>
 some j3
def Hk(t0:Bool):Option (GValue×Int):=
 Kac (α:=Int) (
  if t0=true then
   some 1
  else
  some 0) λj2=>
 some ((GValue.mk 1 0 j2),0)
def WA(t0:Int):Option Bool:=
 Kac (α:=Bool) (
  if(zad t0 4)=0 then
   if(zad t0 100)=0 then
    some ((zad t0 400)==0)
   else
   some true
  else
  some false) λj3=>
 some j3
def cj(t0:Int) (t1:Int):Option Int:=
 if t1=2 then
  (WA t0).bind λx2=>
  if x2=true then
   some 29
  else
  some 28
 else
 Kac (α:=Bool) (
  if t1=4 then
   some true
  else
  if t1=6 then
   some true
  else
  if t1=9 then
   some true
  else
  some (t1==11)) λj7=>
 if j7=true then
  some 30
 else
 Kac (α:=Bool) (
  if t1=1 then
   some true
  else
  if t1=3 then
   some true
  else
  if t1=5 then
   some true
  else
  if t1=7 then
   some true
  else
  if t1=8 then
   some true
  else
  if t1=10 then
   some true
  else
  some (t1==12)) λj15=>
 if j15=true then
  some 31
 else
 some 0
def Jq(t0:Int):Option Int:=
 (WA t0).bind λx1=>
 if x1=true then
  some 366
 else
 some 365
def Mu(t0:Int):Option Bool:=
 Kac (α:=Bool) (
  if 0<=t0 then
   some (decide (t0<=109572))
  else
  some false) λj2=>
 some j2
def rG  : (Int×Int)->Option (Ex (Int×Int) (Int×Int) Unit):=λ(s3,s4)=>
 (Jq s4).bind λx5=>
 if x5<=s3 then
  (Jq s4).bind λx7=>
  some (Ex.go ((ca .i64 (s3-x7)),(ca .i64 (s4+1))))
 else
 some (Ex.brk (s3,s4))
def qG(b11:Int):(Int×Int)->Option (Ex (Int×Int) (Int×Int) Unit):=λ(s12,s13)=>
 (cj b11 s13).bind λx14=>
 if x14<=s12 then
  (cj b11 s13).bind λx16=>
  some (Ex.go ((ca .i64 (s12-x16)),(ca .i64 (s13+1))))
 else
 some (Ex.brk (s12,s13))
def xD(t0:Int):Option (Int×Int×Int):=
 (Mu t0).bind λx1=>
 if x1=false then
  some (0,0,0)
 else
 (da rG (t0,1900)).bind λy=>match y with
 |.inr _=>none
 |.inl (b10,b11)=>
 (da (qG b11) (b10,1)).bind λy=>match y with
 |.inr _=>none
 |.inl (b19,b20)=>
 some (b11,b20,(ca .i64 (b19+1)))
def FH(t0:GRow) (t1:Int) (t2:Int):Option Bool:=
 Kac (α:=Bool) (
  (Nh t0.Valid t1).bind λx1=>
  if x1=true then
   if t0.Lo<=t2 then
    some (decide (t2<t0.Hi))
   else
   some false
  else
  some false) λj4=>
 some j4
def YD(t0:GTable) (t1:Int) (t2:Int):Int->Option (Ex Int Unit (Int×Bool)):=λs1=>
 if s1<(t0.Rows.length:Int)then
  (idx t0.Rows s1).bind λx3=>
  (FH x3 t1 t2).bind λx4=>
  if x4=true then
   some (Ex.ret (s1,true))
  else
  some (Ex.go (ca .i64 (s1+1)))
 else
 some (Ex.brk ())
def HJ(t0:GTable) (t1:Int) (t2:Int):Option (Int×Bool):=
 (da (YD t0 t1 t2) 0).bind λy=>match y with
 |.inr v=>some v
 |.inl _=>
 some (0,false)
def MJ(t0:GTable) (t1:Int) (t2:GValue):Option (GValue×Int):=
 Kac (α:=Bool) (
  if t2.Kind=t0.Key.Kind then
   if t2.Enum=t0.Key.Enum then
    if¬t0.Value.Kind<1 then
     some (decide (6<t0.Value.Kind))
    else
    some true
   else
   some true
  else
  some true) λj4=>
 if j4=true then
  some ((GValue.mk 0 0 0),8)
 else
 (HJ t0 t1 t2.N).bind λx6=>
 if x6.2=false then
  some ((GValue.mk 0 0 0),6)
 else
 (idx t0.Rows x6.1).bind λx8=>
 (Qd (GValue.mk t0.Value.Kind t0.Value.Enum x8.N)).bind λx9=>
 if x9=false then
  some ((GValue.mk 0 0 0),3)
 else
 some ((GValue.mk t0.Value.Kind t0.Value.Enum x8.N),0)
def iw(t0:Int):Option Bool:=
 Kac (α:=Bool) (
  if 0<=t0 then
   some (decide (t0<=5))
  else
  some false) λj2=>
 some j2
def Ef(t0:Int) (t1:Int):Option Bool:=
 Kac (α:=Bool) (
  if¬t1<t0 then
   some (decide (t0<(ca .i64 (-t1))))
  else
  some true) λj2=>
 some j2
def Qz(t0:Int) (t1:Int):Option (Int×Int×Bool):=
 Kac (α:=Int) (
  if t1<0 then
   some (ca .u64 ((ca .u64 (ca .i64 (-(ca .i64 (t1+1)))))+1))
  else
  some (ca .u64 t1)) λj2=>
 Kac (α:=Bool) (
  if 0<(ca .i64 (ca .u64 (sad j2 1000000)))then
   (quo .i64 1000000000000000 (ca .i64 (ca .u64 (sad j2 1000000)))).bind λx4=>
   some (decide (x4<t0))
  else
  some false) λj5=>
 if j5=true then
  some (0,0,false)
 else
 if 1000000000000000<(ca .i64 ((ca .i64 ((ca .i64 (t0*(ca .i64 (ca .u64 (sad j2 1000000)))))+(ca .i64 ((ca .i64 (sad t0 1000000))*(ca .i64 (zad j2 1000000))))))+(ca .i64 (sad (ca .i64 ((zad t0 1000000)*(ca .i64 (zad j2 1000000)))) 1000000))))then
  some (0,0,false)
 else
 if t1<0 then
  some ((ca .i64 (-(ca .i64 ((ca .i64 ((ca .i64 (t0*(ca .i64 (ca .u64 (sad j2 1000000)))))+(ca .i64 ((ca .i64 (sad t0 1000000))*(ca .i64 (zad j2 1000000))))))+(ca .i64 (sad (ca .i64 ((zad t0 1000000)*(ca .i64 (zad j2 1000000)))) 1000000)))))),(ca .i64 (-(zad (ca .i64 ((zad t0 1000000)*(ca .i64 (zad j2 1000000)))) 1000000))),true)
 else
 some ((ca .i64 ((ca .i64 ((ca .i64 (t0*(ca .i64 (ca .u64 (sad j2 1000000)))))+(ca .i64 ((ca .i64 (sad t0 1000000))*(ca .i64 (zad j2 1000000))))))+(ca .i64 (sad (ca .i64 ((zad t0 1000000)*(ca .i64 (zad j2 1000000)))) 1000000)))),(zad (ca .i64 ((zad t0 1000000)*(ca .i64 (zad j2 1000000)))) 1000000),true)
def jo(t0:Int) (t1:Int) (t2:Int) (t3:Bool) (t4:Int):Option Int:=
 Kac (α:=(Bool×Bool)) (
  if t4=0 then
   if t3=true then
    some (true,(decide (0<t1)))
   else
   some (false,false)
  else
  if t4=1 then
   if t3=false then
    some (t3,(decide (0<t1)))
   else
   some (t3,false)
  else
  if t4=3 then
   some (t3,(decide (0<t1)))
  else
  if t4=4 then
   some (t3,(decide ((ca .i64 (t2-t1))<=t1)))
  else
  if t4=5 then
   if¬(ca .i64 (t2-t1))<t1 then
    if t1=(ca .i64 (t2-t1))then
     some (t3,((zad t0 2)==1))
    else
    some (t3,false)
   else
   some (t3,true)
  else
  some (t3,false)) λ(j10,j11)=>
 Kac (α:=Int) (
  if j11=true then
   some (ca .i64 (t0+1))
  else
  some t0) λj13=>
 if j10=true then
  some (ca .i64 (-j13))
 else
 some j13
def CC  : (Int×Int)->Option (Ex (Int×Int) (Int×Int) Unit):=λ(s1,s2)=>
 if s2<0 then
  some (Ex.go ((ca .i64 (s1-1)),(ca .i64 (s2+1000000))))
 else
 some (Ex.brk (s1,s2))
def BC  : (Int×Int)->Option (Ex (Int×Int) (Int×Int) Unit):=λ(s8,s9)=>
 if 1000000<=s9 then
  some (Ex.go ((ca .i64 (s8+1)),(ca .i64 (s9-1000000))))
 else
 some (Ex.brk (s8,s9))
def GH(t0:Int) (t1:Int) (t2:Int):Option Int:=
 (da CC (t0,t1)).bind λy=>match y with
 |.inr _=>none
 |.inl (b6,b7)=>
 (da BC (b6,b7)).bind λy=>match y with
 |.inr _=>none
 |.inl (b13,b14)=>
 if 0<=b13 then
  (jo b13 b14 1000000 false t2).bind λx16=>
  some x16
 else
 if b14=0 then
  some b13
 else
 (jo (ca .i64 ((ca .i64 (-b13))-1)) (ca .i64 (1000000-b14)) 1000000 true t2).bind λx18=>
 some x18
def XA(t0:GTable) (t1:Int) (t2:Int):(Int×Int×Int)->Option (Ex (Int×Int×Int) (Int×Int) (Int×Int)):=λ(s8,s9,s10)=>
 if s10<(t0.Rows.length:Int)then
  Kac (α:=((Int×Int)⊕(Ex (Int×Int×Int) (Int×Int) (Int×Int)))) (
   (idx t0.Rows s10).bind λx12=>
   Kac (α:=Bool) (
    if¬(min x12.Hi t2)<=(max x12.Lo 0)then
     (Nh x12.Valid t1).bind λx14=>
     some (!x14)
    else
    some true) λj15=>
   if j15=true then
    some (Sum.inl (s8,s9))
   else
   (Qz (ca .i64 ((min x12.Hi t2)-(max x12.Lo 0))) x12.N).bind λx17=>
   if x17.2.2=false then
    some (Sum.inr (Ex.ret (0,3)))
   else
   some (Sum.inl ((ca .i64 (s8+x17.1)),(ca .i64 (s9+x17.2.1))))) λz=>match z with
  |.inr v=>some v
  |.inl (j19,j20)=>
  some (Ex.go (j19,j20,(ca .i64 (s10+1))))
 else
 some (Ex.brk (s8,s9))
def sG(t0:GTable) (t1:Int) (t2:Int) (t3:Int):Option (Int×Int):=
 (iw t3).bind λx1=>
 if x1=false then
  some (0,1)
 else
 Kac (α:=Bool) (
  if t0.Key.Kind=3/\t0.Key.Enum=0 then
   some (!((t0.Value.Kind==4)&&(t0.Value.Enum==0)))
  else
  some true) λj4=>
 if j4=true then
  some (0,8)
 else
 (Ef t2 1000000000000000).bind λx6=>
 if x6=true then
  some (0,3)
 else
 (da (XA t0 t1 t2) (0,0,0)).bind λy=>match y with
 |.inr v=>some v
 |.inl (b24,b25)=>
 (GH b24 b25 t3).bind λx26=>
 (Ef x26 1000000000000000).bind λx27=>
 if x27=true then
  some (0,3)
 else
 some (x26,0)
def Qo(t0:Int) (t1:Int) (t2:Int):Option (GValue×Int):=
 if¬t2=0 then
  some ((GValue.mk 0 0 0),t2)
 else
 (Zd t0 t1).bind λx2=>
 some (x2.1,x2.2)
def OJ(t0:GNode) (t1:GValue) (t2:GEnv):Option (GValue×Int):=
 if t0.Op=10 then
  (jw t1.Kind).bind λx2=>
  if x2=false then
   some ((GValue.mk 0 0 0),8)
  else
  (Zd t1.Kind (ca .i64 (0-t1.N))).bind λx4=>
  some (x4.1,x4.2)
 else
 if t0.Op=25 then
  if¬t1.Kind=1 then
   some ((GValue.mk 0 0 0),8)
  else
  (Hk (t1.N==0)).bind λx7=>
  some (x7.1,x7.2)
 else
 Kac (α:=Bool) (
  if t0.Op=31 then
   some true
  else
  some (t0.Op==32)) λj9=>
 if j9=true then
  if¬t1.Kind=5 then
   some ((GValue.mk 0 0 0),8)
  else
  (xD t1.N).bind λx12=>
  if t0.Op=31 then
   (Zd 2 x12.1).bind λx14=>
   some (x14.1,x14.2)
  else
  (Zd 2 x12.2.1).bind λx15=>
  some (x15.1,x15.2)
 else
 if t0.Op=33 then
  (idx t2.Tables t0.N).bind λx17=>
  (MJ x17 t2.Date t1).bind λx18=>
  some (x18.1,x18.2)
 else
 (idx t2.Tables (ca .i64 (sad t0.N 8))).bind λx19=>
 Kac (α:=Bool) (
  if t1.Kind=3 then
   if x19.Key.Kind=3 then
    if x19.Key.Enum=0 then
     if x19.Value.Kind=4 then
      some (x19.Value.Enum !=0)
     else
     some true
    else
    some true
   else
   some true
  else
  some true) λj24=>
 if j24=true then
  some ((GValue.mk 0 0 0),8)
 else
 (sG x19 t2.Date t1.N (zad t0.N 8)).bind λx26=>
 (Qo 3 x26.1 x26.2).bind λx27=>
 some (x27.1,x27.2)
def jt(t0:Int):Option Int:=
 if t0<0 then
  some (ca .i64 (-t0))
 else
 some t0
def pG(t0:Int) (t1:Int) (t2:Int):Option (Int×Int):=
 (iw t2).bind λx1=>
 if x1=false then
  some (0,1)
 else
 if t1=0 then
  some (0,12)
 else
 Kac (α:=Bool) (
  (Ef t0 4611686018427387904).bind λx4=>
  if x4=false then
   (Ef t1 4611686018427387904).bind λx6=>
   some x6
  else
  some true) λj7=>
 if j7=true then
  some (0,3)
 else
 (jt t0).bind λx9=>
 (jt t1).bind λx10=>
 (quo .i64 x9 x10).bind λx11=>
 (rem .i64 x9 x10).bind λx12=>
 (jo x11 x12 x10 (!((decide (t0<0))==(decide (t1<0)))) t2).bind λx13=>
 some (x13,0)
def EJ(t0:Int) (t1:Int) (t2:Int) (t3:Int):Option (Int×Int):=
 (iw t3).bind λx1=>
 if x1=false then
  some (0,1)
 else
 if t2=0 then
  some (0,12)
 else
 Kac (α:=Bool) (
  (Ef t0 1000000000000000).bind λx4=>
  if x4=false then
   (Ef t1 1000000000).bind λx6=>
   if x6=false then
    (Ef t2 1000000000).bind λx8=>
    some x8
   else
   some true
  else
  some true) λj9=>
 if j9=true then
  some (0,3)
 else
 (jt t0).bind λx11=>
 (jt t1).bind λx12=>
 (jt t2).bind λx13=>
 Kac (α:=Bool) (
  if 0<x12 then
   (quo .i64 x11 x13).bind λx15=>
   (quo .i64 1000000000000000 x12).bind λx16=>
   some (decide (x16<x15))
  else
  some false) λj17=>
 if j17=true then
  some (0,3)
 else
 (rem .i64 x11 x13).bind λx19=>
 (quo .i64 x11 x13).bind λx20=>
 (quo .i64 (ca .i64 (x19*x12)) x13).bind λx21=>
 (rem .i64 (ca .i64 (x19*x12)) x13).bind λx22=>
 (jo (ca .i64 ((ca .i64 (x20*x12))+x21)) x22 x13 (!((!((decide (t0<0))==(decide (t1<0))))==(decide (t2<0)))) t3).bind λx23=>
 (Ef x23 1000000000000000).bind λx24=>
 if x24=true then
  some (0,3)
 else
 some (x23,0)
def RL(t0:Int) (t1:Int) (t2:Int):Option (Int×Int):=
 (EJ t0 t1 1000000 t2).bind λx1=>
 some (x1.1,x1.2)
def MH(t0:Int) (t1:Int) (t2:Int):Option (GValue×Int):=
 (YA t0).bind λx1=>
 Kac (α:=Int) (
  if t1<0 then
   some (ca .i64 (0-t1))
  else
  some t1) λj3=>
 Kac (α:=Int) (
  if t2<0 then
   some (ca .i64 (0-t2))
  else
  some t2) λj5=>
 Kac (α:=Bool) (
  if¬j5=0 then
   (quo .i64 x1.2 j5).bind λx7=>
   some (decide (x7<j3))
  else
  some false) λj8=>
 if j8=true then
  some ((GValue.mk 0 0 0),3)
 else
 (Zd t0 (ca .i64 (t1*t2))).bind λx10=>
 some (x10.1,x10.2)
def Zk(t0:Int) (t1:Int):Option Bool:=
 Kac (α:=Bool) (
  if¬t1<t0 then
   some (decide (t0<(ca .i64 (0-t1))))
  else
  some true) λj2=>
 some j2
def wD(t0:Int) (t1:Int):Option (Int×Int):=
 (quo .i64 t0 t1).bind λx1=>
 (rem .i64 t0 t1).bind λx2=>
 if x2<0 then
  some ((ca .i64 (x1-1)),(ca .i64 (x2+t1)))
 else
 some (x1,x2)
def sz(t0:Int) (t1:Int) (t2:Int) (t3:Int):Option Int:=
 if t1=0 then
  some t0
 else
 Kac (α:=Bool) (
  if¬t3=1 then
   if t3=2 then
    if¬t0<0 then
     if t3=3 then
      some (decide (0<=t0))
     else
     some false
    else
    some true
   else
   if t3=3 then
    some (decide (0<=t0))
   else
   some false
  else
  some true) λj7=>
 Kac (α:=Bool) (
  Kac (α:=Bool) (
   if¬t3=4 then
    some (t3==5)
   else
   some true) λj9=>
  if j9=true then
   if t1=(ca .i64 (t2-t1))then
    if t3=4 then
     if¬0<=t0 then
      if t3=5 then
       some ((zad t0 2) !=0)
      else
      some false
     else
     some true
    else
    if t3=5 then
     some ((zad t0 2) !=0)
    else
    some false
   else
   some (decide ((ca .i64 (t2-t1))<t1))
  else
  some j7) λj16=>
 if j16=true then
  some (ca .i64 (t0+1))
 else
 some t0
def gR(t0:Int) (t1:Int) (t2:Int):Option (Int×Int):=
 Kac (α:=Bool) (
  if¬t2<0 then
   some (decide (5<t2))
  else
  some true) λj2=>
 if j2=true then
  some (0,1)
 else
 Kac (α:=Bool) (
  (Zk t0 1000000000).bind λx4=>
  if x4=false then
   (Zk t1 1000000000).bind λx6=>
   some x6
  else
  some true) λj7=>
 if j7=true then
  some (0,3)
 else
 (wD (ca .i64 (t0*t1)) 1000000).bind λx9=>
 (sz x9.1 x9.2 1000000 t2).bind λx10=>
 (Zk x10 1000000000).bind λx11=>
 if x11=true then
  some (0,3)
 else
 some (x10,0)
def VD(t0:Int) (t1:Int) (t2:Int):Option (Int×Int):=
 Kac (α:=Bool) (
  if¬t2<0 then
   some (decide (5<t2))
  else
  some true) λj2=>
 if j2=true then
  some (0,1)
 else
 if t1=0 then
  some (0,12)
 else
 Kac (α:=Bool) (
  (Zk t0 1000000000000000).bind λx5=>
  if x5=false then
   (Zk t1 1000000000000000).bind λx7=>
   some x7
  else
  some true) λj8=>
 if j8=true then
  some (0,3)
 else
 Kac (α:=(Int×Int)) (
  if t1<0 then
   some ((ca .i64 (0-t0)),(ca .i64 (0-t1)))
  else
  some (t0,t1)) λ(j11,j12)=>
 (wD j11 j12).bind λx13=>
 (Zk x13.1 1001).bind λx14=>
 if x14=true then
  some (0,3)
 else
 (quo .i64 (ca .i64 (x13.2*1000)) j12).bind λx16=>
 (rem .i64 (ca .i64 (x13.2*1000)) j12).bind λx17=>
 (quo .i64 (ca .i64 (x17*1000)) j12).bind λx18=>
 (rem .i64 (ca .i64 (x17*1000)) j12).bind λx19=>
 (sz (ca .i64 ((ca .i64 ((ca .i64 (x13.1*1000000))+(ca .i64 (x16*1000))))+x18)) x19 j12 t2).bind λx20=>
 (Zk x20 1000000000).bind λx21=>
 if x21=true then
  some (0,3)
 else
 some (x20,0)
def CH(t0:Int) (t1:Int) (t2:Int):Option (Int×Int):=
 (iw t2).bind λx1=>
 if x1=false then
  some (0,1)
 else
 if t1<1 then
  some (0,12)
 else
 Kac (α:=Bool) (
  (Ef t0 1000000000000000).bind λx4=>
  if x4=false then
   some (decide (1000000000000000<t1))
  else
  some true) λj6=>
 if j6=true then
  some (0,3)
 else
 (jt t0).bind λx8=>
 (quo .i64 x8 t1).bind λx9=>
 (rem .i64 x8 t1).bind λx10=>
 (jo x9 x10 t1 (decide (t0<0)) t2).bind λx11=>
 (Ef (ca .i64 (x11*t1)) 1000000000000000).bind λx12=>
 if x12=true then
  some (0,3)
 else
 some ((ca .i64 (x11*t1)),0)
def NJ(t0:GNode) (t1:GValue) (t2:GValue):Option (GValue×Int):=
 Kac (α:=(Bool×Bool)) (
  if t0.Op=13 then
   if t2.Kind=2 then
    if¬t1.Kind=3 then
     some (false,(t1.Kind==2))
    else
    some (true,true)
   else
   some ((t1.Kind==3),false)
  else
  some ((t1.Kind==3),false)) λ(j4,j5)=>
 if j5=true then
  (MH t1.Kind t1.N t2.N).bind λx7=>
  some (x7.1,x7.2)
 else
 Kac (α:=Bool) (
  if t0.Op=14 then
   if t2.Kind=4 then
    some j4
   else
   some false
  else
  some false) λj10=>
 if j10=true then
  (RL t1.N t2.N t0.N).bind λx12=>
  (Qo t1.Kind x12.1 x12.2).bind λx13=>
  some (x13.1,x13.2)
 else
 Kac (α:=Bool) (
  if t0.Op=14 then
   if t2.Kind=4 then
    some (t1.Kind==4)
   else
   some false
  else
  some false) λj16=>
 if j16=true then
  (gR t1.N t2.N t0.N).bind λx18=>
  (Qo t1.Kind x18.1 x18.2).bind λx19=>
  some (x19.1,x19.2)
 else
 Kac (α:=(Bool×Bool)) (
  if t0.Op=15 then
   if j4=true then
    some (true,(t2.Kind==3))
   else
   some (false,false)
  else
  some (j4,false)) λ(j22,j23)=>
 if j23=true then
  (VD t1.N t2.N t0.N).bind λx25=>
  (Qo 4 x25.1 x25.2).bind λx26=>
  some (x26.1,x26.2)
 else
 Kac (α:=(Bool×Bool)) (
  if t0.Op=15 then
   if t2.Kind=2 then
    if j22=false then
     some (false,(t1.Kind==2))
    else
    some (true,true)
   else
   some (j22,false)
  else
  some (j22,false)) λ(j30,j31)=>
 if j31=true then
  (pG t1.N t2.N t0.N).bind λx33=>
  (Qo t1.Kind x33.1 x33.2).bind λx34=>
  some (x34.1,x34.2)
 else
 Kac (α:=Bool) (
  if t0.Op=16 then
   if j30=true then
    some (t2.Kind==3)
   else
   some false
  else
  some false) λj37=>
 if j37=true then
  (CH t1.N t2.N t0.N).bind λx39=>
  (Qo t1.Kind x39.1 x39.2).bind λx40=>
  some (x40.1,x40.2)
 else
 some ((GValue.mk 0 0 0),8)
def vC(t0:Int):(Int×Int)->Option (Ex (Int×Int) Int Unit):=λ(s7,s8)=>
 if s8<t0 then
  (Jq s8).bind λx10=>
  some (Ex.go ((ca .i64 (s7+x10)),(ca .i64 (s8+1))))
 else
 some (Ex.brk s7)
def uC(t0:Int) (t1:Int):(Int×Int)->Option (Ex (Int×Int) Int Unit):=λ(s14,s15)=>
 if s15<t1 then
  (cj t0 s15).bind λx17=>
  some (Ex.go ((ca .i64 (s14+x17)),(ca .i64 (s15+1))))
 else
 some (Ex.brk s14)
def DH(t0:Int) (t1:Int) (t2:Int):Option (Int×Int):=
 Kac (α:=Bool) (
  if¬t0<1900 then
   if¬2199<t0 then
    if¬t2<1 then
     (cj t0 t1).bind λx4=>
     some (decide (x4<t2))
    else
    some true
   else
   some true
  else
  some true) λj5=>
 if j5=true then
  some (0,3)
 else
 (da (vC t0) ((ca .i64 (t2-1)),1900)).bind λy=>match y with
 |.inr _=>none
 |.inl b13=>
 (da (uC t0 t1) (b13,1)).bind λy=>match y with
 |.inr _=>none
 |.inl b20=>
 some (b20,0)
def Kw(t0:Int) (t1:Int):Option (Int×Int):=
 Kac (α:=Bool) (
  (Mu t0).bind λx1=>
  if x1=true then
   if¬t1<(-3600)then
    some (decide (3600<t1))
   else
   some true
  else
  some true) λj4=>
 if j4=true then
  some (0,3)
 else
 (xD t0).bind λx6=>
 (cj (ca .i64 (sad (ca .i64 ((ca .i64 ((ca .i64 ((ca .i64 (12*x6.1))+x6.2.1))-1))+t1)) 12)) (ca .i64 ((zad (ca .i64 ((ca .i64 ((ca .i64 ((ca .i64 (12*x6.1))+x6.2.1))-1))+t1)) 12)+1))).bind λx7=>
 (DH (ca .i64 (sad (ca .i64 ((ca .i64 ((ca .i64 ((ca .i64 (12*x6.1))+x6.2.1))-1))+t1)) 12)) (ca .i64 ((zad (ca .i64 ((ca .i64 ((ca .i64 ((ca .i64 (12*x6.1))+x6.2.1))-1))+t1)) 12)+1)) (min x6.2.2 x7)).bind λx8=>
 some (x8.1,x8.2)
def Tw(t0:Int) (t1:Int):Int->Option (Ex Int Empty Int):=λs6=>
 (Kw t0 (ca .i64 (12*(ca .i64 (s6+1))))).bind λx7=>
 Kac (α:=Bool) (
  if x7.2=0 then
   some (decide (t1<x7.1))
  else
  some true) λj9=>
 if j9=true then
  some (Ex.ret s6)
 else
 some (Ex.go (ca .i64 (s6+1)))
def Pz(t0:Int) (t1:Int):Option Int:=
 Kac (α:=Bool) (
  (Mu t0).bind λx1=>
  if x1=true then
   (Mu t1).bind λx3=>
   some (!x3)
  else
  some true) λj4=>
 if j4=true then
  some 0
 else
 (da (Tw t0 t1) 0).bind λy=>match y with
 |.inr v=>some v
 |.inl b=>b.elim
def TL(t0:Int) (t1:GValue) (t2:GValue):Option (GValue×Int):=
 if¬t1.Kind=5 then
  some ((GValue.mk 0 0 0),8)
 else
 Kac (α:=Bool) (
  if¬t0=27 then
   some (t0==28)
  else
  some true) λj3=>
 if j3=true then
  if¬t2.Kind=2 then
   some ((GValue.mk 0 0 0),8)
  else
  if t0=27 then
   (Zd 5 (ca .i64 (t1.N+t2.N))).bind λx7=>
   some (x7.1,x7.2)
  else
  (Kw t1.N t2.N).bind λx8=>
  (Qo 5 x8.1 x8.2).bind λx9=>
  some (x9.1,x9.2)
 else
 if¬t2.Kind=5 then
  some ((GValue.mk 0 0 0),8)
 else
 if t0=29 then
  (Zd 2 (ca .i64 (t2.N-t1.N))).bind λx12=>
  some (x12.1,x12.2)
 else
 (Pz t1.N t2.N).bind λx13=>
 (Zd 2 x13).bind λx14=>
 some (x14.1,x14.2)
def uG(t0:Int) (t1:GValue) (t2:GValue):Option (GValue×Int):=
 Kac (α:=Bool) (
  if t1.Kind=t2.Kind then
   some (t1.Enum !=t2.Enum)
  else
  some true) λj2=>
 if j2=true then
  some ((GValue.mk 0 0 0),8)
 else
 if t0=19 then
  (Hk (t1.N==t2.N)).bind λx5=>
  some (x5.1,x5.2)
 else
 if t0=20 then
  (Hk (t1.N !=t2.N)).bind λx7=>
  some (x7.1,x7.2)
 else
 Kac (α:=Bool) (
  if t0=23 then
   some true
  else
  some (t0==24)) λj9=>
 if j9=true then
  if¬t1.Kind=1 then
   some ((GValue.mk 0 0 0),8)
  else
  Kac (α:=(Int×Int×Int×Int)) (
   if¬(ca .i64 (t1.N+t2.N))=2 then
    if t0=24 then
     (Hk ((ca .i64 (t1.N+t2.N))==1)).bind λx14=>
     some (x14.1.Kind,x14.1.Enum,x14.1.N,x14.2)
    else
    (Hk false).bind λx15=>
    some (x15.1.Kind,x15.1.Enum,x15.1.N,x15.2)
   else
   (Hk true).bind λx16=>
   some (x16.1.Kind,x16.1.Enum,x16.1.N,x16.2)) λ(j17,j18,j19,j20)=>
  some ((GValue.mk j17 j18 j19),j20)
 else
 Kac (α:=Bool) (
  if t0=11 then
   some true
  else
  some (t0==12)) λj22=>
 if j22=true then
  (jw t1.Kind).bind λx24=>
  if x24=false then
   some ((GValue.mk 0 0 0),8)
  else
  if t0=11 then
   (Zd t1.Kind (ca .i64 (t1.N+t2.N))).bind λx27=>
   some (x27.1,x27.2)
  else
  (Zd t1.Kind (ca .i64 (t1.N-t2.N))).bind λx28=>
  some (x28.1,x28.2)
 else
 Kac (α:=Bool) (
  (jw t1.Kind).bind λx29=>
  if x29=false then
   some (t1.Kind !=5)
  else
  some false) λj31=>
 if j31=true then
  some ((GValue.mk 0 0 0),8)
 else
 if t0=21 then
  (Hk (decide (t1.N<t2.N))).bind λx34=>
  some (x34.1,x34.2)
 else
 if t0=22 then
  (Hk (decide (t1.N<=t2.N))).bind λx36=>
  some (x36.1,x36.2)
 else
 if(t0==17)=(decide (t1.N<t2.N))then
  some (t1,0)
 else
 some (t2,0)
def IJ(t0:GNode) (t1:GValue) (t2:GValue):Option (GValue×Int):=
 Kac (α:=Bool) (
  if 13<=t0.Op then
   some (decide (t0.Op<=16))
  else
  some false) λj2=>
 if j2=true then
  (NJ t0 t1 t2).bind λx4=>
  some (x4.1,x4.2)
 else
 if 27<=t0.Op then
  (TL t0.Op t1 t2).bind λx6=>
  some (x6.1,x6.2)
 else
 (uG t0.Op t1 t2).bind λx7=>
 some (x7.1,x7.2)
def tG(t1:List GValue):Int->Option (Ex Int Unit (GValue×Int)):=λs5=>
 if s5<(t1.length:Int)then
  (idx t1 s5).bind λx7=>
  (Qd x7).bind λx8=>
  if x8=false then
   some (Ex.ret ((GValue.mk 0 0 0),8))
  else
  some (Ex.go (ca .i64 (s5+1)))
 else
 some (Ex.brk ())
def SL(t0:GNode) (t1:List GValue) (t2:GEnv):Option (GValue×Int):=
 (JJ t0 (t1.length:Int)).bind λx1=>
 if x1=false then
  some ((GValue.mk 0 0 0),2)
 else
 (UL t0 t2).bind λx3=>
 if x3=false then
  some ((GValue.mk 0 0 0),6)
 else
 (da (tG t1) 0).bind λy=>match y with
 |.inr v=>some v
 |.inl _=>
 if(t1.length:Int)=0 then
  Kac (α:=Bool) (
   if 36<=t0.Op then
    some (decide (t0.Op<=39))
   else
   some false) λj13=>
  if j13=true then
   (LH t0 t2).bind λx15=>
   some (x15.1,x15.2)
  else
  (JH t0 t2).bind λx16=>
  some (x16.1,x16.2)
 else
 if(t1.length:Int)=1 then
  (idx t1 0).bind λx18=>
  (OJ t0 x18 t2).bind λx19=>
  some (x19.1,x19.2)
 else
 if(t1.length:Int)=2 then
  (idx t1 0).bind λx21=>
  (idx t1 1).bind λx22=>
  (IJ t0 x21 x22).bind λx23=>
  some (x23.1,x23.2)
 else
 (idx t1 0).bind λx24=>
 (idx t1 1).bind λx25=>
 (idx t1 2).bind λx26=>
 Kac (α:=Bool) (
  if x24.Kind=1 then
   if x25.Kind=x26.Kind then
    some (x25.Enum !=x26.Enum)
   else
   some true
  else
  some true) λj29=>
 if j29=true then
  some ((GValue.mk 0 0 0),8)
 else
 if x24.N=1 then
  some (x25,0)
 else
 some (x26,0)
def vG(t0:List GNode) (t2:GEnv) (x1:List Int) (R345:((List GNode)->Int->GEnv->Option (GValue×Int))):((List GValue)×Int)->Option (Ex ((List GValue)×Int) (List GValue) (GValue×Int)):=λ(s8,s9)=>
 if s9<(x1.length:Int)then
  (idx x1 s9).bind λx11=>
  (R345 t0 x11 t2).bind λx12=>
  if¬x12.2=0 then
   some (Ex.ret ((GValue.mk 0 0 0),x12.2))
  else
  (app 24 s8 ([x12.1])).bind λx14=>
  some (Ex.go (x14,(ca .i64 (s9+1))))
 else
 some (Ex.brk s8)
def NH(R345:((List GNode)->Int->GEnv->Option (GValue×Int))) (R458:((List GNode)->Int->(List Int)->GEnv->Option (GValue×Int))) (t0:List GNode) (t1:Int) (t2:GEnv):Option (GValue×Int):=
 (ck t0 t1).bind λx1=>
 (idx t0 t1).bind λx2=>
 Kac (α:=Bool) (
  if¬x2.Op=23 then
   if¬x2.Op=24 then
    some (x2.Op==26)
   else
   some true
  else
  some true) λj5=>
 if j5=true then
  (R458 t0 t1 x1 t2).bind λx7=>
  some (x7.1,x7.2)
 else
 (da (vG t0 t2 x1 R345) (([]:List GValue),0)).bind λy=>match y with
 |.inr v=>some v
 |.inl b17=>
 (SL x2 b17 t2).bind λx18=>
 some (x18.1,x18.2)
def LJ(R345:((List GNode)->Int->GEnv->Option (GValue×Int))) (R458:((List GNode)->Int->(List Int)->GEnv->Option (GValue×Int))) (t0:List GNode) (t1:Int) (t2:List Int) (t3:GEnv):Option (GValue×Int):=
 (idx t0 t1).bind λx1=>
 if¬x1.N=0 then
  some ((GValue.mk 0 0 0),2)
 else
 (idx t2 0).bind λx3=>
 (R345 t0 x3 t3).bind λx4=>
 if¬x4.2=0 then
  some ((GValue.mk 0 0 0),x4.2)
 else
 Kac (α:=Bool) (
  if x4.1.Kind=1 then
   (Qd x4.1).bind λx7=>
   some (!x7)
  else
  some true) λj8=>
 if j8=true then
  some ((GValue.mk 0 0 0),8)
 else
 if x1.Op=26 then
  if x4.1.N=1 then
   (idx t2 1).bind λx12=>
   (R345 t0 x12 t3).bind λx13=>
   some (x13.1,x13.2)
  else
  (idx t2 2).bind λx14=>
  (R345 t0 x14 t3).bind λx15=>
  some (x15.1,x15.2)
 else
 if(x1.Op==23)=(x4.1.N==0)then
  some (x4.1,0)
 else
 (idx t2 1).bind λx17=>
 (R345 t0 x17 t3).bind λx18=>
 if¬x18.2=0 then
  some ((GValue.mk 0 0 0),x18.2)
 else
 Kac (α:=Bool) (
  if x18.1.Kind=1 then
   (Qd x18.1).bind λx21=>
   some (!x21)
  else
  some true) λj22=>
 if j22=true then
  some ((GValue.mk 0 0 0),8)
 else
 some (x18.1,0)
def Un:Nat->((List GNode)->Int->GEnv->Option (GValue×Int))×((List GNode)->Int->(List Int)->GEnv->Option (GValue×Int))
 |0=>(λ_ _ _=>none,λ_ _ _ _=>none)
 |n+1=>(NH (Un n).1 (Un n).2,LJ (Un n).1 (Un n).2)
def VL(t0:List GNode) (t1:Int) (t2:GEnv):Option (GValue×Int):=(Un br).1 t0 t1 t2
def GN(t0:List GNode) (t1:GEnv):Option (GValue×Int):=
 (GJ t0).bind λx1=>
 if¬x1.2=0 then
  some ((GValue.mk 0 0 0),x1.2)
 else
 (VL t0 (ca .i64 ((t0.length:Int)-1)) t1).bind λx3=>
 some (x3.1,x3.2)
def aB(t0:List Int) (t1:List Int):Int->Option (Ex Int Unit Int):=λs3=>
 if s3<(t0.length:Int)then
  Kac (α:=Bool) (
   (idx t0 s3).bind λx5=>
   if¬x5<(-1)then
    some (decide (s3<=x5))
   else
   some true) λj7=>
  if j7=true then
   some (Ex.ret 9)
  else
  Kac (α:=Bool) (
   (idx t1 s3).bind λx9=>
   if¬x9<0 then
    some (decide (9<x9))
   else
   some true) λj11=>
  if j11=true then
   some (Ex.ret 3)
  else
  some (Ex.go (ca .i64 (s3+1)))
 else
 some (Ex.brk ())
def xG(t0:List Int) (t1:List Int):Option Int:=
 if¬(t0.length:Int)=(t1.length:Int)then
  some 2
 else
 if 8<(t0.length:Int)then
  some 4
 else
 (da (aB t0 t1) 0).bind λy=>match y with
 |.inr v=>some v
 |.inl _=>
 some 0
def ZA(t0:List Int) (t1:Int):((List Int)×Int)->Option (Ex ((List Int)×Int) (List Int) Unit):=λ(s1,s2)=>
 if s2<(t0.length:Int)then
  Kac (α:=(List Int)) (
   (idx t0 s2).bind λx4=>
   if x4=t1 then
    (app 8 s1 ([s2])).bind λx6=>
    some x6
   else
   some s1) λj7=>
  some (Ex.go (j7,(ca .i64 (s2+1))))
 else
 some (Ex.brk s1)
def wG(t0:List Int) (t1:Int):Option (List Int):=
 (da (ZA t0 t1) ([],0)).bind λy=>match y with
 |.inr _=>none
 |.inl b10=>
 some b10
def EC(R347:((List Int)->(List Int)->(List Bool)->Int->Option Int)) (R348:((List Int)->(List Int)->(List Bool)->Int->Option (List Int))) (R460:((List Int)->(List Int)->(List Bool)->Int->Option Int)) (t0:List Int) (t1:List Int) (t2:List Bool) (t3:Int):Option Int:=
 (R348 t0 t1 t2 t3).bind λx1=>
 if(x1.length:Int)=0 then
  some (-1)
 else
 if 1<(x1.length:Int)then
  some (-2)
 else
 (idx x1 0).bind λx4=>
 (R460 t0 t1 t2 x4).bind λx5=>
 some x5
def OH(t0:List Int) (t1:List Int) (t2:List Bool) (x1:List Int) (R460:((List Int)->(List Int)->(List Bool)->Int->Option Int)):((List Int)×Int)->Option (Ex ((List Int)×Int) (List Int) Unit):=λ(s2,s3)=>
 if s3<(x1.length:Int)then
  Kac (α:=(List Int)) (
   (idx x1 s3).bind λx5=>
   (R460 t0 t1 t2 x5).bind λx6=>
   if x6=(-1)then
    some s2
   else
   Kac (α:=(List Int)) (
    Kac (α:=Bool) (
     if 0<(s2.length:Int)then
      (idx t1 x5).bind λx9=>
      (idx s2 0).bind λx10=>
      (idx t1 x10).bind λx11=>
      some (decide (x11<x9))
     else
     some false) λj12=>
    if j12=true then
     some ([])
    else
    some s2) λj14=>
   Kac (α:=Bool) (
    if¬(j14.length:Int)=0 then
     (idx t1 x5).bind λx16=>
     (idx j14 0).bind λx17=>
     (idx t1 x17).bind λx18=>
     some (x16==x18)
    else
    some true) λj19=>
   if j19=true then
    (app 8 j14 ([x5])).bind λx21=>
    some x21
   else
   some j14) λj22=>
  some (Ex.go (j22,(ca .i64 (s3+1))))
 else
 some (Ex.brk s2)
def QJ(R347:((List Int)->(List Int)->(List Bool)->Int->Option Int)) (R348:((List Int)->(List Int)->(List Bool)->Int->Option (List Int))) (R460:((List Int)->(List Int)->(List Bool)->Int->Option Int)) (t0:List Int) (t1:List Int) (t2:List Bool) (t3:Int):Option (List Int):=
 (wG t0 t3).bind λx1=>
 (da (OH t0 t1 t2 x1 R460) ([],0)).bind λy=>match y with
 |.inr _=>none
 |.inl b25=>
 some b25
def ZD(R347:((List Int)->(List Int)->(List Bool)->Int->Option Int)) (R348:((List Int)->(List Int)->(List Bool)->Int->Option (List Int))) (R460:((List Int)->(List Int)->(List Bool)->Int->Option Int)) (t0:List Int) (t1:List Int) (t2:List Bool) (t3:Int):Option Int:=
 (R347 t0 t1 t2 t3).bind λx1=>
 Kac (α:=Bool) (
  if x1=(-1)then
   (idx t2 t3).bind λx3=>
   some x3
  else
  some false) λj4=>
 if j4=true then
  some t3
 else
 some x1
def Ac:Nat->((List Int)->(List Int)->(List Bool)->Int->Option Int)×((List Int)->(List Int)->(List Bool)->Int->Option (List Int))×((List Int)->(List Int)->(List Bool)->Int->Option Int)
 |0=>(λ_ _ _ _=>none,λ_ _ _ _=>none,λ_ _ _ _=>none)
 |n+1=>(EC (Ac n).1 (Ac n).2.1 (Ac n).2.2,QJ (Ac n).1 (Ac n).2.1 (Ac n).2.2,ZD (Ac n).1 (Ac n).2.1 (Ac n).2.2)
def yG(t0:List Int) (t1:List Int) (t2:List Bool) (t3:Int):Option Int:=(Ac br).1 t0 t1 t2 t3
def PJ(t0:List Int) (t1:List Int) (t2:List Bool):Option Int:=
 Kac (α:=Bool) (
  (xG t0 t1).bind λx1=>
  if x1=0 then
   some ((t2.length:Int) !=(t0.length:Int))
  else
  some true) λj3=>
 if j3=true then
  some (-1)
 else
 (yG t0 t1 t2 (-1)).bind λx5=>
 some x5
def iB(t0:GScope) (t2:Int) (t3:List GValue) (x1:((List Int)×(List Int)×(List Int))):((List Bool)×Int)->Option (Ex ((List Bool)×Int) (List Bool) Unit):=λ(s2,s3)=>
 if s3<(x1.1.length:Int)then
  Kac (α:=(List Bool)) (
   (idx x1.1 s3).bind λx5=>
   (idx t0.Rules x5).bind λx6=>
   Kac (α:=(Int×Int×Int×Int)) (
    if 0<(x6.Guard.length:Int)then
     (GN x6.Guard (GEnv.mk t2 t3 ([]) ([]) ([]) ([]))).bind λx8=>
     some (x8.1.Kind,x8.1.Enum,x8.1.N,x8.2)
    else
    some (0,0,1,0)) λ(j9,j10,j11,j12)=>
   if j12=0 then
    (app 1 s2 ([(j11==1)])).bind λx14=>
    some x14
   else
   (app 1 s2 ([false])).bind λx15=>
   some x15) λj16=>
  some (Ex.go (j16,(ca .i64 (s3+1))))
 else
 some (Ex.brk s2)
def EG(t0:GScope) (t1:Int) (t2:Int) (t3:List GValue):Option Int:=
 (RJ t0 t1 t2).bind λx1=>
 (da (iB t0 t2 t3 x1) ([],0)).bind λy=>match y with
 |.inr _=>none
 |.inl b19=>
 (PJ x1.2.1 x1.2.2 b19).bind λx20=>
 if x20<0 then
  some x20
 else
 (idx x1.1 x20).bind λx22=>
 some x22
def mB(t0:GScope) (t1:(List (List Int))) (s2:List Int):((List GValue)×Int)->Option (Ex ((List GValue)×Int) (List GValue) Unit):=λ(s5,s6)=>
 if s6<(t1.length:Int)then
  (idx t0.Inputs s6).bind λx8=>
  (idx t1 s6).bind λx9=>
  (idx s2 s6).bind λx10=>
  (idx x9 x10).bind λx11=>
  (app 24 s5 ([(GValue.mk x8.Type_.Kind x8.Type_.Enum x11)])).bind λx12=>
  some (Ex.go (x12,(ca .i64 (s6+1))))
 else
 some (Ex.brk s5)
def jB(t0:GScope) (t1:(List (List Int))) (s2:List Int):Option (List GValue):=
 (da (mB t0 t1 s2) ([],0)).bind λy=>match y with
 |.inr _=>none
 |.inl b15=>
 some b15
def nB(t1:(List (List Int))):((List Int)×Int)->Option (Ex ((List Int)×Int) (List Int) ((List Int)×Bool)):=λ(s20,s21)=>
 if 0<=s21 then
  (idx s20 s21).bind λx23=>
  (put s20 s21 (ca .i64 (x23+1))).bind λx24=>
  (idx x24 s21).bind λx25=>
  (idx t1 s21).bind λx26=>
  if x25<(x26.length:Int)then
   some (Ex.ret (x24,true))
  else
  (put x24 s21 0).bind λx28=>
  some (Ex.go (x28,(ca .i64 (s21-1))))
 else
 some (Ex.brk s20)
def kB(t1:(List (List Int))) (s2:List Int):Option ((List Int)×Bool):=
 (da (nB t1) (s2,(ca .i64 ((t1.length:Int)-1)))).bind λy=>match y with
 |.inr v=>some v
 |.inl b31=>
 some (b31,false)
def oB(t0:GScope) (t1:(List (List Int))) (t2:Int) (t3:Int):((List Int)×Bool)->Option (Ex ((List Int)×Bool) Unit ((List GValue)×Bool)):=λ(s2,s3)=>
 if s3=true then
  (jB t0 t1 s2).bind λi16=>
  (idx t0.Rules t2).bind λx17=>
  (EG t0 x17.Def t3 i16).bind λx18=>
  if x18=t2 then
   some (Ex.ret (i16,true))
  else
  (kB t1 s2).bind λ(i32,i33)=>
  some (Ex.go (i32,i33))
 else
 some (Ex.brk ())
def RH(t0:GScope) (t1:(List (List Int))) (t2:Int) (t3:Int):Option ((List GValue)×Bool):=
 (Ww 8 0 (t1.length:Int) (t1.length:Int)).bind λx1=>
 (da (oB t0 t1 t2 t3) (x1,true)).bind λy=>match y with
 |.inr v=>some v
 |.inl _=>
 some ([],false)
def QH(t3:Int) (x1:((List (List Int))×Int)) (x3:GScope) (x4:List Int):((List Int)×Int)->Option (Ex ((List Int)×Int) (List Int) Unit):=λ(s5,s6)=>
 if s6<(x4.length:Int)then
  Kac (α:=(List Int)) (
   (idx x4 s6).bind λx8=>
   (RH x3 x1.1 x8 t3).bind λx9=>
   if x9.2=false then
    (app 8 s5 ([x8])).bind λx11=>
    some x11
   else
   some s5) λj12=>
  some (Ex.go (j12,(ca .i64 (s6+1))))
 else
 some (Ex.brk s5)
def DG(t0:GLaw) (t1:Int) (t2:Int) (t3:Int):Option ((List Int)×Int):=
 (Ro t0 t1 t2 t3).bind λx1=>
 if¬x1.2=0 then
  some ([],x1.2)
 else
 (idx t0.Scopes t1).bind λx3=>
 (Fj x3 t2 t3).bind λx4=>
 (da (QH t3 x1 x3 x4) ([],0)).bind λy=>match y with
 |.inr _=>none
 |.inl b15=>
 some (b15,0)
def Vs(x1:((List (List Int))×Int)):(Int×Int)->Option (Ex (Int×Int) Int Unit):=λ(s2,s3)=>
 if s3<(x1.1.length:Int)then
  (idx x1.1 s3).bind λx5=>
  some (Ex.go ((ca .i64 (s2*(x5.length:Int))),(ca .i64 (s3+1))))
 else
 some (Ex.brk s2)
def bt(t0:GLaw) (t1:Int) (t2:Int) (t3:Int):Option Bool:=
 (Ro t0 t1 t2 t3).bind λx1=>
 (da (Vs x1) (1,0)).bind λy=>match y with
 |.inr _=>none
 |.inl b8=>
 some (decide (b8<=600))
def Ab(t0:GLaw) (t1:List GValue) (t2:List GField):Int->Option (Ex Int Unit (Int×Int)):=λs3=>
 if s3<(t1.length:Int)then
  (idx t1 s3).bind λx5=>
  (idx t2 s3).bind λx6=>
  Kac (α:=Bool) (
   if x5.Kind=x6.Type_.Kind then
    some (x5.Enum !=x6.Type_.Enum)
   else
   some true) λj8=>
  if j8=true then
   some (Ex.ret (s3,8))
  else
  (jd x6.Type_ t0.Enums).bind λx10=>
  Kac (α:=Bool) (
   if¬x5.N<x10.1 then
    some (decide (x10.2<x5.N))
   else
   some true) λj12=>
  if j12=true then
   some (Ex.ret (s3,3))
  else
  some (Ex.go (ca .i64 (s3+1)))
 else
 some (Ex.brk ())
def Eb(t0:GLaw) (t1:List GValue) (t2:List GField):Option (Int×Int):=
 if(t1.length:Int)<(t2.length:Int)then
  some ((t1.length:Int),5)
 else
 if(t2.length:Int)<(t1.length:Int)then
  some ((t2.length:Int),4)
 else
 (da (Ab t0 t1 t2) 0).bind λy=>match y with
 |.inr v=>some v
 |.inl _=>
 some (0,0)
def bf(t0:GLaw) (t1:Int):Option ((List GField)×Int):=
 (idx t0.Scopes t1).bind λx1=>
 Kac (α:=Bool) (
  if¬x1.MemberScope<0 then
   some (decide ((t0.Scopes.length:Int)<=x1.MemberScope))
  else
  some true) λj3=>
 if j3=true then
  some ([],0)
 else
 (idx t0.Scopes x1.MemberScope).bind λx5=>
 some (x5.Inputs,8)
def fe(t0:GLaw) (t2:GCase) (x10:((List GField)×Int)):Int->Option (Ex Int Unit (Int×Int×Int)):=λs12=>
 if s12<(t2.Members.length:Int)then
  (idx t2.Members s12).bind λx14=>
  (Eb t0 x14 x10.1).bind λx15=>
  if¬x15.2=0 then
   some (Ex.ret (s12,x15.1,x15.2))
  else
  some (Ex.go (ca .i64 (s12+1)))
 else
 some (Ex.brk ())
def Be(t0:GLaw) (t1:Int) (t2:GCase):Option (Int×Int×Int):=
 Kac (α:=Bool) (
  if¬t1<0 then
   some (decide ((t0.Scopes.length:Int)<=t1))
  else
  some true) λj2=>
 if j2=true then
  some ((-1),(-1),6)
 else
 Kac (α:=Bool) (
  if¬t2.Date<0 then
   some (decide (109572<t2.Date))
  else
  some true) λj5=>
 if j5=true then
  some ((-1),(-1),3)
 else
 (idx t0.Scopes t1).bind λx7=>
 (Eb t0 t2.Inputs x7.Inputs).bind λx8=>
 if¬x8.2=0 then
  some ((-1),x8.1,x8.2)
 else
 (bf t0 t1).bind λx10=>
 if x10.2<(t2.Members.length:Int)then
  some (x10.2,(-1),4)
 else
 (da (fe t0 t2 x10) 0).bind λy=>match y with
 |.inr v=>some v
 |.inl _=>
 some (0,0,0)
def Lb(t0:GLaw) (t1:Int) (t2:GCase) (t3:Bool) (t4:Int):Option GEvalError:=
 (Wk t0).bind λx1=>
 if¬x1.Code=0 then
  some (GEvalError.mk 1 (-1) (-1) (-1))
 else
 Kac (α:=Bool) (
  if¬t1<0 then
   if¬(t0.Scopes.length:Int)<=t1 then
    if t3=true then
     if¬t4<0 then
      (idx t0.Scopes t1).bind λx7=>
      some (decide ((x7.Defs.length:Int)<=t4))
     else
     some true
    else
    some false
   else
   some true
  else
  some true) λj8=>
 if j8=true then
  some (GEvalError.mk 6 (-1) (-1) (-1))
 else
 (Be t0 t1 t2).bind λx10=>
 if¬x10.2.2=0 then
  some (GEvalError.mk x10.2.2 x10.1 (-1) (-1))
 else
 some (GEvalError.mk 0 0 0 0)
def Dh(t0:GScope) (t1:GEnv) (t2:Int) (t3:Int) (x1:((List Int)×(List Int)×(List Int))):((List Bool)×Int)->Option (Ex ((List Bool)×Int) (List Bool) (Int×GEvalError)):=λ(s3,s4)=>
 if s4<(x1.1.length:Int)then
  Kac (α:=((List Bool)⊕(Ex ((List Bool)×Int) (List Bool) (Int×GEvalError)))) (
   (idx x1.1 s4).bind λx6=>
   (idx t0.Rules x6).bind λx7=>
   if(x7.Guard.length:Int)=0 then
    (idx s3 s4).bind λx9=>
    (put s3 s4 true).bind λx10=>
    some (Sum.inl x10)
   else
   (Ra x7.Guard t1).bind λx11=>
   if¬x11.2=0 then
    some (Sum.inr (Ex.ret (0,(GEvalError.mk x11.2 t2 t3 x6))))
   else
   (idx s3 s4).bind λx13=>
   (put s3 s4 (x11.1.N==1)).bind λx14=>
   some (Sum.inl x14)) λz=>match z with
  |.inr v=>some v
  |.inl j15=>
  some (Ex.go (j15,(ca .i64 (s4+1))))
 else
 some (Ex.brk s3)
def xi(t0:GScope) (t1:GEnv) (t2:Int) (t3:Int):Option (Int×GEvalError):=
 (oe t0 t3 t1.Date).bind λx1=>
 (Ww 1 false (x1.1.length:Int) (x1.1.length:Int)).bind λx2=>
 (da (Dh t0 t1 t2 t3 x1) (x2,0)).bind λy=>match y with
 |.inr v=>some v
 |.inl b18=>
 (We x1.2.1 x1.2.2 b18).bind λx19=>
 if x19<0 then
  some (x19,(GEvalError.mk 0 0 0 0))
 else
 (idx x1.1 x19).bind λx21=>
 some (x21,(GEvalError.mk 0 0 0 0))
def ie(t0:GScope):Option ((List Int)×Int):=(Oc t0).bind λx=>some (gw x)
def re(t0:GScope) (t1:GEnv) (t2:Int) (t3:List Bool) (x3:((List Int)×Int)):((List GValue)×(List Int)×Int)->Option (Ex ((List GValue)×(List Int)×Int) ((List GValue)×(List Int)) (((List Int)×GEvalError)×GEnv)):=λ(s4,s5,s6)=>
 if s6<(x3.1.length:Int)then
  Kac (α:=(((List GValue)×(List Int))⊕(Ex ((List GValue)×(List Int)×Int) ((List GValue)×(List Int)) (((List Int)×GEvalError)×GEnv)))) (
   (idx x3.1 s6).bind λx8=>
   (idx t3 x8).bind λx9=>
   if x9=false then
    some (Sum.inl (s4,s5))
   else
   (xi t0 (GEnv.mk t1.Date t1.Inputs s4 t1.Members t1.MemberTypes t1.Tables) t2 x8).bind λx11=>
   if¬x11.2.Code=0 then
    some (Sum.inr (Ex.ret (([],x11.2),(GEnv.mk t1.Date t1.Inputs s4 t1.Members t1.MemberTypes t1.Tables))))
   else
   if x11.1=(-1)then
    some (Sum.inr (Ex.ret (([],(GEvalError.mk 10 t2 x8 (-1))),(GEnv.mk t1.Date t1.Inputs s4 t1.Members t1.MemberTypes t1.Tables))))
   else
   if x11.1=(-2)then
    some (Sum.inr (Ex.ret (([],(GEvalError.mk 11 t2 x8 (-1))),(GEnv.mk t1.Date t1.Inputs s4 t1.Members t1.MemberTypes t1.Tables))))
   else
   (idx t0.Rules x11.1).bind λx15=>
   (Ra x15.Value (GEnv.mk t1.Date t1.Inputs s4 t1.Members t1.MemberTypes t1.Tables)).bind λx16=>
   if¬x16.2=0 then
    some (Sum.inr (Ex.ret (([],(GEvalError.mk x16.2 t2 x8 x11.1)),(GEnv.mk t1.Date t1.Inputs s4 t1.Members t1.MemberTypes t1.Tables))))
   else
   (idx s4 x8).bind λx18=>
   (put s4 x8 x16.1).bind λx19=>
   (idx s5 x8).bind λx20=>
   (put s5 x8 x11.1).bind λx21=>
   some (Sum.inl (x19,x21))) λz=>match z with
  |.inr v=>some v
  |.inl (j22,j23)=>
  some (Ex.go (j22,j23,(ca .i64 (s6+1))))
 else
 some (Ex.brk (s4,s5))
def qe(t0:GScope) (t1:GEnv) (t2:Int) (t3:List Bool):Option (((List Int)×GEvalError)×GEnv):=
 (Ww 24 (GValue.mk 0 0 0) (t0.Defs.length:Int) (t0.Defs.length:Int)).bind λx1=>
 (Ww 8 0 (t0.Defs.length:Int) (t0.Defs.length:Int)).bind λx2=>
 (ie t0).bind λx3=>
 (da (re t0 t1 t2 t3 x3) (x1,x2,0)).bind λy=>match y with
 |.inr v=>some v
 |.inl (b27,b28)=>
 some ((b28,(GEvalError.mk 0 0 0 0)),(GEnv.mk t1.Date t1.Inputs b27 t1.Members t1.MemberTypes t1.Tables))
def Uk(t3:GInterp_needs):((List GType)×Int)->Option (Ex ((List GType)×Int) (List GType) Unit):=λ(s1,s2)=>
 if s2<(t3.memberScope.Defs.length:Int)then
  (idx t3.memberScope.Defs s2).bind λx4=>
  (app 16 s1 ([x4.Type_])).bind λx5=>
  some (Ex.go (x5,(ca .i64 (s2+1))))
 else
 some (Ex.brk s1)
def Ch(t0:GLaw) (t2:GCase) (t3:GInterp_needs):((List (List GValue))×(List GMemberResult)×Int)->Option (Ex ((List (List GValue))×(List GMemberResult)×Int) ((List (List GValue))×(List GMemberResult)) (GResult×GEnv×GEvalError)):=λ(s9,s10,s11)=>
 if s11<(t2.Members.length:Int)then
  (idx t2.Members s11).bind λx13=>
  (qe t3.memberScope (GEnv.mk t2.Date x13 ([]) ([]) ([]) t0.Tables) s11 t3.memberDefs).bind λx14=>
  if¬x14.1.2.Code=0 then
   some (Ex.ret ((GResult.mk ([]) ([]) ([])),(GEnv.mk 0 ([]) ([]) ([]) ([]) ([])),x14.1.2))
  else
  (app 24 s9 ([x14.2.Defs])).bind λx16=>
  (app 48 s10 ([(GMemberResult.mk x14.2.Defs x14.1.1)])).bind λx17=>
  some (Ex.go (x16,x17,(ca .i64 (s11+1))))
 else
 some (Ex.brk (s9,s10))
def wi(t0:GLaw) (t1:Int) (t2:GCase) (t3:GInterp_needs):Option (GResult×GEnv×GEvalError):=
 (da (Uk t3) (([]:List GType),0)).bind λy=>match y with
 |.inr _=>none
 |.inl b8=>
 (da (Ch t0 t2 t3) (([]:List (List GValue)),([]:List GMemberResult),0)).bind λy=>match y with
 |.inr v=>some v
 |.inl (b21,b22)=>
 (qe t3.scope (GEnv.mk t2.Date t2.Inputs ([]) b21 b8 t0.Tables) (-1) t3.defs).bind λx23=>
 if¬x23.1.2.Code=0 then
  some ((GResult.mk ([]) ([]) ([])),(GEnv.mk 0 ([]) ([]) ([]) ([]) ([])),x23.1.2)
 else
 some ((GResult.mk x23.2.Defs x23.1.1 b22),x23.2,(GEvalError.mk 0 0 0 0))
def Bt(x8:List Int):((List Bool)×Int)->Option (Ex ((List Bool)×Int) (List Bool) Unit):=λ(s9,s10)=>
 if s10<(x8.length:Int)then
  (idx x8 s10).bind λx12=>
  (idx s9 x12).bind λx13=>
  (put s9 x12 true).bind λx14=>
  some (Ex.go (x14,(ca .i64 (s10+1))))
 else
 some (Ex.brk s9)
def zt(t0:GScope) (b17:List Bool):((List Int)×Int)->Option (Ex ((List Int)×Int) (List Int) Unit):=λ(s18,s19)=>
 if s19<(t0.Rules.length:Int)then
  Kac (α:=(List Int)) (
   (idx t0.Rules s19).bind λx21=>
   Kac (α:=Bool) (
    if¬x21.Def<0 then
     if¬(t0.Defs.length:Int)<=x21.Def then
      (idx b17 x21.Def).bind λx24=>
      some (!x24)
     else
     some true
    else
    some true) λj25=>
   if j25=true then
    some s18
   else
   (Pd x21.Guard).bind λx27=>
   (Pd x21.Value).bind λx28=>
   (app 8 s18 x27.2.2).bind λx29=>
   (app 8 x29 x28.2.2).bind λx30=>
   some x30) λj31=>
  some (Ex.go (j31,(ca .i64 (s19+1))))
 else
 some (Ex.brk s18)
def Wr(t0:GScope) (t1:Int):Option (List Int):=
 Kac (α:=Bool) (
  if¬t1<0 then
   some (decide ((t0.Defs.length:Int)<=t1))
  else
  some true) λj2=>
 if j2=true then
  some ([])
 else
 (Ww 1 false (t0.Defs.length:Int) (t0.Defs.length:Int)).bind λx4=>
 (idx x4 t1).bind λx5=>
 (put x4 t1 true).bind λx6=>
 (Oc t0).bind λx7=>
 (Pk x7 t1).bind λx8=>
 (da (Bt x8) (x6,0)).bind λy=>match y with
 |.inr _=>none
 |.inl b17=>
 (da (zt t0 b17) (([]:List Int),0)).bind λy=>match y with
 |.inr _=>none
 |.inl b34=>
 (th b34).bind λx35=>
 some x35
def Ti(t0:GLaw) (x3:GScope):Option (ByteArray×Int×(List GField)×(List GField)×(List GRule)×ByteArray×Int×(List GField)×(List GField)×(List GRule)×(List Bool)×(List Bool)):=
 (Ww 1 false (x3.Defs.length:Int) (x3.Defs.length:Int)).bind λx4=>
 Kac (α:=(ByteArray×Int×(List GField)×(List GField)×(List GRule)×(List Bool))) (
  if 0<=x3.MemberScope then
   (idx t0.Scopes x3.MemberScope).bind λx6=>
   (Ww 1 false (x6.Defs.length:Int) (x6.Defs.length:Int)).bind λx7=>
   some (x6.Name,x6.MemberScope,x6.Inputs,x6.Defs,x6.Rules,x7)
  else
  some ((Pac #[]),0,([]:List GField),([]:List GField),([]:List GRule),([]:List Bool))) λ(j8,j9,j10,j11,j12,j13)=>
 some (x3.Name,x3.MemberScope,x3.Inputs,x3.Defs,x3.Rules,j8,j9,j10,j11,j12,x4,j13)
def Lp(x41:List Int):((List Bool)×Int)->Option (Ex ((List Bool)×Int) (List Bool) Unit):=λ(s42,s43)=>
 if s43<(x41.length:Int)then
  (idx x41 s43).bind λx45=>
  (idx s42 x45).bind λx46=>
  (put s42 x45 true).bind λx47=>
  some (Ex.go (x47,(ca .i64 (s43+1))))
 else
 some (Ex.brk s42)
def Jp(x58:List Int):((List Bool)×Int)->Option (Ex ((List Bool)×Int) (List Bool) Unit):=λ(s59,s60)=>
 if s60<(x58.length:Int)then
  (idx x58 s60).bind λx62=>
  (idx s59 x62).bind λx63=>
  (put s59 x62 true).bind λx64=>
  some (Ex.go (x64,(ca .i64 (s60+1))))
 else
 some (Ex.brk s59)
def Fp(i19:ByteArray) (i20:Int) (i21:List GField) (i22:List GField) (i23:List GRule) (s52:List Bool) (x55:Int):Option (List Bool):=
 (idx s52 x55).bind λx56=>
 (put s52 x55 true).bind λx57=>
 (Ue (GScope.mk i19 i20 i21 i22 i23) x55).bind λx58=>
 (da (Jp x58) (x57,0)).bind λy=>match y with
 |.inr _=>none
 |.inl b67=>
 some b67
def Kp(i19:ByteArray) (i20:Int) (i21:List GField) (i22:List GField) (i23:List GRule) (x51:List Int):((List Bool)×Int)->Option (Ex ((List Bool)×Int) (List Bool) Unit):=λ(s52,s53)=>
 if s53<(x51.length:Int)then
  (idx x51 s53).bind λx55=>
  (Fp i19 i20 i21 i22 i23 s52 x55).bind λi68=>
  some (Ex.go (i68,(ca .i64 (s53+1))))
 else
 some (Ex.brk s52)
def Gp(i14:ByteArray) (i15:Int) (i16:List GField) (i17:List GField) (i18:List GRule) (i19:ByteArray) (i20:Int) (i21:List GField) (i22:List GField) (i23:List GRule) (s34:List Bool) (s35:List Bool) (x38:Int):Option ((List Bool)×(List Bool)):=
 (idx s34 x38).bind λx39=>
 (put s34 x38 true).bind λx40=>
 (Ue (GScope.mk i14 i15 i16 i17 i18) x38).bind λx41=>
 (da (Lp x41) (x40,0)).bind λy=>match y with
 |.inr _=>none
 |.inl b50=>
 (Wr (GScope.mk i14 i15 i16 i17 i18) x38).bind λx51=>
 (da (Kp i19 i20 i21 i22 i23 x51) (s35,0)).bind λy=>match y with
 |.inr _=>none
 |.inl b71=>
 some (b50,b71)
def Tk(i14:ByteArray) (i15:Int) (i16:List GField) (i17:List GField) (i18:List GRule) (i19:ByteArray) (i20:Int) (i21:List GField) (i22:List GField) (i23:List GRule) (x33:((List Int)×(List Int)×(List Int))):((List Bool)×(List Bool)×Int)->Option (Ex ((List Bool)×(List Bool)×Int) ((List Bool)×(List Bool)) Unit):=λ(s34,s35,s36)=>
 if s36<(x33.2.1.length:Int)then
  (idx x33.2.1 s36).bind λx38=>
  (Gp i14 i15 i16 i17 i18 i19 i20 i21 i22 i23 s34 s35 x38).bind λ(i72,i73)=>
  some (Ex.go (i72,i73,(ca .i64 (s36+1))))
 else
 some (Ex.brk (s34,s35))
def Mp(x85:List Int):((List Bool)×Int)->Option (Ex ((List Bool)×Int) (List Bool) Unit):=λ(s86,s87)=>
 if s87<(x85.length:Int)then
  (idx x85 s87).bind λx89=>
  (idx s86 x89).bind λx90=>
  (put s86 x89 true).bind λx91=>
  some (Ex.go (x91,(ca .i64 (s87+1))))
 else
 some (Ex.brk s86)
def Ip(i19:ByteArray) (i20:Int) (i21:List GField) (i22:List GField) (i23:List GRule) (s79:List Bool) (x82:Int):Option (List Bool):=
 (idx s79 x82).bind λx83=>
 (put s79 x82 true).bind λx84=>
 (Ue (GScope.mk i19 i20 i21 i22 i23) x82).bind λx85=>
 (da (Mp x85) (x84,0)).bind λy=>match y with
 |.inr _=>none
 |.inl b94=>
 some b94
def Sk(i19:ByteArray) (i20:Int) (i21:List GField) (i22:List GField) (i23:List GRule) (x33:((List Int)×(List Int)×(List Int))):((List Bool)×Int)->Option (Ex ((List Bool)×Int) (List Bool) Unit):=λ(s79,s80)=>
 if s80<(x33.2.2.length:Int)then
  (idx x33.2.2 s80).bind λx82=>
  (Ip i19 i20 i21 i22 i23 s79 x82).bind λi95=>
  some (Ex.go (i95,(ca .i64 (s80+1))))
 else
 some (Ex.brk s79)
def Tg(x3:GScope) (i14:ByteArray) (i15:Int) (i16:List GField) (i17:List GField) (i18:List GRule) (i19:ByteArray) (i20:Int) (i21:List GField) (i22:List GField) (i23:List GRule) (x26:List Int):((List Bool)×(List Bool)×Int)->Option (Ex ((List Bool)×(List Bool)×Int) ((List Bool)×(List Bool)) Unit):=λ(s27,s28,s29)=>
 if s29<(x26.length:Int)then
  (idx x26 s29).bind λx31=>
  (idx x3.Rules x31).bind λx32=>
  (Pd x32.Guard).bind λx33=>
  (da (Tk i14 i15 i16 i17 i18 i19 i20 i21 i22 i23 x33) (s27,s28,0)).bind λy=>match y with
  |.inr _=>none
  |.inl (b77,b78)=>
  (da (Sk i19 i20 i21 i22 i23 x33) (b78,0)).bind λy=>match y with
  |.inr _=>none
  |.inl b98=>
  some (Ex.go (b77,b98,(ca .i64 (s29+1))))
 else
 some (Ex.brk (s27,s28))
def ud(t0:GLaw) (t1:Int) (t2:GCase) (t3:Int):Option (Int×GEvalError):=
 (Lb t0 t1 t2 true t3).bind λx1=>
 if¬x1.Code=0 then
  some (0,x1)
 else
 (idx t0.Scopes t1).bind λx3=>
 (Ti t0 x3).bind λ(i14,i15,i16,i17,i18,i19,i20,i21,i22,i23,i24,i25)=>
 (td x3 t3 t2.Date).bind λx26=>
 (da (Tg x3 i14 i15 i16 i17 i18 i19 i20 i21 i22 i23 x26) (i24,i25,0)).bind λy=>match y with
 |.inr _=>none
 |.inl (b102,b103)=>
 (wi t0 t1 t2 (GInterp_needs.mk (GScope.mk i14 i15 i16 i17 i18) (GScope.mk i19 i20 i21 i22 i23) b102 b103)).bind λx104=>
 if¬x104.2.2.Code=0 then
  some (0,x104.2.2)
 else
 (xi x3 x104.2.1 (-1) t3).bind λx106=>
 if¬x106.2.Code=0 then
  some (0,x106.2)
 else
 some (x106.1,(GEvalError.mk 0 0 0 0))
def Nd(t0:GLaw) (t1:Int) (t2:Int) (t3:Int) (x7:((List GCoverageHole)×Int)):Int->Option (Ex Int Unit Bool):=λs12=>
 if s12<(x7.1.length:Int)then
  (idx x7.1 s12).bind λx14=>
  (ud t0 t1 (GCase.mk t3 x14.Inputs ([])) t2).bind λx15=>
  Kac (α:=Bool) (
   if x15.2.Code=0 then
    if x15.1=x14.Outcome then
     if¬x15.1=(-1)then
      some (x15.1 !=(-2))
     else
     some false
    else
    some true
   else
   some true) λj19=>
  if j19=true then
   some (Ex.ret false)
  else
  some (Ex.go (ca .i64 (s12+1)))
 else
 some (Ex.brk ())
def qi(t0:GLaw) (t1:Int) (t2:Int) (t3:Int):Option Bool:=
 Kac (α:=Bool) (
  (Ij t0).bind λx1=>
  if x1=true then
   (bt t0 t1 t2 t3).bind λx3=>
   some (!x3)
  else
  some true) λj4=>
 if j4=true then
  (ue).bind λx6=>
  some x6
 else
 (Na t0 t1 t2 t3).bind λx7=>
 if¬x7.2=0 then
  Kac (α:=Bool) (
   if(x7.1.length:Int)=0 then
    (ue).bind λx10=>
    some x10
   else
   some false) λj11=>
  some j11
 else
 (da (Nd t0 t1 t2 t3 x7) 0).bind λy=>match y with
 |.inr v=>some v
 |.inl _=>
 (ue).bind λx22=>
 some x22
def uj(t0:GCase):Int->Option (Ex Int Unit Bool):=λs4=>
 if s4<(t0.Members.length:Int)then
  (idx t0.Members s4).bind λx6=>
  if 14<(x6.length:Int)then
   some (Ex.ret false)
  else
  some (Ex.go (ca .i64 (s4+1)))
 else
 some (Ex.brk ())
def Zm(t0:GCase):Option Bool:=
 Kac (α:=Bool) (
  if¬14<(t0.Inputs.length:Int)then
   some (decide (10<(t0.Members.length:Int)))
  else
  some true) λj2=>
 if j2=true then
  some false
 else
 (da (uj t0) 0).bind λy=>match y with
 |.inr v=>some v
 |.inl _=>
 some true
def Ie(t0:GLaw) (t1:Int) (t2:GCase) (t3:Int):Option Bool:=
 Kac (α:=Bool) (
  (Ij t0).bind λx1=>
  if x1=true then
   (Zm t2).bind λx3=>
   if x3=true then
    (bt t0 t1 t3 t2.Date).bind λx5=>
    some (!x5)
   else
   some true
  else
  some true) λj6=>
 if j6=true then
  (ue).bind λx8=>
  some x8
 else
 (Na t0 t1 t3 t2.Date).bind λx9=>
 Kac (α:=Bool) (
  if x9.2=0 then
   some (decide (0<(x9.1.length:Int)))
  else
  some true) λj11=>
 if j11=true then
  (ue).bind λx13=>
  some x13
 else
 (ud t0 t1 t2 t3).bind λx14=>
 Kac (α:=Bool) (
  if x14.2.Code=0 then
   if 0<=x14.1 then
    (ue).bind λx17=>
    some x17
   else
   some false
  else
  (ue).bind λx18=>
  some x18) λj19=>
 some j19
def Np(t0:List Int) (t1:Int):Int->Option (Ex Int Unit Bool):=λs1=>
 if s1<(t0.length:Int)then
  (idx t0 s1).bind λx3=>
  if x3=t1 then
   some (Ex.ret true)
  else
  some (Ex.go (ca .i64 (s1+1)))
 else
 some (Ex.brk ())
def Cv(t0:List Int) (t1:Int):Option Bool:=
 (da (Np t0 t1) 0).bind λy=>match y with
 |.inr v=>some v
 |.inl _=>
 some false
def Je(t0:GLaw) (t1:GA3) (x4:((List Int)×Int)) (x13:List Int):Int->Option (Ex Int Unit Bool):=λs14=>
 if s14<(x13.length:Int)then
  Kac (α:=(Unit⊕(Ex Int Unit Bool))) (
   (idx x13 s14).bind λx16=>
   (Yb t0 t1.I0 x16 t1.I2).bind λx17=>
   Kac (α:=Bool) (
    if x17.2.2=0 then
     (Cv x4.1 x16).bind λx19=>
     some (x17.2.1==x19)
    else
    some true) λj20=>
   if j20=true then
    some (Sum.inr (Ex.ret false))
   else
   if x17.2.1=false then
    some (Sum.inl ())
   else
   (ud t0 t1.I0 (GCase.mk t1.I2 x17.1 ([])) t1.I1).bind λx23=>
   Kac (α:=Bool) (
    if x23.2.Code=0/\x23.2.Member=0/\x23.2.Def=0/\x23.2.Rule=0 then
     some (x23.1 !=x16)
    else
    some true) λj25=>
   if j25=true then
    some (Sum.inr (Ex.ret false))
   else
   some (Sum.inl ())) λz=>match z with
  |.inr v=>some v
  |.inl _=>
  some (Ex.go (ca .i64 (s14+1)))
 else
 some (Ex.brk ())
def Nj(t0:GLaw) (t1:GA3):Option Bool:=
 (Gr t0 t1.I0 t1.I1 t1.I2).bind λx1=>
 if x1=false then
  (Ek).bind λx3=>
  some x3
 else
 (Ee t0 t1.I0 t1.I1 t1.I2).bind λx4=>
 Kac (α:=Bool) (
  if x4.2=0 then
   if¬t1.I0<0 then
    some (decide ((t0.Scopes.length:Int)<=t1.I0))
   else
   some true
  else
  some true) λj7=>
 if j7=true then
  Kac (α:=Bool) (
   if¬x4.2=0 then
    (Ek).bind λx10=>
    some x10
   else
   some false) λj11=>
  some j11
 else
 (idx t0.Scopes t1.I0).bind λx12=>
 (td x12 t1.I1 t1.I2).bind λx13=>
 (da (Je t0 t1 x4 x13) 0).bind λy=>match y with
 |.inr v=>some v
 |.inl _=>
 (Ek).bind λx28=>
 some x28
end
end Go.Proofs.Dev
