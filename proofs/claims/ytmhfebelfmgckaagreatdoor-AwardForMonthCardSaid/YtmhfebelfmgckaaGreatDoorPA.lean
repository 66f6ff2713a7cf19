/-
  The functions as plain partial functions, and plain lemmas about them: no condition.
-/
import Derived.Test.YtmhfebelfmgckaaGreatDoorEC
import Derived.Test.YtmhfebelfmgckaaGreatDoorED
import Derived.Lib.SlicesCompact
open And renaming intro->ak
open ByteArray renaming mk->Gaa
open Eq renaming trans->Caa
open Int renaming fdiv->Oae,tdiv->Naa,tmod->Taa
open List renaming range->Kaa
open Option renaming bind->Aaa
set_option linter.all false
namespace Go.Tm
def Ak:List Int->Int->List Int |[],n=>[n] |x::l,n=>if n<=x then(if n<x then n::x::l else x::l)else x::Ak l n
def Pd(l:List Int):List Int:=l.foldl Ak []
inductive ReachL (g:List (List Int)):Int->Int->Prop
 |one {a b:Int} {l:List Int} (h:g[a.toNat]?=some l) (hb:b∈l):ReachL g a b
 |step {a b c:Int} {l:List Int} (h:ReachL g a b) (hl:g[b.toNat]?=some l) (hc:c∈l):ReachL g a c
open Classical in
noncomputable def DK(g:List (List Int)) (a:Int):List Int:=((Kaa g.length).map λ(k:Nat)=>(k:Int)).filter λb=>decide (ReachL g a b)
@[irreducible] def tf:Nat:=1000000
def fD(g:List (List Int)) (out:List Int) (d:Nat):Bool:=!out.contains (d:Int)&&(g.getD d []).all λe=>out.contains e
def iv(g:List (List Int)):Nat->List Int->List Int×Int |0,out=>(out,0) |n+1,out=>match (Kaa g.length).find? (fD g out)with |some d=>iv g n (out++[(d:Int)]) |none=>([],9)
def Qu(g:List (List Int)):List Int×Int:=iv g g.length []
end Go.Tm
set_option maxHeartbeats 1000000
set_option maxRecDepth 100000
namespace Go.Proofs.Dev
open Go Go.Tm
def EA(x:ByteArray):D:=.v (.string x)
instance:Enc ByteArray EA:=⟨gz EA.eq_1⟩
theorem e_str_q:type_of% @EA.eq_1:=λ_=>Caa rfl rfl
def zV(x:List ByteArray):D:=.sl 1 (x.map EA)
instance:Enc (List ByteArray) zV:=⟨Fr.s _⟩
theorem kY:type_of% @zV.eq_1:=λ_=>Caa rfl rfl
structure GEnum where
 j:ByteArray
 r:(List ByteArray)
def Bq(x:GEnum):D:=.agg [.v (.string x.j),.sl 1 (x.r.map EA)]
instance:Enc GEnum Bq:=⟨gz Bq.eq_1⟩
theorem aY:type_of% @Bq.eq_1:=λ_=>Caa rfl rfl
def Fu(x:List GEnum):D:=.sl 2 (x.map Bq)
instance:Enc (List GEnum) Fu:=⟨Fr.s _⟩
theorem lQ:type_of% @Fu.eq_1:=λ_=>Caa rfl rfl
def da(x:Int):D:=.v (.int .i64 x)
instance:Enc Int da:=⟨gz da.eq_1⟩
theorem e_i64_q:type_of% @da.eq_1:=λ_=>Caa rfl rfl
structure GType where
 a:Int
 g:Int
def og(x:GType):D:=.agg [.v (.int .i64 x.a),.v (.int .i64 x.g)]
instance:Enc GType og:=⟨gz og.eq_1⟩
theorem fY:type_of% @og.eq_1:=λ_=>Caa rfl rfl
structure GDateRange where
 n:Int
 To:Int
def rk(x:GDateRange):D:=.agg [.v (.int .i64 x.n),.v (.int .i64 x.To)]
instance:Enc GDateRange rk:=⟨gz rk.eq_1⟩
theorem BJ:type_of% @rk.eq_1:=λ_=>Caa rfl rfl
structure GRow where
 w:GDateRange
 Lo:Int
 Hi:Int
 N:Int
def tt(x:GRow):D:=.agg [.v (.int .i64 x.w.n),.v (.int .i64 x.w.To),.v (.int .i64 x.Lo),.v (.int .i64 x.Hi),.v (.int .i64 x.N)]
instance:Enc GRow tt:=⟨gz tt.eq_1⟩
theorem w5:type_of% @tt.eq_1:=λ_=>Caa rfl rfl
def BB(x:List GRow):D:=.sl 5 (x.map tt)
instance:Enc (List GRow) BB:=⟨Fr.s _⟩
theorem OT:type_of% @BB.eq_1:=λ_=>Caa rfl rfl
structure GTable where
 j:ByteArray
 ab:GType
 Value:GType
 Rows:(List GRow)
def qi(x:GTable):D:=.agg [.v (.string x.j),.v (.int .i64 x.ab.a),.v (.int .i64 x.ab.g),.v (.int .i64 x.Value.a),.v (.int .i64 x.Value.g),.sl 5 (x.Rows.map tt)]
instance:Enc GTable qi:=⟨gz qi.eq_1⟩
theorem IT:type_of% @qi.eq_1:=λ_=>Caa rfl rfl
def Iu(x:List GTable):D:=.sl 6 (x.map qi)
instance:Enc (List GTable) Iu:=⟨Fr.s _⟩
theorem wO:type_of% @Iu.eq_1:=λ_=>Caa rfl rfl
structure GField where
 j:ByteArray
 ai:GType
def Ce(x:GField):D:=.agg [.v (.string x.j),.v (.int .i64 x.ai.a),.v (.int .i64 x.ai.g)]
instance:Enc GField Ce:=⟨gz Ce.eq_1⟩
theorem ET:type_of% @Ce.eq_1:=λ_=>Caa rfl rfl
def Gu(x:List GField):D:=.sl 3 (x.map Ce)
instance:Enc (List GField) Gu:=⟨Fr.s _⟩
theorem uO:type_of% @Gu.eq_1:=λ_=>Caa rfl rfl
structure GNode where
 Op:Int
 N:Int
def Oh(x:GNode):D:=.agg [.v (.int .i64 x.Op),.v (.int .i64 x.N)]
instance:Enc GNode Oh:=⟨gz Oh.eq_1⟩
theorem dY:type_of% @Oh.eq_1:=λ_=>Caa rfl rfl
def Ye(x:List GNode):D:=.sl 2 (x.map Oh)
instance:Enc (List GNode) Ye:=⟨Fr.s _⟩
theorem nQ:type_of% @Ye.eq_1:=λ_=>Caa rfl rfl
structure GRule where
 j:ByteArray
 s:Int
 ag:Int
 ao:Int
 w:GDateRange
 ac:(List GNode)
 Value:(List GNode)
 au:ByteArray
def mg(x:GRule):D:=.agg [.v (.string x.j),.v (.int .i64 x.s),.v (.int .i64 x.ag),.v (.int .i64 x.ao),.v (.int .i64 x.w.n),.v (.int .i64 x.w.To),.sl 2 (x.ac.map Oh),.sl 2 (x.Value.map Oh),.v (.string x.au)]
instance:Enc GRule mg:=⟨gz mg.eq_1⟩
theorem eY:type_of% @mg.eq_1:=λ_=>Caa rfl rfl
def km(x:List GRule):D:=.sl 9 (x.map mg)
instance:Enc (List GRule) km:=⟨Fr.s _⟩
theorem oQ:type_of% @km.eq_1:=λ_=>Caa rfl rfl
structure GScope where
 j:ByteArray
 z:Int
 u:(List GField)
 d:(List GField)
 f:(List GRule)
def De(x:GScope):D:=.agg [.v (.string x.j),.v (.int .i64 x.z),.sl 3 (x.u.map Ce),.sl 3 (x.d.map Ce),.sl 9 (x.f.map mg)]
instance:Enc GScope De:=⟨gz De.eq_1⟩
theorem HT:type_of% @De.eq_1:=λ_=>Caa rfl rfl
def Hu(x:List GScope):D:=.sl 5 (x.map De)
instance:Enc (List GScope) Hu:=⟨Fr.s _⟩
theorem vO:type_of% @Hu.eq_1:=λ_=>Caa rfl rfl
structure GLaw where
 q:(List GEnum)
 Tables:(List GTable)
 e:(List GScope)
def mA(x:GLaw):D:=.agg [.sl 2 (x.q.map Bq),.sl 6 (x.Tables.map qi),.sl 5 (x.e.map De)]
instance:Enc GLaw mA:=⟨gz mA.eq_1⟩
theorem u5:type_of% @mA.eq_1:=λ_=>Caa rfl rfl
def za(x:Bool):D:=.v (.bool x)
instance:Enc Bool za:=⟨gz za.eq_1⟩
theorem y5:type_of% @za.eq_1:=λ_=>Caa rfl rfl
def qa(x:List Int):D:=.sl 1 (x.map da)
instance:Enc (List Int) qa:=⟨Fr.s _⟩
theorem jY:type_of% @qa.eq_1:=λ_=>Caa rfl rfl
def kd(x:List (List Int)):D:=.sl 1 (x.map qa)
instance:Enc (List (List Int)) kd:=⟨Fr.s _⟩
theorem qQ:type_of% @kd.eq_1:=λ_=>Caa rfl rfl
structure GLawError where
 Code:Int
 a5:Int
 a6:Int
 a7:Int
def zB(x:GLawError):D:=.agg [.v (.int .i64 x.Code),.v (.int .i64 x.a5),.v (.int .i64 x.a6),.v (.int .i64 x.a7)]
instance:Enc GLawError zB:=⟨gz zB.eq_1⟩
theorem VL:type_of% @zB.eq_1:=λ_=>Caa rfl rfl
def NM(x:List GType):D:=.sl 2 (x.map og)
instance:Enc (List GType) NM:=⟨Fr.s _⟩
theorem pQ:type_of% @NM.eq_1:=λ_=>Caa rfl rfl
structure GSignature where
 q:(List GEnum)
 Tables:(List GTable)
 u:(List GType)
 d:(List GType)
 ap:(List GType)
 av:Bool
def Dq(x:GSignature):D:=.agg [.sl 2 (x.q.map Bq),.sl 6 (x.Tables.map qi),.sl 2 (x.u.map og),.sl 2 (x.d.map og),.sl 2 (x.ap.map og),.v (.bool x.av)]
instance:Enc GSignature Dq:=⟨gz Dq.eq_1⟩
theorem FJ:type_of% @Dq.eq_1:=λ_=>Caa rfl rfl
def xH(x:List (List GNode)):D:=.sl 1 (x.map Ye)
instance:Enc (List (List GNode)) xH:=⟨Fr.s _⟩
theorem XL:type_of% @xH.eq_1:=λ_=>Caa rfl rfl
def rQ(x:Int):D:=.v (.int .u8 x)
instance:Fr rQ:=⟨gz rQ.eq_1⟩
theorem e_u8_q:type_of% @rQ.eq_1:=λ_=>Caa rfl rfl
def Lj(x:Int):D:=.pt (da x)
instance:Fr Lj:=⟨λx=>Fr.h (e:=da) x⟩
theorem gY:type_of% @Lj.eq_1:=λ_=>Caa rfl rfl
def Eu(x:GScope):D:=.pt (De x)
instance:Fr Eu:=⟨λx=>Fr.h (e:=De) x⟩
theorem rO:type_of% @Eu.eq_1:=λ_=>Caa rfl rfl
def Ww(x:GRule):D:=.pt (mg x)
instance:Fr Ww:=⟨λx=>Fr.h (e:=mg) x⟩
theorem kQ:type_of% @Ww.eq_1:=λ_=>Caa rfl rfl
def Du(x:GField):D:=.pt (Ce x)
instance:Fr Du:=⟨λx=>Fr.h (e:=Ce) x⟩
theorem qO:type_of% @Du.eq_1:=λ_=>Caa rfl rfl
def Zu(x:ByteArray):D:=.pt (EA x)
instance:Fr Zu:=⟨λx=>Fr.h (e:=EA) x⟩
theorem iY:type_of% @Zu.eq_1:=λ_=>Caa rfl rfl
def Bz(x:GRow):D:=.pt (tt x)
instance:Fr Bz:=⟨λx=>Fr.h (e:=tt) x⟩
theorem NT:type_of% @Bz.eq_1:=λ_=>Caa rfl rfl
structure GValue where
 a:Int
 g:Int
 N:Int
def Da(x:GValue):D:=.agg [.v (.int .i64 x.a),.v (.int .i64 x.g),.v (.int .i64 x.N)]
instance:Enc GValue Da:=⟨gz Da.eq_1⟩
theorem JT:type_of% @Da.eq_1:=λ_=>Caa rfl rfl
def Xr(x:List GValue):D:=.sl 3 (x.map Da)
instance:Enc (List GValue) Xr:=⟨Fr.s _⟩
theorem xO:type_of% @Xr.eq_1:=λ_=>Caa rfl rfl
structure GCoverageHole where
 a9:Int
 ba:Int
 bb:Int
 u:(List GValue)
def Vj(x:GCoverageHole):D:=.agg [.v (.int .i64 x.a9),.v (.int .i64 x.ba),.v (.int .i64 x.bb),.sl 3 (x.u.map Da)]
instance:Enc GCoverageHole Vj:=⟨gz Vj.eq_1⟩
theorem RE:type_of% @Vj.eq_1:=λ_=>Caa rfl rfl
def qy(x:List GCoverageHole):D:=.sl 4 (x.map Vj)
instance:Enc (List GCoverageHole) qy:=⟨Fr.s _⟩
theorem WC:type_of% @qy.eq_1:=λ_=>Caa rfl rfl
def py(x:GCoverageHole):D:=.pt (Vj x)
instance:Fr py:=⟨λx=>Fr.h (e:=Vj) x⟩
theorem UC:type_of% @py.eq_1:=λ_=>Caa rfl rfl
structure GRuletree_tree where
 parent:(List Int)
 priority:(List Int)
 outcome:(List Int)
def Cu(x:GRuletree_tree):D:=.agg [.sl 1 (x.parent.map da),.sl 1 (x.priority.map da),.sl 1 (x.outcome.map da)]
instance:Enc GRuletree_tree Cu:=⟨gz Cu.eq_1⟩
theorem XD:type_of% @Cu.eq_1:=λ_=>Caa rfl rfl
def Zb(x:List Bool):D:=.sl 1 (x.map za)
instance:Enc (List Bool) Zb:=⟨Fr.s _⟩
theorem PT:type_of% @Zb.eq_1:=λ_=>Caa rfl rfl
def VE(x:List (List GValue)):D:=.sl 1 (x.map Xr)
instance:Enc (List (List GValue)) VE:=⟨Fr.s _⟩
theorem LJ:type_of% @VE.eq_1:=λ_=>Caa rfl rfl
structure GEnv where
 ae:Int
 u:(List GValue)
 d:(List GValue)
 r:(List (List GValue))
 al:(List GType)
 Tables:(List GTable)
def Uj(x:GEnv):D:=.agg [.v (.int .i64 x.ae),.sl 3 (x.u.map Da),.sl 3 (x.d.map Da),.sl 1 (x.r.map Xr),.sl 2 (x.al.map og),.sl 6 (x.Tables.map qi)]
instance:Enc GEnv Uj:=⟨gz Uj.eq_1⟩
theorem r5:type_of% @Uj.eq_1:=λ_=>Caa rfl rfl
structure GEval_evaluator where
 nodes:(List GNode)
 starts:(List Int)
 env:GEnv
def ua(x:GEval_evaluator):D:=.agg [.sl 2 (x.nodes.map Oh),.sl 1 (x.starts.map da),.v (.int .i64 x.env.ae),.sl 3 (x.env.u.map Da),.sl 3 (x.env.d.map Da),.sl 1 (x.env.r.map Xr),.sl 2 (x.env.al.map og),.sl 6 (x.env.Tables.map qi)]
instance:Enc GEval_evaluator ua:=⟨gz ua.eq_1⟩
theorem TC:type_of% @ua.eq_1:=λ_=>Caa rfl rfl
def Tj(x:Int):D:=.v (.int .u64 x)
instance:Fr Tj:=⟨gz Tj.eq_1⟩
theorem e_u64_q:type_of% @Tj.eq_1:=λ_=>Caa rfl rfl
structure GA3 where
 I0:Int
 I1:Int
 I2:Int
def o5(x:GA3):D:=.agg [.v (.int .i64 x.I0),.v (.int .i64 x.I1),.v (.int .i64 x.I2)]
instance:Enc GA3 o5:=⟨gz o5.eq_1⟩
theorem e_GA3_q:type_of% @o5.eq_1:=λ_=>Caa rfl rfl
structure GDeadrules_tree where
 scope:GScope
 tables:(List GTable)
 date:Int
 rules:(List Int)
 parents:(List Int)
 priorities:(List Int)
def uk(x:GDeadrules_tree):D:=.agg [.v (.string x.scope.j),.v (.int .i64 x.scope.z),.sl 3 (x.scope.u.map Ce),.sl 3 (x.scope.d.map Ce),.sl 9 (x.scope.f.map mg),.sl 6 (x.tables.map qi),.v (.int .i64 x.date),.sl 1 (x.rules.map da),.sl 1 (x.parents.map da),.sl 1 (x.priorities.map da)]
instance:Enc GDeadrules_tree uk:=⟨gz uk.eq_1⟩
theorem SC:type_of% @uk.eq_1:=λ_=>Caa rfl rfl
def Aw(x:GDeadrules_tree):D:=.pt (uk x)
instance:Fr Aw:=⟨λx=>Fr.h (e:=uk) x⟩
theorem WA:type_of% @Aw.eq_1:=λ_=>Caa rfl rfl
structure GCase where
 ae:Int
 u:(List GValue)
 r:(List (List GValue))
def JI(x:GCase):D:=.agg [.v (.int .i64 x.ae),.sl 3 (x.u.map Da),.sl 1 (x.r.map Xr)]
instance:Enc GCase JI:=⟨gz JI.eq_1⟩
theorem ZX:type_of% @JI.eq_1:=λ_=>Caa rfl rfl
structure GEvalError where
 Code:Int
 ak:Int
 s:Int
 bc:Int
def ft(x:GEvalError):D:=.agg [.v (.int .i64 x.Code),.v (.int .i64 x.ak),.v (.int .i64 x.s),.v (.int .i64 x.bc)]
instance:Enc GEvalError ft:=⟨gz ft.eq_1⟩
theorem CJ:type_of% @ft.eq_1:=λ_=>Caa rfl rfl
structure GInterp_needs where
 scope:GScope
 memberScope:GScope
 defs:(List Bool)
 memberDefs:(List Bool)
def Rn(x:GInterp_needs):D:=.agg [.v (.string x.scope.j),.v (.int .i64 x.scope.z),.sl 3 (x.scope.u.map Ce),.sl 3 (x.scope.d.map Ce),.sl 9 (x.scope.f.map mg),.v (.string x.memberScope.j),.v (.int .i64 x.memberScope.z),.sl 3 (x.memberScope.u.map Ce),.sl 3 (x.memberScope.d.map Ce),.sl 9 (x.memberScope.f.map mg),.sl 1 (x.defs.map za),.sl 1 (x.memberDefs.map za)]
instance:Enc GInterp_needs Rn:=⟨gz Rn.eq_1⟩
theorem SE:type_of% @Rn.eq_1:=λ_=>Caa rfl rfl
structure GMemberResult where
 a3:(List GValue)
 f:(List Int)
def Tn(x:GMemberResult):D:=.agg [.sl 3 (x.a3.map Da),.sl 1 (x.f.map da)]
instance:Enc GMemberResult Tn:=⟨gz Tn.eq_1⟩
theorem TE:type_of% @Tn.eq_1:=λ_=>Caa rfl rfl
def ry(x:List GMemberResult):D:=.sl 2 (x.map Tn)
instance:Enc (List GMemberResult) ry:=⟨Fr.s _⟩
theorem XC:type_of% @ry.eq_1:=λ_=>Caa rfl rfl
structure GResult where
 a3:(List GValue)
 f:(List Int)
 r:(List GMemberResult)
def DC(x:GResult):D:=.agg [.sl 3 (x.a3.map Da),.sl 1 (x.f.map da),.sl 2 (x.r.map Tn)]
instance:Enc GResult DC:=⟨gz DC.eq_1⟩
theorem iQ:type_of% @DC.eq_1:=λ_=>Caa rfl rfl
def vt(x:GInterp_needs):D:=.pt (Rn x)
instance:Fr vt:=⟨λx=>Fr.h (e:=Rn) x⟩
theorem VC:type_of% @vt.eq_1:=λ_=>Caa rfl rfl
def jQ(x:GEnv):D:=.pt (Uj x)
instance:Fr jQ:=⟨λx=>Fr.h (e:=Uj) x⟩
theorem MT:type_of% @jQ.eq_1:=λ_=>Caa rfl rfl
structure GA2 where
 I0:Int
 I1:Int
def n5(x:GA2):D:=.agg [.v (.int .i64 x.I0),.v (.int .i64 x.I1)]
instance:Enc GA2 n5:=⟨gz n5.eq_1⟩
theorem e_GA2_q:type_of% @n5.eq_1:=λ_=>Caa rfl rfl
structure GCalendar where
 aw:Int
 am:(List Int)
def yB(x:GCalendar):D:=.agg [.v (.int .i64 x.aw),.sl 1 (x.am.map da)]
instance:Enc GCalendar yB:=⟨gz yB.eq_1⟩
theorem UL:type_of% @yB.eq_1:=λ_=>Caa rfl rfl
structure GPayConfig where
 s:Int
 an:Int
 ay:Int
 az:Int
 a0:Int
 a1:Int
 a2:Int
 ar:GCalendar
def qt(x:GPayConfig):D:=.agg [.v (.int .i64 x.s),.v (.int .i64 x.an),.v (.int .i64 x.ay),.v (.int .i64 x.az),.v (.int .i64 x.a0),.v (.int .i64 x.a1),.v (.int .i64 x.a2),.v (.int .i64 x.ar.aw),.sl 1 (x.ar.am.map da)]
instance:Enc GPayConfig qt:=⟨gz qt.eq_1⟩
theorem EJ:type_of% @qt.eq_1:=λ_=>Caa rfl rfl
structure GFact where
 Id:Int
 ak:Int
 aj:Int
 Value:GValue
 w:GDateRange
 af:Int
def jt(x:GFact):D:=.agg [.v (.int .i64 x.Id),.v (.int .i64 x.ak),.v (.int .i64 x.aj),.v (.int .i64 x.Value.a),.v (.int .i64 x.Value.g),.v (.int .i64 x.Value.N),.v (.int .i64 x.w.n),.v (.int .i64 x.w.To),.v (.int .i64 x.af)]
instance:Enc GFact jt:=⟨gz jt.eq_1⟩
theorem cY:type_of% @jt.eq_1:=λ_=>Caa rfl rfl
def Cz(x:List GFact):D:=.sl 9 (x.map jt)
instance:Enc (List GFact) Cz:=⟨Fr.s _⟩
theorem mQ:type_of% @Cz.eq_1:=λ_=>Caa rfl rfl
structure GHousehold where
 Id:Int
 ah:Int
 r:Int
 aa:(List GFact)
def Cq(x:GHousehold):D:=.agg [.v (.int .i64 x.Id),.v (.int .i64 x.ah),.v (.int .i64 x.r),.sl 9 (x.aa.map jt)]
instance:Enc GHousehold Cq:=⟨gz Cq.eq_1⟩
theorem DJ:type_of% @Cq.eq_1:=λ_=>Caa rfl rfl
structure GAward where
 aq:Int
 as:Int
 Code:Int
def QE(x:GAward):D:=.agg [.v (.int .i64 x.aq),.v (.int .i64 x.as),.v (.int .i64 x.Code)]
instance:Enc GAward QE:=⟨gz QE.eq_1⟩
theorem CT:type_of% @QE.eq_1:=λ_=>Caa rfl rfl
def AB(x:List GDateRange):D:=.sl 2 (x.map rk)
instance:Enc (List GDateRange) AB:=⟨Fr.s _⟩
theorem tG:type_of% @AB.eq_1:=λ_=>Caa rfl rfl
structure GGuerdonlaw36_Query where
 aq:Int
 af:Int
 bd:Int
def vg(x:GGuerdonlaw36_Query):D:=.agg [.v (.int .i64 x.aq),.v (.int .i64 x.af),.v (.int .i64 x.bd)]
instance:Enc GGuerdonlaw36_Query vg:=⟨gz vg.eq_1⟩
theorem xz:type_of% @vg.eq_1:=λ_=>Caa rfl rfl
def HJ(x:List GAward):D:=.sl 3 (x.map QE)
instance:Enc (List GAward) HJ:=⟨Fr.s _⟩
theorem sO:type_of% @HJ.eq_1:=λ_=>Caa rfl rfl
structure GPosting where
 ae:Int
 aq:Int
 a:Int
 as:Int
def Wr(x:GPosting):D:=.agg [.v (.int .i64 x.ae),.v (.int .i64 x.aq),.v (.int .i64 x.a),.v (.int .i64 x.as)]
instance:Enc GPosting Wr:=⟨gz Wr.eq_1⟩
theorem nO:type_of% @Wr.eq_1:=λ_=>Caa rfl rfl
def Hd(x:List GPosting):D:=.sl 4 (x.map Wr)
instance:Enc (List GPosting) Hd:=⟨Fr.s _⟩
theorem JJ:type_of% @Hd.eq_1:=λ_=>Caa rfl rfl
structure GAppeal where
 Id:Int
 n:Int
 To:Int
 be:Int
 bf:Int
 a8:Int
 as:Int
def vz(x:GAppeal):D:=.agg [.v (.int .i64 x.Id),.v (.int .i64 x.n),.v (.int .i64 x.To),.v (.int .i64 x.be),.v (.int .i64 x.bf),.v (.int .i64 x.a8),.v (.int .i64 x.as)]
instance:Enc GAppeal vz:=⟨gz vz.eq_1⟩
theorem fQ:type_of% @vz.eq_1:=λ_=>Caa rfl rfl
def wH(x:List GAppeal):D:=.sl 7 (x.map vz)
instance:Enc (List GAppeal) wH:=⟨Fr.s _⟩
theorem WL:type_of% @wH.eq_1:=λ_=>Caa rfl rfl
structure GAccount where
 a4:GHousehold
 bg:(List GPosting)
 bh:(List GAppeal)
 ae:Int
 bi:Int
def WD(x:GAccount):D:=.agg [.v (.int .i64 x.a4.Id),.v (.int .i64 x.a4.ah),.v (.int .i64 x.a4.r),.sl 9 (x.a4.aa.map jt),.sl 4 (x.bg.map Wr),.sl 7 (x.bh.map vz),.v (.int .i64 x.ae),.v (.int .i64 x.bi)]
instance:Enc GAccount WD:=⟨gz WD.eq_1⟩
theorem mO:type_of% @WD.eq_1:=λ_=>Caa rfl rfl
structure GMonthBalance where
 aq:Int
 bj:Int
 bk:Int
 bl:Int
def Lr(x:GMonthBalance):D:=.agg [.v (.int .i64 x.aq),.v (.int .i64 x.bj),.v (.int .i64 x.bk),.v (.int .i64 x.bl)]
instance:Enc GMonthBalance Lr:=⟨gz Lr.eq_1⟩
theorem UE:type_of% @Lr.eq_1:=λ_=>Caa rfl rfl
def sy(x:List GMonthBalance):D:=.sl 4 (x.map Lr)
instance:Enc (List GMonthBalance) sy:=⟨Fr.s _⟩
theorem YC:type_of% @sy.eq_1:=λ_=>Caa rfl rfl
structure GEvent where
 a:Int
 ae:Int
 aq:Int
 bm:Int
 bn:Int
 bo:Int
 a8:Int
 as:Int
 ax:GFact
def wz(x:GEvent):D:=.agg [.v (.int .i64 x.a),.v (.int .i64 x.ae),.v (.int .i64 x.aq),.v (.int .i64 x.bm),.v (.int .i64 x.bn),.v (.int .i64 x.bo),.v (.int .i64 x.a8),.v (.int .i64 x.as),.v (.int .i64 x.ax.Id),.v (.int .i64 x.ax.ak),.v (.int .i64 x.ax.aj),.v (.int .i64 x.ax.Value.a),.v (.int .i64 x.ax.Value.g),.v (.int .i64 x.ax.Value.N),.v (.int .i64 x.ax.w.n),.v (.int .i64 x.ax.w.To),.v (.int .i64 x.ax.af)]
instance:Enc GEvent wz:=⟨gz wz.eq_1⟩
theorem DT:type_of% @wz.eq_1:=λ_=>Caa rfl rfl
def GJ(x:GEvent):D:=.pt (wz x)
instance:Fr GJ:=⟨λx=>Fr.h (e:=wz) x⟩
theorem oO:type_of% @GJ.eq_1:=λ_=>Caa rfl rfl
structure GGuerdonlaw43_Query where
 To:Int
 af:Int
def No(x:GGuerdonlaw43_Query):D:=.agg [.v (.int .i64 x.To),.v (.int .i64 x.af)]
instance:Enc GGuerdonlaw43_Query No:=⟨gz No.eq_1⟩
theorem Az:type_of% @No.eq_1:=λ_=>Caa rfl rfl
def IJ(x:List GEvent):D:=.sl 17 (x.map wz)
instance:Enc (List GEvent) IJ:=⟨Fr.s _⟩
theorem tO:type_of% @IJ.eq_1:=λ_=>Caa rfl rfl
def ze:=(ak (ak (ak (ak (ak (ak (ak @e_str_q @kY) (ak @aY @lQ)) (ak (ak @e_i64_q @fY) (ak @BJ @w5))) (ak (ak (ak @OT @IT) (ak @wO @ET)) (ak (ak @uO @dY) (ak @nQ @eY)))) (ak (ak (ak (ak @oQ @HT) (ak @vO @u5)) (ak (ak @y5 @jY) (ak @qQ @VL))) (ak (ak (ak @pQ @FJ) (ak @XL @e_u8_q)) (ak (ak @gY @rO) (ak @kQ @qO))))) (ak (ak (ak (ak (ak @iY @NT) (ak @JT @xO)) (ak (ak @RE @WC) (ak @UC @XD))) (ak (ak (ak @PT @LJ) (ak @r5 @TC)) (ak (ak @e_u64_q @e_GA3_q) (ak @SC @WA)))) (ak (ak (ak (ak @ZX @CJ) (ak @SE @TE)) (ak (ak @XC @iQ) (ak @VC @MT))) (ak (ak (ak @e_GA2_q @UL) (ak @EJ @cY)) (ak (ak @mQ @DJ) (ak @CT @tG)))))) (ak (ak (ak (ak @xz @sO) (ak @nO @JJ)) (ak (ak @fQ @WL) (ak @mO @UE))) (ak (ak (ak @YC @DT) (ak @oO @Az)) @tO)))
theorem zz:type_of% (ak @zx @ze):=ak @zx @ze
theorem zg:type_of% (ak @zq @ze):=ak @zq @ze
theorem tz{N:Nat}{s S:St}(ρ:Xs) (h:QD (Sq ρ s.m 9) s.t S.t/\jG ρ s.m ρ S.m:=by first|(simp only[zg];done)|(simp only[zg, *];done)) (hk:HA ρ N=true:=by rfl) (a:(ρ.filterMap (·.1)).Nodup:=by decide):Tells N s S:=Tells.q ρ hk a h
theorem ez{rs:List RV}{o:D}{s:St}(h:vQ (Db s rs) s.m o:=by simp only[zz,zr];exact fq (by first|(simp only[zg];done)|(simp only[zg, *];done)|(simp only[zg, *,List.drop_zero,Nat.zero_add,List.length_map];done))):jz rs o .ret s:=er h
noncomputable section
def Dj(t0:GScope):Int->Option (Ex Int Unit Bool):=λa=>if a<(t0.u.length:Int)then (idx t0.u a).bind λb=>if 80<(b.j.size:Int)then some (Ex.ret false)else some (Ex.go (aa .i64 (a+1)))else some (Ex.brk ())
def Cj(t0:GScope):Int->Option (Ex Int Unit Bool):=λa=>if a<(t0.d.length:Int)then (idx t0.d a).bind λb=>if 80<(b.j.size:Int)then some (Ex.ret false)else some (Ex.go (aa .i64 (a+1)))else some (Ex.brk ())
def Bj(t0:GScope):Int->Option (Ex Int Unit Bool):=λb=>if b<(t0.f.length:Int)then (idx t0.f b).bind λa=>Aaa (if¬80<(a.j.size:Int)then if¬80<(a.au.size:Int)then if¬50<(a.ac.length:Int)then some (decide (50<(a.Value.length:Int)))else some true else some true else some true) λc=>if c=true then some (Ex.ret false)else some (Ex.go (aa .i64 (b+1)))else some (Ex.brk ())
def ki(t0:GScope):Option Bool:=Aaa (if¬80<(t0.j.size:Int)then if¬14<(t0.u.length:Int)then if¬14<(t0.d.length:Int)then some (decide (60<(t0.f.length:Int)))else some true else some true else some true) λa=>if a=true then some false else(ca (Dj t0) 0).bind λy=>match y with |.inr v=>some v |.inl _=>(ca (Cj t0) 0).bind λy=>match y with |.inr v=>some v |.inl _=>(ca (Bj t0) 0).bind λy=>match y with |.inr v=>some v |.inl _=>some true
def Si(t0:GLaw) (d:Int):Int->Option (Ex Int Unit (Ex Int Unit Bool)):=λa=>(idx t0.q d).bind λb=>if a<(b.r.length:Int)then (idx b.r a).bind λc=>if 80<(c.size:Int)then some (Ex.ret (Ex.ret false))else some (Ex.go (aa .i64 (a+1)))else some (Ex.brk ())
def Dl(t0:GLaw):Int->Option (Ex Int Unit Bool):=λa=>if a<(t0.q.length:Int)then Aaa ((idx t0.q a).bind λb=>if¬80<(b.j.size:Int)then some (decide (20<(b.r.length:Int)))else some true) λc=>if c=true then some (Ex.ret false)else(ca (Si t0 a) 0).bind λy=>match y with |.inr v=>some v |.inl _=>some (Ex.go (aa .i64 (a+1)))else some (Ex.brk ())
def Cl(t0:GLaw):(Int×Int)->Option (Ex (Int×Int) Unit Bool):=λ(c,a)=>if a<(t0.Tables.length:Int)then (idx t0.Tables a).bind λb=>Aaa (if¬80<(b.j.size:Int)then some (decide (150<(aa .i64 (c+(b.Rows.length:Int)))))else some true) λd=>if d=true then some (Ex.ret false)else some (Ex.go ((aa .i64 (c+(b.Rows.length:Int))),(aa .i64 (a+1))))else some (Ex.brk ())
def Bl(t0:GLaw):(Int×Int)->Option (Ex (Int×Int) Unit Bool):=λ(c,a)=>if a<(t0.e.length:Int)then (idx t0.e a).bind λb=>Aaa (if¬60<(aa .i64 (c+(b.f.length:Int)))then (ki b).bind λe=>some (!e)else some true) λd=>if d=true then some (Ex.ret false)else some (Ex.go ((aa .i64 (c+(b.f.length:Int))),(aa .i64 (a+1))))else some (Ex.brk ())
def Hr(t0:GLaw):Option Bool:=Aaa (if¬9<(t0.q.length:Int)then if¬9<(t0.Tables.length:Int)then some (decide (5<(t0.e.length:Int)))else some true else some true) λa=>if a=true then some false else(ca (Dl t0) 0).bind λy=>match y with |.inr v=>some v |.inl _=>(ca (Cl t0) (0,0)).bind λy=>match y with |.inr v=>some v |.inl _=>(ca (Bl t0) (0,0)).bind λy=>match y with |.inr v=>some v |.inl _=>some true
def nr(t0:Int):Option Bool:=Aaa (if 97<=t0 then some (decide (t0<=122))else some false) λa=>some a
def dv(t0:Int):Option Bool:=Aaa (if 48<=t0 then some (decide (t0<=57))else some false) λa=>some a
def Xd(t0:ByteArray):Int->Option (Ex Int Int Unit):=λs1=>Aaa (if s1<(t0.size:Int)then (Jx t0 s1).bind λa=>(nr a).bind λc=>if c=false then(dv a).bind λd=>if d=false then some (a==95)else some true else some true else some false) λb=>if b=true then some (Ex.go (aa .i64 (s1+1)))else some (Ex.brk s1)
def Dm(t0:ByteArray):Option Int:=(ca (Xd t0) 0).bind λy=>match y with |.inr _=>none |.inl a=>some a
def Lf(t0:ByteArray):Option Bool:=Aaa (if t0=(Gaa #[105,102])then some true else if t0=(Gaa #[116,104,101,110])then some true else if t0=(Gaa #[101,108,115,101])then some true else if t0=(Gaa #[111,114])then some true else if t0=(Gaa #[97,110,100])then some true else if t0=(Gaa #[110,111,116])then some true else if t0=(Gaa #[116,114,117,101])then some true else if t0=(Gaa #[102,97,108,115,101])then some true else if t0=(Gaa #[116,111,100,97,121])then some true else if t0=(Gaa #[115,104,97,114,101])then some true else if t0=(Gaa #[100,105,118])then some true else if t0=(Gaa #[114,111,117,110,100])then some true else if t0=(Gaa #[109,105,110])then some true else if t0=(Gaa #[109,97,120])then some true else if t0=(Gaa #[112,108,117,115])then some true else if t0=(Gaa #[109,111,110,116,104,115])then some true else if t0=(Gaa #[100,97,121,115])then some true else if t0=(Gaa #[121,101,97,114,115])then some true else if t0=(Gaa #[121,101,97,114])then some true else if t0=(Gaa #[109,111,110,116,104])then some true else if t0=(Gaa #[116,97,98])then some true else if t0=(Gaa #[98,97,110,100])then some true else if t0=(Gaa #[99,111,117,110,116])then some true else if t0=(Gaa #[115,117,109])then some true else if t0=(Gaa #[97,108,108])then some true else if t0=(Gaa #[97,110,121])then some true else if t0=(Gaa #[109,111,115,116])then some true else if t0=(Gaa #[101,110,117,109])then some true else if t0=(Gaa #[116,97,98,108,101])then some true else if t0=(Gaa #[114,111,119])then some true else if t0=(Gaa #[115,99,111,112,101])then some true else if t0=(Gaa #[109,101,109,98,101,114,115])then some true else if t0=(Gaa #[105,110,112,117,116])then some true else if t0=(Gaa #[100,101,102])then some true else if t0=(Gaa #[114,117,108,101])then some true else if t0=(Gaa #[111,102])then some true else if t0=(Gaa #[111,118,101,114])then some true else if t0=(Gaa #[112,114,105,111])then some true else if t0=(Gaa #[102,114,111,109])then some true else if t0=(Gaa #[116,111])then some true else if t0=(Gaa #[101,110,100])then some true else if t0=(Gaa #[119,104,101,110])then some true else if t0=(Gaa #[105,115])then some true else if t0=(Gaa #[115,114,99])then some true else if t0=(Gaa #[98,111,111,108])then some true else if t0=(Gaa #[105,110,116])then some true else if t0=(Gaa #[109,111,110,101,121])then some true else if t0=(Gaa #[114,97,116,101])then some true else if t0=(Gaa #[100,97,116,101])then some true else if t0=(Gaa #[100,111,119,110])then some true else if t0=(Gaa #[117,112])then some true else if t0=(Gaa #[122,101,114,111])then some true else if t0=(Gaa #[97,119,97,121])then some true else if t0=(Gaa #[104,97,108,102])then some true else some (decide (t0=(Gaa #[101,118,101,110])))) λa=>if a=true then some true else some false
def Nb(t0:ByteArray):Option Bool:=Aaa (if¬t0=(Gaa #[])then (Jx t0 0).bind λb=>(nr b).bind λc=>if c=true then(Dm t0).bind λd=>if d=(t0.size:Int)then if(t0.size:Int)<=16 then(Lf t0).bind λe=>some (!e)else some false else some false else some false else some false) λa=>some a
def Nd(t0:List GEnum) (t1:(GEnum->Option Bool)):Int->Option (Ex Int Unit Int):=λs1=>if s1<(t0.length:Int)then (idx t0 s1).bind λa=>(t1 a).bind λb=>if b=true then some (Ex.ret s1)else some (Ex.go (aa .i64 (s1+1)))else some (Ex.brk ())
def Ac(t0:List GEnum) (t1:(GEnum->Option Bool)):Option Int:=(ca (Nd t0 t1) 0).bind λy=>match y with |.inr v=>some v |.inl _=>some (-1)
def ib(t0:List GEnum) (t1:(GEnum->Option Bool)):Option Bool:=(Ac t0 t1).bind λa=>some (decide (0<=a))
def uh(t0:GEnum) (t1:ByteArray):Option Bool:=some (decide (t0.j=t1))
def Kp(t0:List GEnum) (t1:ByteArray):Option Bool:=(ib t0 (λa=>uh a t1)).bind λb=>some b
def pe(t0:List ByteArray) (t1:ByteArray):Int->Option (Ex Int Unit Int):=λs1=>if s1<(t0.length:Int)then (idx t0 s1).bind λa=>if t1=a then some (Ex.ret s1)else some (Ex.go (aa .i64 (s1+1)))else some (Ex.brk ())
def Fj(t0:List ByteArray) (t1:ByteArray):Option Int:=(ca (pe t0 t1) 0).bind λy=>match y with |.inr v=>some v |.inl _=>some (-1)
def me(t0:List ByteArray) (t1:ByteArray):Option Bool:=(Fj t0 t1).bind λa=>some (decide (0<=a))
def zm(t2:GEnum):Int->Option (Ex Int Unit (Int×Int)):=λa=>if a<(t2.r.length:Int)then (idx t2.r a).bind λb=>(Nb b).bind λc=>if c=false then some (Ex.ret (2,(aa .i64 (100+a))))else(ju t2.r a).bind λd=>(me d b).bind λe=>if e=true then some (Ex.ret (7,(aa .i64 (100+a))))else some (Ex.go (aa .i64 (a+1)))else some (Ex.brk ())
def lr(t0:GLaw) (t1:Int) (t2:GEnum):Option (Int×Int):=(Nb t2.j).bind λa=>if a=false then some (2,0)else(ju t0.q t1).bind λb=>(Kp b t2.j).bind λc=>if c=true then some (7,0)else if(t2.r.length:Int)=0 then some (5,0)else if 16<(t2.r.length:Int)then some (4,116)else(ca (zm t2) 0).bind λy=>match y with |.inr v=>some v |.inl _=>some (0,0)
def Bk(t0:GLaw):Int->Option (Ex Int Unit GLawError):=λs2=>if s2<(t0.q.length:Int)then (idx t0.q s2).bind λb=>(lr t0 s2 b).bind λa=>if¬a.1=0 then some (Ex.ret (GLawError.mk a.1 1 s2 a.2))else some (Ex.go (aa .i64 (s2+1)))else some (Ex.brk ())
def Gt(t0:GLaw):Option GLawError:=if 8<(t0.q.length:Int)then some (GLawError.mk 4 1 8 0)else(ca (Bk t0) 0).bind λy=>match y with |.inr v=>some v |.inl _=>some (GLawError.mk 0 0 0 0)
def Jc(t0:GType) (t1:List GEnum):Option Bool:=Aaa (if t0.a=1 then some true else if t0.a=2 then some true else if t0.a=3 then some true else if t0.a=4 then some true else some (t0.a==5)) λa=>if a=true then some (t0.g==0)else if t0.a=6 then Aaa (if 0<=t0.g then some (decide (t0.g<(t1.length:Int)))else some false) λb=>some b else some false
def Cc(t0:GType) (t1:List GEnum):Option (Int×Int):=(Jc t0 t1).bind λa=>if a=false then some (0,(-1))else if t0.a=1 then some (0,1)else if t0.a=2 then some ((-1000000000000),1000000000000)else if t0.a=3 then some ((-1000000000000000),1000000000000000)else if t0.a=4 then some ((-1000000000),1000000000)else if t0.a=5 then some (0,109572)else(idx t1 t0.g).bind λb=>some (0,(aa .i64 ((b.r.length:Int)-1)))
def xd(t0:GDateRange):Option Bool:=Aaa (if 0<=t0.n then if t0.n<=t0.To then some (decide (t0.To<=109573))else some false else some false) λa=>some a
def Ib(t0:List GRow) (t1:(GRow->Option Bool)):Int->Option (Ex Int Unit (Int×Bool)):=λs1=>if s1<(t0.length:Int)then (idx t0 s1).bind λa=>(t1 a).bind λb=>if b=true then some (Ex.ret (s1,true))else some (Ex.go (aa .i64 (s1+1)))else some (Ex.brk ())
def Ub(t0:List GRow) (t1:(GRow->Option Bool)):Option (Int×Bool):=(ca (Ib t0 t1) 0).bind λy=>match y with |.inr v=>some v |.inl _=>some (0,false)
def Tc(t0:GDateRange):Option Bool:=Aaa ((xd t0).bind λb=>if b=true then some (decide (t0.n<t0.To))else some false) λa=>some a
def Wl(t0:GDateRange) (t1:GDateRange):Option (GDateRange×Bool):=Aaa ((Tc t0).bind λb=>if b=true then(Tc t1).bind λc=>some (!c)else some true) λa=>if a=true then some ((GDateRange.mk 0 0),false)else if(min t0.To t1.To)<=(max t0.n t1.n)then some ((GDateRange.mk 0 0),false)else some ((GDateRange.mk (max t0.n t1.n) (min t0.To t1.To)),true)
def qq(t0:GRow) (t1:GRow):Option Bool:=(Wl t0.w t1.w).bind λb=>Aaa (if b.2=true then some (decide ((max t0.Lo t1.Lo)<(min t0.Hi t1.Hi)))else some false) λa=>some a
def qe(t0:GRow) (t1:GRow):Option Bool:=(qq t0 t1).bind λa=>some a
def El(t0:GTable) (d:(Int×Int)) (k:(Int×Int)):Int->Option (Ex Int Unit (Int×Int)):=λb=>if b<(t0.Rows.length:Int)then (idx t0.Rows b).bind λa=>Aaa ((xd a.w).bind λh=>if h=true then if¬a.w.n=a.w.To then some (decide (a.Hi<=a.Lo))else some true else some true) λe=>if e=true then some (Ex.ret (b,3))else Aaa (if¬a.Lo<d.1 then if¬d.2<a.Lo then if¬(aa .i64 (a.Hi-1))<d.1 then some (decide (d.2<(aa .i64 (a.Hi-1))))else some true else some true else some true) λf=>if f=true then some (Ex.ret (b,3))else Aaa (if¬a.N<k.1 then some (decide (k.2<a.N))else some true) λg=>if g=true then some (Ex.ret (b,3))else(ju t0.Rows b).bind λi=>(Ub i (λc=>qe c a)).bind λj=>if j.2=true then some (Ex.ret (b,11))else some (Ex.go (aa .i64 (b+1)))else some (Ex.brk ())
def pq(t0:GTable) (t1:List GEnum):Option (Int×Int):=if 64<(t0.Rows.length:Int)then some (64,4)else Aaa ((Jc t0.ab t1).bind λb=>if b=true then(Jc t0.Value t1).bind λc=>some (!c)else some true) λa=>if a=true then some ((-1),8)else(Cc t0.ab t1).bind λd=>(Cc t0.Value t1).bind λe=>(ca (El t0 d e) 0).bind λy=>match y with |.inr v=>some v |.inl _=>some (0,0)
def jd(t0:List GTable) (t1:(GTable->Option Bool)):Int->Option (Ex Int Unit Int):=λs1=>if s1<(t0.length:Int)then (idx t0 s1).bind λa=>(t1 a).bind λb=>if b=true then some (Ex.ret s1)else some (Ex.go (aa .i64 (s1+1)))else some (Ex.brk ())
def Tb(t0:List GTable) (t1:(GTable->Option Bool)):Option Int:=(ca (jd t0 t1) 0).bind λy=>match y with |.inr v=>some v |.inl _=>some (-1)
def Xa(t0:List GTable) (t1:(GTable->Option Bool)):Option Bool:=(Tb t0 t1).bind λa=>some (decide (0<=a))
def fg(t0:GTable) (t1:ByteArray):Option Bool:=some (decide (t0.j=t1))
def Hq(t0:List GTable) (t1:ByteArray):Option Bool:=(Xa t0 (λa=>fg a t1)).bind λb=>some b
def cj(t0:GLaw):Int->Option (Ex Int Unit GLawError):=λs2=>if s2<(t0.Tables.length:Int)then (idx t0.Tables s2).bind λc=>(pq c t0.q).bind λb=>Aaa ((Nb c.j).bind λh=>if h=false then some (2,0)else Aaa ((Kp t0.q c.j).bind λi=>if i=false then(ju t0.Tables s2).bind λf=>(Hq f c.j).bind λg=>some g else some true) λd=>if d=true then some (7,0)else if¬b.2=0 then if¬b.1=(-1)then some (b.2,(aa .i64 (100+b.1)))else some (b.2,0)else some (0,0)) λ(a,e)=>if¬a=0 then some (Ex.ret (GLawError.mk a 2 s2 e))else some (Ex.go (aa .i64 (s2+1)))else some (Ex.brk ())
def Pr(t0:GLaw):Option GLawError:=if 8<(t0.Tables.length:Int)then some (GLawError.mk 4 2 8 0)else(ca (cj t0) 0).bind λy=>match y with |.inr v=>some v |.inl _=>some (GLawError.mk 0 0 0 0)
def Hk(t0:List GField):((List GType)×Int)->Option (Ex ((List GType)×Int) (List GType) Unit):=λ(s1,s2)=>if s2<(t0.length:Int)then (idx t0 s2).bind λa=>(app 16 s1 ([a.ai])).bind λb=>some (Ex.go (b,(aa .i64 (s2+1))))else some (Ex.brk s1)
def dj(t0:List GField):Option (List GType):=(ca (Hk t0) (([]:List GType),0)).bind λy=>match y with |.inr _=>none |.inl a=>some a
def Wf(t0:GLaw) (t1:Int):Option GSignature:=(idx t0.e t1).bind λa=>(dj a.u).bind λe=>(dj a.d).bind λf=>Aaa (Aaa (if 0<=a.z then some (decide (a.z<(t0.e.length:Int)))else some false) λc=>if c=true then(idx t0.e a.z).bind λg=>(dj g.d).bind λh=>some (h,true)else some (([]:List GType),false)) λ(d,b)=>some (GSignature.mk t0.q t0.Tables e f d b)
def qk(t0:List (List Int)) (t1:Int):Option (List Int):=if t0.length<=1048576/\(∀l∈t0,l.length<=1048576/\∀e∈l,0<=e/\e<t0.length)/\0<=t1/\t1<t0.length then some (DK t0 t1)else none
def Ya(t0:List Int):Option (List Int):=if t0.length<=8796093022208 then some (t0.mergeSort λx y=>decide (x<=y))else none
def La(t0:List Int):Option (List Int):=if t0.length<=8796093022208 then some (Go.Lib.compact t0)else none
def Il(t0:List Int):Option (List Int):=(Ya t0).bind λa=>(La a).bind λb=>some b
def Zi(t0:List GNode):((List Int)×(List Int)×(List Int)×Int)->Option (Ex ((List Int)×(List Int)×(List Int)×Int) ((List Int)×(List Int)×(List Int)) Unit):=λ(s1,s2,b,g)=>if g<(t0.length:Int)then Aaa ((idx t0 g).bind λa=>if a.Op=7 then(app 8 s1 ([a.N])).bind λj=>some (j,s2,b)else if a.Op=8 then(app 8 s2 ([a.N])).bind λh=>some (s1,h,b)else Aaa (if a.Op=36 then some true else if a.Op=37 then some true else if a.Op=38 then some true else some (a.Op==39)) λc=>if c=true then(app 8 b ([a.N])).bind λi=>some (s1,s2,i)else some (s1,s2,b)) λ(d,e,f)=>some (Ex.go (d,e,f,(aa .i64 (g+1))))else some (Ex.brk (s1,s2,b))
def bg(t0:List GNode):Option ((List Int)×(List Int)×(List Int)):=(ca (Zi t0) (([]:List Int),([]:List Int),([]:List Int),0)).bind λy=>match y with |.inr _=>none |.inl (a,b,c)=>(Il a).bind λd=>(Il b).bind λe=>(Il c).bind λf=>some (d,e,f)
def ug(t1:Int) (f:((List Int)×(List Int)×(List Int))):((List Int)×Int)->Option (Ex ((List Int)×Int) (List Int) Unit):=λ(b,c)=>if c<(f.2.1.length:Int)then Aaa ((idx f.2.1 c).bind λe=>Aaa (if 0<=e then some (decide (e<t1))else some false) λg=>if g=true then(app 8 b ([e])).bind λd=>some d else some b) λa=>some (Ex.go (a,(aa .i64 (c+1))))else some (Ex.brk b)
def tg(t1:Int) (g:((List Int)×(List Int)×(List Int))):((List Int)×Int)->Option (Ex ((List Int)×Int) (List Int) Unit):=λ(a,b)=>if b<(g.2.1.length:Int)then Aaa ((idx g.2.1 b).bind λc=>Aaa (if 0<=c then some (decide (c<t1))else some false) λd=>if d=true then(app 8 a ([c])).bind λf=>some f else some a) λe=>some (Ex.go (e,(aa .i64 (b+1))))else some (Ex.brk a)
def Oe(t0:GRule) (t1:Int):Option (List Int):=(bg t0.ac).bind λc=>(bg t0.Value).bind λd=>(ca (ug t1 c) (([]:List Int),0)).bind λy=>match y with |.inr _=>none |.inl a=>(ca (tg t1 d) (a,0)).bind λy=>match y with |.inr _=>none |.inl b=>some b
def Vi(t0:List Int):Option (List Int):=(Ya t0).bind λa=>(La a).bind λb=>some b
def Gc(t0:GScope):Option (List (List Int)):=if t0.d.length<=1048576/\t0.f.length<=1048576/\(∀r∈t0.f,r.ac.length<=1048576/\r.Value.length<=1048576)then ((Kaa t0.d.length).mapM λ(d:Nat)=>((t0.f.filter λ(r:GRule)=>r.s==(d:Int)).mapM λr=>Oe r t0.d.length).bind λls=>some (Pd ls.flatten))else none
def Fc(t0:GScope) (t1:Int):Option (List Int):=Aaa (if¬t1<0 then some (decide ((t0.d.length:Int)<=t1))else some true) λa=>if a=true then some ([])else(Gc t0).bind λb=>(qk b t1).bind λc=>some c
def bd(t0:List GScope) (t1:(GScope->Option Bool)):Int->Option (Ex Int Unit Int):=λs1=>if s1<(t0.length:Int)then (idx t0 s1).bind λa=>(t1 a).bind λb=>if b=true then some (Ex.ret s1)else some (Ex.go (aa .i64 (s1+1)))else some (Ex.brk ())
def Sb(t0:List GScope) (t1:(GScope->Option Bool)):Option Int:=(ca (bd t0 t1) 0).bind λy=>match y with |.inr v=>some v |.inl _=>some (-1)
def Wa(t0:List GScope) (t1:(GScope->Option Bool)):Option Bool:=(Sb t0 t1).bind λa=>some (decide (0<=a))
def fe(t0:GScope) (t1:GScope):Option Bool:=some (decide (t0.j=t1.j))
def Uc(t0:GField) (t1:GField):Option Bool:=some (decide (t0.j=t1.j))
def Zc(t0:List GField) (t1:(GField->Option Bool)):Int->Option (Ex Int Unit Int):=λs1=>if s1<(t0.length:Int)then (idx t0 s1).bind λa=>(t1 a).bind λb=>if b=true then some (Ex.ret s1)else some (Ex.go (aa .i64 (s1+1)))else some (Ex.brk ())
def Rb(t0:List GField) (t1:(GField->Option Bool)):Option Int:=(ca (Zc t0 t1) 0).bind λy=>match y with |.inr v=>some v |.inl _=>some (-1)
def Ma(t0:List GField) (t1:(GField->Option Bool)):Option Bool:=(Rb t0 t1).bind λa=>some (decide (0<=a))
def Am(t0:GLaw) (t1:GField) (t2:List GField) (c:List GField):Option Int:=(Nb t1.j).bind λd=>if d=false then some 2 else Aaa ((Ma t2 (λa=>Uc a t1)).bind λe=>if e=false then(Ma c (λa=>Uc a t1)).bind λf=>some f else some true) λb=>if b=true then some 7 else(Jc t1.ai t0.q).bind λg=>if g=false then some 8 else some 0
def Od(t0:List GRule) (t1:(GRule->Option Bool)):Int->Option (Ex Int Unit Int):=λs1=>if s1<(t0.length:Int)then (idx t0 s1).bind λa=>(t1 a).bind λb=>if b=true then some (Ex.ret s1)else some (Ex.go (aa .i64 (s1+1)))else some (Ex.brk ())
def Bc(t0:List GRule) (t1:(GRule->Option Bool)):Option Int:=(ca (Od t0 t1) 0).bind λy=>match y with |.inr v=>some v |.inl _=>some (-1)
def jb(t0:List GRule) (t1:(GRule->Option Bool)):Option Bool:=(Bc t0 t1).bind λa=>some (decide (0<=a))
def ef(t0:GRule) (t1:GRule):Option Bool:=some (decide (t0.j=t1.j))
def strings_Contains(t0:ByteArray) (t1:ByteArray):Option Bool:=if t1.size=1 then some (t0.data.toList.contains (t1.data.toList.headD 0))else none
def fj(t0:ByteArray):Int->Option (Ex Int Unit Bool):=λa=>if a<(t0.size:Int)then Aaa ((Jx t0 a).bind λb=>if¬b<32 then some (decide (126<b))else some true) λc=>if c=true then some (Ex.ret false)else some (Ex.go (aa .i64 (a+1)))else some (Ex.brk ())
def Vn(t0:ByteArray):Option Bool:=Aaa (if¬64<(t0.size:Int)then (strings_Contains t0 (Gaa #[34])).bind λb=>some b else some true) λa=>if a=true then some false else(ca (fj t0) 0).bind λy=>match y with |.inr v=>some v |.inl _=>some true
def Hl(t0:Int):Option Int:=Aaa (if t0=1 then some true else if t0=2 then some true else if t0=3 then some true else if t0=4 then some true else if t0=5 then some true else if t0=6 then some true else if t0=7 then some true else if t0=8 then some true else if t0=9 then some true else if t0=35 then some true else if t0=36 then some true else if t0=37 then some true else if t0=38 then some true else some (t0==39)) λa=>if a=true then some 0 else Aaa (if t0=10 then some true else if t0=25 then some true else if t0=31 then some true else if t0=32 then some true else if t0=33 then some true else some (t0==34)) λb=>if b=true then some 1 else Aaa (if t0=11 then some true else if t0=12 then some true else if t0=13 then some true else if t0=14 then some true else if t0=15 then some true else if t0=16 then some true else if t0=17 then some true else if t0=18 then some true else if t0=19 then some true else if t0=20 then some true else if t0=21 then some true else if t0=22 then some true else if t0=23 then some true else if t0=24 then some true else if t0=27 then some true else if t0=28 then some true else if t0=29 then some true else some (t0==30)) λc=>if c=true then some 2 else if t0=26 then some 3 else some (-1)
def wk(t0:List GNode):((List Int)×(List Int)×Int)->Option (Ex ((List Int)×(List Int)×Int) ((List Int)×(List Int)) ((List Int)×Int×Int)):=λ(g,c,a)=>if a<(t0.length:Int)then (idx t0 a).bind λl=>(Hl l.Op).bind λf=>if f<0 then some (Ex.ret ([],a,2))else if(c.length:Int)<f then some (Ex.ret ([],a,5))else(idx g a).bind λx12=>(put g a a).bind λb=>Aaa (if 0<f then(idx c (aa .i64 ((c.length:Int)-f))).bind λh=>(idx b a).bind λx16=>(put b a h).bind λi=>some i else some b) λd=>(ju c (aa .i64 ((c.length:Int)-f))).bind λj=>(idx d a).bind λk=>(app 8 j ([k])).bind λe=>if 12<(e.length:Int)then some (Ex.ret ([],a,16))else some (Ex.go (d,e,(aa .i64 (a+1))))else some (Ex.brk (g,c))
def tm(t0:List GNode):Option ((List Int)×Int×Int):=if 48<(t0.length:Int)then some ([],0,4)else if(t0.length:Int)=0 then some ([],0,5)else(UB 8 0 (t0.length:Int) (t0.length:Int)).bind λc=>(ca (wk t0) (c,([]:List Int),0)).bind λy=>match y with |.inr v=>some v |.inl (a,b)=>if 1<(b.length:Int)then some ([],(t0.length:Int),4)else some (a,0,0)
def Ep(t0:Int):Option Bool:=Aaa (if t0=1 then some true else if t0=2 then some true else if t0=3 then some true else if t0=4 then some true else if t0=5 then some true else if t0=6 then some true else if t0=7 then some true else if t0=8 then some true else if t0=14 then some true else if t0=15 then some true else if t0=16 then some true else if t0=33 then some true else if t0=34 then some true else if t0=36 then some true else if t0=37 then some true else if t0=38 then some true else some (t0==39)) λa=>if a=true then some true else some false
def Jd(t0:Int) (t1:Int) (t2:GSignature):Option (GType×Int):=(Cc (GType.mk t1 0) t2.q).bind λa=>Aaa (if¬t0<a.1 then some (decide (a.2<t0))else some true) λb=>if b=true then some ((GType.mk 0 0),3)else some ((GType.mk t1 0),0)
def kr(t0:Int) (t1:GSignature):Option (GType×Int):=if t0<0 then some ((GType.mk 0 0),3)else Aaa (if¬(t1.q.length:Int)<=(aa .i64 (Naa t0 16))then (idx t1.q (aa .i64 (Naa t0 16))).bind λb=>some (decide ((b.r.length:Int)<=(Taa t0 16)))else some true) λa=>if a=true then some ((GType.mk 0 0),6)else some ((GType.mk 6 (aa .i64 (Naa t0 16))),0)
def Wb(t0:Int) (t1:List GType) (t2:GSignature):Option (GType×Int):=Aaa (if¬t0<0 then some (decide ((t1.length:Int)<=t0))else some true) λb=>if b=true then some ((GType.mk 0 0),6)else(idx t1 t0).bind λa=>(Jc a t2.q).bind λc=>if c=false then some ((GType.mk 0 0),8)else some (a,0)
def th(t0:Int):Option Bool:=Aaa (if 0<=t0 then some (decide (t0<=5))else some false) λa=>some a
def aj(t0:GNode) (t1:GType) (t2:GSignature):Option (GType×Int):=Aaa (if t0.Op=34 then Aaa (if¬t0.N<0 then(th (Taa t0.N 8)).bind λi=>some (!i)else some true) λg=>if g=true then some (Sum.inr ((GType.mk 0 0),3))else some (Sum.inl (aa .i64 (Naa t0.N 8)))else some (Sum.inl t0.N)) λz=>match z with |.inr v=>some v |.inl d=>Aaa (if¬d<0 then some (decide ((t2.Tables.length:Int)<=d))else some true) λh=>if h=true then some ((GType.mk 0 0),6)else(idx t2.Tables d).bind λa=>Aaa ((Jc a.ab t2.q).bind λe=>if e=true then(Jc a.Value t2.q).bind λf=>if f=true then some (!((t1.a==a.ab.a)&&(t1.g==a.ab.g)))else some true else some true) λb=>if b=true then some ((GType.mk 0 0),8)else if t0.Op=34 then Aaa (if a.ab.a=3 then some (a.Value.a !=4)else some true) λc=>if c=true then some ((GType.mk 0 0),8)else some (a.ab,0)else some (a.Value,0)
def ah(t0:Int):Option Bool:=Aaa (if¬t0=2 then if¬t0=3 then some (t0==4)else some true else some true) λa=>some a
def cg(t0:GNode) (t1:GSignature):Option (GType×Int):=if t1.av=false then some ((GType.mk 0 0),6)else if t0.Op=35 then some ((GType.mk 2 0),0)else(Wb t0.N t1.ap t1).bind λa=>if¬a.2=0 then some ((GType.mk 0 0),a.2)else Aaa (if t0.Op=36 then if¬a.1.a=2 then some (a.1.a==3)else some true else Aaa (if t0.Op=37 then some true else some (t0.Op==38)) λd=>if d=true then some (a.1.a==1)else if t0.Op=39 then(ah a.1.a).bind λc=>if c=false then some (a.1.a==5)else some true else some false) λb=>if b=false then some ((GType.mk 0 0),8)else some (a.1,0)
def rm(t0:Int) (t1:Int) (t2:Int):Option (GType×Bool):=if t0=14 then Aaa (if t2=4 then if¬t1=3 then some (t1==4)else some true else some false) λb=>some ((GType.mk t1 0),b)else if t2=2 then Aaa (if¬t1=2 then some (t1==3)else some true) λc=>some ((GType.mk t1 0),c)else Aaa (if t0=15 then if t1=3 then some (t2==3)else some false else some false) λa=>if a=true then some ((GType.mk 4 0),true)else some ((GType.mk 0 0),false)
def Ha(t0:Int) (t1:List GType):Option (GType×Bool):=if t0=10 then(idx t1 0).bind λx2=>(ah x2.a).bind λx3=>some (x2,x3)else if t0=25 then(idx t1 0).bind λx5=>some ((GType.mk 1 0),(x5.a==1))else Aaa (if t0=11 then some true else some (t0==12)) λj7=>if j7=true then Aaa ((idx t1 0).bind λf=>(idx t1 1).bind λg=>if f.a=g.a/\f.g=g.g then(ah f.a).bind λN=>some (f.a,f.g,N)else some (f.a,f.g,false)) λ(n,o,p)=>some ((GType.mk n o),p)else Aaa (if t0=13 then some true else if t0=14 then some true else some (t0==15)) λq=>if q=true then(idx t1 0).bind λO=>(idx t1 1).bind λP=>(rm t0 O.a P.a).bind λh=>some (h.1,h.2)else if t0=16 then Aaa ((idx t1 0).bind λc=>if c.a=3 then(idx t1 1).bind λQ=>some (c.a,c.g,(Q.a==3))else some (c.a,c.g,false)) λ(r,s,t)=>some ((GType.mk r s),t)else Aaa (if t0=17 then some true else some (t0==18)) λu=>if u=true then Aaa ((idx t1 0).bind λa=>(idx t1 1).bind λi=>if a.a=i.a/\a.g=i.g then(ah a.a).bind λR=>if R=false then some (a.a,a.g,(a.a==5))else some (a.a,a.g,true)else some (a.a,a.g,false)) λ(v,w,x)=>some ((GType.mk v w),x)else Aaa (if t0=19 then some true else some (t0==20)) λy=>if y=true then(idx t1 0).bind λj=>(idx t1 1).bind λk=>some ((GType.mk 1 0),((j.a==k.a)&&(j.g==k.g)))else Aaa (if t0=21 then some true else some (t0==22)) λz=>if z=true then Aaa ((idx t1 0).bind λe=>(idx t1 1).bind λl=>if e.a=l.a/\e.g=l.g then(ah e.a).bind λS=>if S=false then some (e.a==5)else some true else some false) λA=>some ((GType.mk 1 0),A)else Aaa (if t0=23 then some true else some (t0==24)) λB=>if B=true then Aaa ((idx t1 0).bind λT=>if T.a=1 then(idx t1 1).bind λU=>some (U.a==1)else some false) λC=>some ((GType.mk 1 0),C)else if t0=26 then Aaa ((idx t1 1).bind λb=>(idx t1 0).bind λV=>if V.a=1 then(idx t1 2).bind λm=>some (b.a,b.g,((b.a==m.a)&&(b.g==m.g)))else some (b.a,b.g,false)) λ(D,E,F)=>some ((GType.mk D E),F)else Aaa (if t0=27 then some true else some (t0==28)) λG=>if G=true then Aaa ((idx t1 0).bind λd=>if d.a=5 then(idx t1 1).bind λW=>some (d.a,d.g,(W.a==2))else some (d.a,d.g,false)) λ(H,I,J)=>some ((GType.mk H I),J)else Aaa (if t0=29 then some true else some (t0==30)) λK=>if K=true then Aaa ((idx t1 0).bind λX=>if X.a=5 then(idx t1 1).bind λY=>some (Y.a==5)else some false) λL=>some ((GType.mk 2 0),L)else Aaa (if t0=31 then some true else some (t0==32)) λM=>if M=true then(idx t1 0).bind λZ=>some ((GType.mk 2 0),(Z.a==5))else some ((GType.mk 0 0),false)
def ta(t0:GNode) (t1:List GType) (t2:GSignature):Option (GType×Int):=Aaa (if t0.Op=1 then(Jd t0.N 1 t2).bind λm=>some (Sum.inr (m.1,m.2))else if t0.Op=2 then(Jd t0.N 2 t2).bind λn=>some (Sum.inr (n.1,n.2))else if t0.Op=3 then(Jd t0.N 3 t2).bind λo=>some (Sum.inr (o.1,o.2))else if t0.Op=4 then(Jd t0.N 4 t2).bind λp=>some (Sum.inr (p.1,p.2))else if t0.Op=5 then(Jd t0.N 5 t2).bind λa=>some (Sum.inr (a.1,a.2))else if t0.Op=6 then(kr t0.N t2).bind λb=>some (Sum.inr (b.1,b.2))else if t0.Op=7 then(Wb t0.N t2.u t2).bind λc=>some (Sum.inr (c.1,c.2))else if t0.Op=8 then(Wb t0.N t2.d t2).bind λd=>some (Sum.inr (d.1,d.2))else if t0.Op=9 then some (Sum.inr ((GType.mk 5 0),0))else Aaa (if t0.Op=33 then some true else some (t0.Op==34)) λh=>if h=true then(idx t1 0).bind λk=>(aj t0 k t2).bind λe=>some (Sum.inr (e.1,e.2))else Aaa (if t0.Op=35 then some true else if t0.Op=36 then some true else if t0.Op=37 then some true else if t0.Op=38 then some true else some (t0.Op==39)) λi=>if i=true then(cg t0 t2).bind λf=>some (Sum.inr (f.1,f.2))else Aaa (if t0.Op=14 then some true else if t0.Op=15 then some true else some (t0.Op==16)) λj=>if j=true then(th t0.N).bind λl=>if l=false then some (Sum.inr ((GType.mk 0 0),3))else some (Sum.inl ())else some (Sum.inl ())) λz=>match z with |.inr v=>some v |.inl _=>(Ha t0.Op t1).bind λg=>if g.2=false then some ((GType.mk 0 0),8)else some (g.1,0)
def Dp(t0:List GNode) (t1:GSignature):((List GType)×Int)->Option (Ex ((List GType)×Int) (List GType) (GType×Int×Int)):=λ(b,c)=>if c<(t0.length:Int)then (idx t0 c).bind λe=>Aaa (if¬e.N=0 then(Ep e.Op).bind λj=>some (!j)else some false) λi=>if i=true then some (Ex.ret ((GType.mk 0 0),c,2))else(Hl e.Op).bind λd=>(dH b (aa .i64 ((b.length:Int)-d))).bind λf=>(ta e f t1).bind λa=>if¬a.2=0 then some (Ex.ret ((GType.mk 0 0),c,a.2))else(ju b (aa .i64 ((b.length:Int)-d))).bind λg=>(app 16 g ([a.1])).bind λh=>some (Ex.go (h,(aa .i64 (c+1))))else some (Ex.brk b)
def Ev(t0:List GNode) (t1:GSignature):Option (GType×Int×Int):=(tm t0).bind λb=>if¬b.2.2=0 then some ((GType.mk 0 0),b.2.1,b.2.2)else(ca (Dp t0 t1) (([]:List GType),0)).bind λy=>match y with |.inr v=>some v |.inl a=>(idx a 0).bind λc=>some (c,0,0)
def Fo(t0:List GNode) (t1:GSignature) (t2:GType):Option Int:=(Ev t0 t1).bind λa=>if¬a.2.2=0 then some a.2.2 else if¬(a.1.a=t2.a/\a.1.g=t2.g)then some 8 else some 0
def Bm(e:GRule) (c:List GRule):(Int×Int)->Option (Ex (Int×Int) Int Unit):=λ(a,b)=>if b<(c.length:Int)then Aaa ((idx c b).bind λf=>if f.s=e.s then some (aa .i64 (a+1))else some a) λd=>some (Ex.go (d,(aa .i64 (b+1))))else some (Ex.brk a)
def mr(t0:GScope) (t1:Int) (t2:GSignature):Option Int:=(idx t0.f t1).bind λa=>(ju t0.f t1).bind λp=>(ca (Bm a p) (0,0)).bind λy=>match y with |.inr _=>none |.inl d=>(Nb a.j).bind λi=>if i=false then some 2 else(ju t0.f t1).bind λj=>(jb j (λc=>ef c a)).bind λk=>if k=true then some 7 else Aaa (if¬a.s<0 then some (decide ((t0.d.length:Int)<=a.s))else some true) λe=>if e=true then some 6 else Aaa (if¬a.ag=(-1)then if¬a.ag<0 then if¬t1<=a.ag then(idx t0.f a.ag).bind λl=>some (l.s !=a.s)else some true else some true else some false) λf=>if f=true then some 9 else Aaa (if¬a.ao<0 then some (decide (9<a.ao))else some true) λg=>if g=true then some 3 else Aaa (if¬a.w.n<0 then if¬a.w.To<=a.w.n then some (decide (109573<a.w.To))else some true else some true) λh=>if h=true then some 3 else if 8<=d then some 4 else(Vn a.au).bind λm=>if m=false then some 2 else Aaa (if 0<(a.ac.length:Int)then (Fo a.ac t2 (GType.mk 1 0)).bind λb=>if¬b=0 then some (Sum.inr b)else some (Sum.inl ())else some (Sum.inl ())) λz=>match z with |.inr v=>some v |.inl _=>(idx t0.d a.s).bind λn=>(Fo a.Value t2 n.ai).bind λo=>some o
def Xh(t0:List Int) (t1:Int):Int->Option (Ex Int Unit Int):=λs1=>if s1<(t0.length:Int)then (idx t0 s1).bind λa=>if t1=a then some (Ex.ret s1)else some (Ex.go (aa .i64 (s1+1)))else some (Ex.brk ())
def mq(t0:List Int) (t1:Int):Option Int:=(ca (Xh t0 t1) 0).bind λy=>match y with |.inr v=>some v |.inl _=>some (-1)
def sf(t0:List Int) (t1:Int):Option Bool:=(mq t0 t1).bind λa=>some (decide (0<=a))
def Gk(t0:GLaw) (c:GScope):Int->Option (Ex Int Unit (Int×Int)):=λa=>if a<(c.u.length:Int)then (idx c.u a).bind λd=>(ju c.u a).bind λe=>(Am t0 d e ([])).bind λb=>if¬b=0 then some (Ex.ret (b,(aa .i64 (100+a))))else some (Ex.go (aa .i64 (a+1)))else some (Ex.brk ())
def Fk(t0:GLaw) (c:GScope):Int->Option (Ex Int Unit (Int×Int)):=λa=>if a<(c.d.length:Int)then (idx c.d a).bind λd=>(ju c.d a).bind λe=>(Am t0 d c.u e).bind λb=>if¬b=0 then some (Ex.ret (b,(aa .i64 (200+a))))else some (Ex.go (aa .i64 (a+1)))else some (Ex.brk ())
def Ek(d:GScope) (c:GSignature):Int->Option (Ex Int Unit (Int×Int)):=λa=>if a<(d.f.length:Int)then (mr d a c).bind λb=>if¬b=0 then some (Ex.ret (b,(aa .i64 (300+a))))else some (Ex.go (aa .i64 (a+1)))else some (Ex.brk ())
def Dk(d:GScope):Int->Option (Ex Int Unit (Int×Int)):=λa=>if a<(d.d.length:Int)then (Fc d a).bind λb=>(sf b a).bind λc=>if c=true then some (Ex.ret (9,(aa .i64 (200+a))))else some (Ex.go (aa .i64 (a+1)))else some (Ex.brk ())
def Jp(t0:GLaw) (t1:Int):Option (Int×Int):=(idx t0.e t1).bind λa=>(ju t0.e t1).bind λf=>Aaa ((Kp t0.q a.j).bind λh=>if h=false then(Hq t0.Tables a.j).bind λi=>if i=false then(Wa f (λb=>fe b a)).bind λj=>some j else some true else some true) λg=>(Nb a.j).bind λk=>if k=false then some (2,0)else if g=true then some (7,0)else Aaa (if¬a.z=(-1)then if¬a.z<0 then if¬t1<=a.z then(idx f a.z).bind λd=>some (d.z !=(-1))else some true else some true else some false) λc=>if c=true then some (6,0)else if 12<(a.u.length:Int)then some (4,112)else if 12<(a.d.length:Int)then some (4,212)else(ca (Gk t0 a) 0).bind λy=>match y with |.inr v=>some v |.inl _=>(ca (Fk t0 a) 0).bind λy=>match y with |.inr v=>some v |.inl _=>(Wf t0 t1).bind λe=>(ca (Ek a e) 0).bind λy=>match y with |.inr v=>some v |.inl _=>(ca (Dk a) 0).bind λy=>match y with |.inr v=>some v |.inl _=>some (0,0)
def bj(t0:GLaw):Int->Option (Ex Int Unit GLawError):=λs2=>if s2<(t0.e.length:Int)then (Jp t0 s2).bind λa=>if¬a.1=0 then some (Ex.ret (GLawError.mk a.1 3 s2 a.2))else some (Ex.go (aa .i64 (s2+1)))else some (Ex.brk ())
def Nr(t0:GLaw):Option GLawError:=if 4<(t0.e.length:Int)then some (GLawError.mk 4 3 4 0)else(ca (bj t0) 0).bind λy=>match y with |.inr v=>some v |.inl _=>some (GLawError.mk 0 0 0 0)
def xn(t0:GLaw):Option GLawError:=(Gt t0).bind λa=>if¬a.Code=0 then some a else(Pr t0).bind λb=>if¬b.Code=0 then some b else(Nr t0).bind λc=>some c
def Ef(t0:List GRule) (t1:(GRule->Option Bool)):((List Int)×(List Int)×(List Int)×Int)->Option (Ex ((List Int)×(List Int)×(List Int)×Int) ((List Int)×(List Int)) Unit):=λ(s2,h,i,a)=>if a<(t0.length:Int)then Aaa ((idx t0 a).bind λd=>Aaa (Aaa (if 0<=d.ag then some (decide (d.ag<a))else some false) λo=>if o=true then(idx i d.ag).bind λj=>some j else some (-1)) λc=>(idx i a).bind λx13=>(put i a c).bind λb=>(t1 d).bind λk=>if k=true then(idx b a).bind λx17=>(put b a (s2.length:Int)).bind λl=>(app 8 s2 ([a])).bind λm=>(app 8 h ([c])).bind λn=>some (m,n,l)else some (s2,h,b)) λ(e,f,g)=>some (Ex.go (e,f,g,(aa .i64 (a+1))))else some (Ex.brk (s2,h))
def Vf(t0:List GRule) (t1:(GRule->Option Bool)):Option ((List Int)×(List Int)):=(UB 8 0 (t0.length:Int) (t0.length:Int)).bind λc=>(ca (Ef t0 t1) (([]:List Int),([]:List Int),c,0)).bind λy=>match y with |.inr _=>none |.inl (a,b)=>some (a,b)
def Lb(t0:GDateRange) (t1:Int):Option Bool:=Aaa ((xd t0).bind λb=>if b=true then if t0.n<=t1 then some (decide (t1<t0.To))else some false else some false) λa=>some a
def Ks(t0:List GNode):Option ((List Int)×Int):=(tm t0).bind λa=>some (a.1,a.2.2)
def Uf(t0:GRule) (t1:Int) (t2:Int):Option Bool:=Aaa (if t0.s=t1 then(Lb t0.w t2).bind λb=>some b else some false) λa=>some a
def si(t0:GScope) (b:((List Int)×(List Int))):((List Int)×Int)->Option (Ex ((List Int)×Int) (List Int) Unit):=λ(s2,a)=>if a<(b.1.length:Int)then (idx b.1 a).bind λc=>(idx t0.f c).bind λd=>(app 8 s2 ([d.ao])).bind λe=>some (Ex.go (e,(aa .i64 (a+1))))else some (Ex.brk s2)
def om(t0:GScope) (t1:Int) (t2:Int):Option ((List Int)×(List Int)×(List Int)):=(Vf t0.f (λa=>Uf a t1 t2)).bind λc=>(ca (si t0 c) (([]:List Int),0)).bind λy=>match y with |.inr _=>none |.inl b=>some (c.1,c.2,b)
def Wi(t0:GEval_evaluator):((List Int)×Int×Int)->Option (Ex ((List Int)×Int×Int) (List Int) Unit):=λ(b,d,a)=>if 0<=a then(idx b a).bind λx8=>(put b a d).bind λe=>(idx t0.starts d).bind λc=>some (Ex.go (e,(aa .i64 (c-1)),(aa .i64 (a-1))))else some (Ex.brk b)
def Ze(t0:GEval_evaluator) (t1:Int):Option (List Int):=(idx t0.nodes t1).bind λd=>(Hl d.Op).bind λb=>(UB 8 0 b b).bind λc=>(ca (Wi t0) (c,(aa .i64 (t1-1)),(aa .i64 ((c.length:Int)-1)))).bind λy=>match y with |.inr _=>none |.inl a=>some a
def Un(t0:GNode):Option Bool:=Aaa ((Hl t0.Op).bind λe=>if¬e<0 then if¬t0.N=0 then(Ep t0.Op).bind λf=>some (!f)else some false else some true) λc=>if c=true then some false else Aaa (if t0.Op=14 then some true else if t0.Op=15 then some true else some (t0.Op==16)) λd=>if d=true then Aaa (if 0<=t0.N then some (decide (t0.N<=5))else some false) λa=>some a else if t0.Op=34 then Aaa (if 0<=t0.N then some (decide ((Taa t0.N 8)<=5))else some false) λb=>some b else if t0.Op=6 then some (decide (0<=t0.N))else some true
def Dv(t0:GNode) (t1:GEnv):Option Bool:=if t0.Op=7 then Aaa (if 0<=t0.N then some (decide (t0.N<(t1.u.length:Int)))else some false) λd=>some d else if t0.Op=8 then Aaa (if 0<=t0.N then if t0.N<(t1.d.length:Int)then (idx t1.d t0.N).bind λf=>some (f.a !=0)else some false else some false) λe=>some e else if t0.Op=33 then Aaa (if 0<=t0.N then some (decide (t0.N<(t1.Tables.length:Int)))else some false) λa=>some a else if t0.Op=34 then some (decide ((aa .i64 (Naa t0.N 8))<(t1.Tables.length:Int)))else Aaa (if t0.Op=36 then some true else if t0.Op=37 then some true else if t0.Op=38 then some true else some (t0.Op==39)) λb=>if b=true then Aaa (if 0<=t0.N then some (decide (t0.N<(t1.al.length:Int)))else some false) λc=>some c else some true
def Fb(t0:GValue):Option Bool:=Aaa (if¬t0.a=6 then some (t0.g !=0)else some false) λe=>if e=true then some false else if t0.a=1 then Aaa (if¬t0.N=0 then some (t0.N==1)else some true) λf=>some f else if t0.a=2 then Aaa (if(-1000000000000)<=t0.N then some (decide (t0.N<=1000000000000))else some false) λg=>some g else if t0.a=3 then Aaa (if(-1000000000000000)<=t0.N then some (decide (t0.N<=1000000000000000))else some false) λa=>some a else if t0.a=4 then Aaa (if(-1000000000)<=t0.N then some (decide (t0.N<=1000000000))else some false) λb=>some b else if t0.a=5 then Aaa (if 0<=t0.N then some (decide (t0.N<=109572))else some false) λc=>some c else if t0.a=6 then Aaa (if 0<=t0.g then if t0.g<8 then if 0<=t0.N then some (decide (t0.N<16))else some false else some false else some false) λd=>some d else some false
def nc(t0:List GValue):Int->Option (Ex Int Unit Bool):=λs1=>if s1<(t0.length:Int)then (idx t0 s1).bind λa=>(Fb a).bind λb=>if b=false then some (Ex.ret false)else some (Ex.go (aa .i64 (s1+1)))else some (Ex.brk ())
def Gf(t0:List GValue):Option Bool:=(ca (nc t0) 0).bind λy=>match y with |.inr v=>some v |.inl _=>some true
def Fq(t0:GValue) (t1:GType):Option Bool:=Aaa ((Fb t0).bind λb=>if b=true then if t0.a=t1.a then some (t0.g==t1.g)else some false else some false) λa=>some a
def Ni(t0:Int):Option Bool:=Aaa (if¬t0=2 then if¬t0=3 then some (t0==4)else some true else some true) λa=>some a
def wc(t0:Int) (t1:GType):Option Bool:=if¬t1.g=0 then some false else if t0=36 then Aaa (if¬t1.a=2 then some (t1.a==3)else some true) λa=>some a else if t0=39 then Aaa ((Ni t1.a).bind λc=>if c=false then some (t1.a==5)else some true) λb=>some b else some (t1.a==1)
def Ka(t0:Int) (t1:Int):Option Bool:=if t0=10 then(Ni t1).bind λa=>some a else if t0=25 then some (t1==1)else some (t1==5)
def Bd(t0:GValue) (t1:GValue):Option Bool:=Aaa (if t0.a=t1.a then some (t0.g==t1.g)else some false) λa=>some a
def Aa(t0:Int) (t1:GValue) (t2:GValue):Option Bool:=Aaa (if t0=11 then some true else some (t0==12)) λq=>if q=true then Aaa ((Bd t1 t2).bind λs=>if s=true then(Ni t1.a).bind λt=>some t else some false) λr=>some r else if t0=13 then Aaa (if t2.a=2 then if¬t1.a=2 then some (t1.a==3)else some true else some false) λa=>some a else if t0=14 then Aaa (if t2.a=4 then if¬t1.a=3 then some (t1.a==4)else some true else some false) λb=>some b else if t0=15 then if t2.a=2 then Aaa (if¬t1.a=2 then some (t1.a==3)else some true) λc=>some c else Aaa (if t1.a=3 then some (t2.a==3)else some false) λd=>some d else if t0=16 then Aaa (if t1.a=3 then some (t2.a==3)else some false) λe=>some e else Aaa (if t0=17 then some true else if t0=18 then some true else if t0=21 then some true else some (t0==22)) λf=>if f=true then Aaa ((Bd t1 t2).bind λn=>if n=true then(Ni t1.a).bind λo=>if o=false then some (t1.a==5)else some true else some false) λg=>some g else Aaa (if t0=19 then some true else some (t0==20)) λh=>if h=true then(Bd t1 t2).bind λp=>some p else Aaa (if t0=23 then some true else some (t0==24)) λi=>if i=true then Aaa (if t1.a=1 then some (t2.a==1)else some false) λj=>some j else Aaa (if t0=27 then some true else some (t0==28)) λk=>if k=true then Aaa (if t1.a=5 then some (t2.a==2)else some false) λl=>some l else Aaa (if t1.a=5 then some (t2.a==5)else some false) λm=>some m
def ea(t0:GNode) (t1:List GValue) (t2:GEnv):Option Bool:=if t0.Op=7 then(idx t2.u t0.N).bind λt=>(Fb t).bind λu=>some u else if t0.Op=8 then(idx t2.d t0.N).bind λv=>(Fb v).bind λw=>some w else if t0.Op=33 then(idx t2.Tables t0.N).bind λs=>Aaa ((idx t1 0).bind λx=>(Fq x s.ab).bind λf=>if f=true then if 1<=s.Value.a then some (decide (s.Value.a<=6))else some false else some false) λb=>some b else if t0.Op=34 then(idx t2.Tables (aa .i64 (Naa t0.N 8))).bind λa=>Aaa ((idx t1 0).bind λg=>if g.a=3 then if a.ab.a=3/\a.ab.g=0 then some ((a.Value.a==4)&&(a.Value.g==0))else some false else some false) λc=>some c else Aaa (if t0.Op=36 then some true else if t0.Op=37 then some true else if t0.Op=38 then some true else some (t0.Op==39)) λd=>if d=true then(idx t2.al t0.N).bind λh=>(wc t0.Op h).bind λi=>some i else if(t1.length:Int)=1 then(idx t1 0).bind λj=>(Ka t0.Op j.a).bind λk=>some k else if(t1.length:Int)=2 then(idx t1 0).bind λl=>(idx t1 1).bind λm=>(Aa t0.Op l m).bind λn=>some n else if(t1.length:Int)=3 then Aaa ((idx t1 0).bind λo=>if o.a=1 then(idx t1 1).bind λp=>(idx t1 2).bind λq=>(Bd p q).bind λr=>some r else some false) λe=>some e else some true
def Rc(t0:GNode) (t1:GEnv) (o:GType):(Int×Int×Int×Int)->Option (Ex (Int×Int×Int×Int) (Int×Int×Int) (GValue×Int)):=λ(d,e,c,b)=>if b<(t1.r.length:Int)then Aaa ((idx t1.r b).bind λf=>Aaa (if¬(f.length:Int)<=t0.N then(idx f t0.N).bind λl=>some (l.a==0)else some true) λg=>if g=true then some (Sum.inr (Ex.ret ((GValue.mk 0 0 0),6)))else(idx f t0.N).bind λa=>(Fq a o).bind λm=>if m=false then some (Sum.inr (Ex.ret ((GValue.mk 0 0 0),8)))else if t0.Op=36 then(Fb (GValue.mk d e (aa .i64 (c+a.N)))).bind λn=>if n=false then some (Sum.inr (Ex.ret ((GValue.mk 0 0 0),3)))else some (Sum.inl (d,e,(aa .i64 (c+a.N))))else if t0.Op=37 then some (Sum.inl (d,e,(min c a.N)))else if t0.Op=38 then some (Sum.inl (d,e,(max c a.N)))else if t0.Op=39 then Aaa (if¬b=0 then some (decide (c<a.N))else some true) λh=>if h=true then some (Sum.inl (a.a,a.g,a.N))else some (Sum.inl (d,e,c))else some (Sum.inl (d,e,c))) λz=>match z with |.inr v=>some v |.inl (i,j,k)=>some (Ex.go (i,j,k,(aa .i64 (b+1))))else some (Ex.brk (d,e,c))
def af(t0:GNode) (t1:GEnv):Option (GValue×Int):=(idx t1.al t0.N).bind λd=>Aaa (if t0.Op=37 then some 1 else some 0) λe=>Aaa (if t0.Op=39 then some ((t1.r.length:Int)==0)else some false) λf=>if f=true then some ((GValue.mk 0 0 0),6)else(ca (Rc t0 t1 d) (d.a,d.g,e,0)).bind λy=>match y with |.inr v=>some v |.inl (a,b,c)=>some ((GValue.mk a b c),0)
def kg(t0:GRow) (t1:Int) (t2:Int):Option Bool:=Aaa ((Lb t0.w t1).bind λb=>if b=true then if t0.Lo<=t2 then some (decide (t2<t0.Hi))else some false else some false) λa=>some a
def ku(t0:GTable) (t1:Int) (t2:Int):Option (Int×Bool):=(Ub t0.Rows (λa=>kg a t1 t2)).bind λb=>some (b.1,b.2)
def Ie(t0 t1:Int):Option (Int×Int):=if 0<=t0/\t0<18446744073709551616/\0<=t1/\t1<18446744073709551616 then some (t0*t1 / 18446744073709551616,t0*t1 % 18446744073709551616)else none
def ig(t0 t1 t2:Int):Option (Int×Int):=if 0<=t0/\t0<t2/\0<=t1/\t1<18446744073709551616/\t2<18446744073709551616 then some ((t0*18446744073709551616+t1) / t2,(t0*18446744073709551616+t1) % t2)else none
def Ij(t0:Int) (t1:Int):Option (Int×Int×Bool):=Aaa (if t1<0 then some (aa .u64 (-(aa .u64 t1)))else some (aa .u64 t1)) λc=>(Ie (aa .u64 t0) c).bind λb=>if 1000000<=b.1 then some (0,0,false)else(ig b.1 b.2 1000000).bind λa=>if 1000000000000000<a.1 then some (0,0,false)else if t1<0 then some ((aa .i64 (-(aa .i64 a.1))),(aa .i64 (-(aa .i64 a.2))),true)else some ((aa .i64 a.1),(aa .i64 a.2),true)
def fi(t0:Int):Option Bool:=Aaa (if 0<=t0 then some (decide (t0<=5))else some false) λa=>some a
def Nf(t0:Int) (t1:Int):Option Bool:=Aaa (if¬t1<t0 then some (decide (t0<(aa .i64 (-t1))))else some true) λa=>some a
def Je(t0:Int):Option Int:=if t0<0 then some (aa .u64 (-(aa .u64 t0)))else some (aa .u64 t0)
def lf(t0:Int) (t1:Int) (t2:Int) (c:Bool) (a:Int):Option Int:=if t1=0 then some t0 else Aaa (if a=0 then some c else if a=1 then some (!c)else if a=3 then some true else if a=4 then some (decide ((aa .u64 (t2-t1))<=t1))else if a=5 then if¬(aa .u64 (t2-t1))<t1 then if t1=(aa .u64 (t2-t1))then some ((Taa t0 2)==1)else some false else some true else some false) λd=>Aaa (if d=true then some (aa .u64 (t0+1))else some t0) λb=>some b
def Iq(t0:Int) (t1:Bool):Option Int:=if t1=true then some (aa .i64 (-(aa .i64 t0)))else some (aa .i64 t0)
def Mf(t0:Int) (t1:Int) (t2:Int):Option (Int×Int):=(fi t2).bind λh=>if h=false then some (0,1)else if t1=0 then some (0,12)else Aaa ((Nf t0 4611686018427387904).bind λi=>if i=false then(Nf t1 4611686018427387904).bind λj=>some j else some true) λg=>if g=true then some (0,3)else(Je t0).bind λf=>(Je t1).bind λa=>(quo .u64 f a).bind λb=>(rem .u64 f a).bind λc=>(lf b c a (!((decide (t0<0))==(decide (t1<0)))) t2).bind λd=>(Iq d (!((decide (t0<0))==(decide (t1<0))))).bind λe=>some (e,0)
def rq(t0:Int) (t1:Int) (t2:Int):Option (Int×Int):=Aaa (if¬(aa .i64 (t0+(aa .i64 (Naa t1 1000000))))<(-2000000000000000)then some (decide (2000000000000000<(aa .i64 (t0+(aa .i64 (Naa t1 1000000))))))else some true) λd=>if d=true then some (0,3)else Aaa (if 1<(aa .i64 (t0+(aa .i64 (Naa t1 1000000))))then some (aa .i64 ((Taa (aa .i64 (t0+(aa .i64 (Naa t1 1000000)))) 2)+2))else if(aa .i64 (t0+(aa .i64 (Naa t1 1000000))))<(-1)then some (aa .i64 ((Taa (aa .i64 (t0+(aa .i64 (Naa t1 1000000)))) 2)-2))else some (Taa (aa .i64 (t0+(aa .i64 (Naa t1 1000000)))) 2)) λb=>(Mf (aa .i64 ((aa .i64 (b*1000000))+(Taa t1 1000000))) 1000000 t2).bind λa=>if¬a.2=0 then some (0,a.2)else Aaa (if¬(aa .i64 ((aa .i64 ((aa .i64 (t0+(aa .i64 (Naa t1 1000000))))-b))+a.1))<(-1000000000000000)then some (decide (1000000000000000<(aa .i64 ((aa .i64 ((aa .i64 (t0+(aa .i64 (Naa t1 1000000))))-b))+a.1))))else some true) λc=>if c=true then some (0,3)else some ((aa .i64 ((aa .i64 ((aa .i64 (t0+(aa .i64 (Naa t1 1000000))))-b))+a.1)),0)
def Sf(t0:GTable) (t1:Int) (t2:Int):(Int×Int×Int)->Option (Ex (Int×Int×Int) (Int×Int) (Int×Int)):=λ(b,c,d)=>if d<(t0.Rows.length:Int)then Aaa ((idx t0.Rows d).bind λa=>Aaa ((Lb a.w t1).bind λi=>if i=true then some (decide ((min a.Hi t2)<=(max a.Lo 0)))else some true) λf=>if f=true then some (Sum.inl (b,c))else(Ij (aa .i64 ((min a.Hi t2)-(max a.Lo 0))) a.N).bind λe=>if e.2.2=false then some (Sum.inr (Ex.ret (0,3)))else some (Sum.inl ((aa .i64 (b+e.1)),(aa .i64 (c+e.2.1))))) λz=>match z with |.inr v=>some v |.inl (g,h)=>some (Ex.go (g,h,(aa .i64 (d+1))))else some (Ex.brk (b,c))
def Hj(t0:GTable) (t1:Int) (t2:Int) (d:Int):Option (Int×Int):=Aaa (if¬d<0 then some (decide (5<d))else some true) λe=>if e=true then some (0,1)else Aaa (if t0.ab.a=3/\t0.ab.g=0 then some (!((t0.Value.a==4)&&(t0.Value.g==0)))else some true) λf=>if f=true then some (0,8)else Aaa (if¬t2<(-1000000000000000)then some (decide (1000000000000000<t2))else some true) λg=>if g=true then some (0,3)else(ca (Sf t0 t1 t2) (0,0,0)).bind λy=>match y with |.inr v=>some v |.inl (b,c)=>(rq b c d).bind λa=>some (a.1,a.2)
def ai(t0:Bool):Option GValue:=if t0=true then some (GValue.mk 1 0 1)else some (GValue.mk 1 0 0)
def Bv(t0:Int):Option Bool:=Aaa (if(Taa t0 4)=0 then if(Taa t0 100)=0 then some ((Taa t0 400)==0)else some true else some false) λa=>some a
def Gd(t0:Int) (t1:Int):Option Int:=Aaa (if¬t1<1 then some (decide (12<t1))else some true) λa=>if a=true then some 0 else Aaa (if t1=2 then(Bv t0).bind λc=>some c else some false) λb=>if b=true then some 29 else(idx mL (aa .i64 (t1-1))).bind λd=>some d
def Bp(t0:Int):Option Int:=some (aa .i64 ((aa .i64 ((aa .i64 (Naa t0 4))-(aa .i64 (Naa t0 100))))+(aa .i64 (Naa t0 400))))
def Ti(t0:Int):Option Int:=(Bp (aa .i64 (t0-1))).bind λa=>(Bp 1899).bind λb=>some (aa .i64 ((aa .i64 ((aa .i64 ((aa .i64 (t0-1900))*365))+a))-b))
def Cp(t0:Int):Option Bool:=Aaa (if 0<=t0 then some (decide (t0<=109572))else some false) λa=>some a
def Eo(t0:Int):Int->Option (Ex Int Int Unit):=λa=>(Ti (aa .i64 (a+1))).bind λb=>if b<=t0 then some (Ex.go (aa .i64 (a+1)))else some (Ex.brk a)
def Co(d:Int):(Int×Int)->Option (Ex (Int×Int) Unit (Int×Int×Int)):=λ(c,a)=>if a<12 then(Gd d (aa .i64 (a+1))).bind λb=>if c<b then some (Ex.ret (d,(aa .i64 (a+1)),(aa .i64 (c+1))))else some (Ex.go ((aa .i64 (c-b)),(aa .i64 (a+1))))else some (Ex.brk ())
def Fl(t0:Int):Option (Int×Int×Int):=(Cp t0).bind λb=>if b=false then some (0,0,0)else(ca (Eo t0) (aa .i64 (1900+(aa .i64 (Naa t0 366))))).bind λy=>match y with |.inr _=>none |.inl a=>(Ti a).bind λc=>(ca (Co a) ((aa .i64 (t0-c)),0)).bind λy=>match y with |.inr v=>some v |.inl _=>some (0,0,0)
def Xi(t0:Int) (t1:GValue):Option GValue:=if t0=10 then some (GValue.mk t1.a 0 (aa .i64 (-t1.N)))else if t0=25 then(ai (t1.N==0)).bind λb=>some b else(Fl t1.N).bind λa=>if t0=31 then some (GValue.mk 2 0 a.1)else some (GValue.mk 2 0 a.2.1)
def Ht(t0:Int) (t1:Int) (t2:Int) (h:Int):Option (Int×Int):=(fi h).bind λj=>if j=false then some (0,1)else if t2=0 then some (0,12)else Aaa ((Nf t0 1000000000000000).bind λk=>if k=false then(Nf t1 1000000000).bind λl=>if l=false then(Nf t2 1000000000).bind λm=>some m else some true else some true) λi=>if i=true then some (0,3)else(Je t0).bind λe=>(Je t1).bind λf=>(Ie e f).bind λa=>(Je t2).bind λb=>if b<=a.1 then some (0,3)else(ig a.1 a.2 b).bind λc=>if 1000000000000000<c.1 then some (0,3)else(lf c.1 c.2 b (!((!((decide (t0<0))==(decide (t1<0))))==(decide (t2<0)))) h).bind λd=>if 1000000000000000<d then some (0,3)else(Iq d (!((!((decide (t0<0))==(decide (t1<0))))==(decide (t2<0))))).bind λg=>some (g,0)
def ux(t0:Int) (t1:Int) (t2:Int):Option (Int×Int):=(Ht t0 t1 1000000 t2).bind λa=>some (a.1,a.2)
def Et(t0:Int) (t1:Int):Option (Int×Int):=(Ie (aa .u64 (max t0 (aa .i64 (-t0)))) (aa .u64 (max t1 (aa .i64 (-t1))))).bind λa=>Aaa (if a.1=0 then some (decide (1000000000000000<a.2))else some true) λb=>if b=true then some (0,3)else if¬(decide (t0<0))=(decide (t1<0))then some ((aa .i64 (-(aa .i64 a.2))),0)else some ((aa .i64 a.2),0)
def Em(t0:Int):Option Bool:=Aaa (if 0<=t0 then some (decide (t0<=5))else some false) λa=>some a
def Jk(t0:Int) (t1:Int):Option Bool:=Aaa (if¬t1<t0 then some (decide (t0<(aa .i64 (-t1))))else some true) λa=>some a
def YB(t0:Int) (t1:Int) (t2:Int):Option (Int×Int):=(Em t2).bind λd=>if d=false then some (0,1)else Aaa ((Jk t0 1000000000).bind λe=>if e=false then(Jk t1 1000000000).bind λf=>some f else some true) λc=>if c=true then some (0,3)else(Mf (aa .i64 (t0*t1)) 1000000 t2).bind λa=>if¬a.2=0 then some (0,a.2)else(Jk a.1 1000000000).bind λb=>if b=true then some (0,3)else some (a.1,0)
def tr(t0:Int) (t1:Int) (t2:Int):Option (Int×Int):=(fi t2).bind λd=>if d=false then some (0,1)else if t1<1 then some (0,12)else Aaa ((Nf t0 1000000000000000).bind λe=>if e=false then some (decide (1000000000000000<t1))else some true) λc=>if c=true then some (0,3)else(Mf t0 t1 t2).bind λa=>if¬a.2=0 then some (0,a.2)else(Nf (aa .i64 (a.1*t1)) 1000000000000000).bind λb=>if b=true then some (0,3)else some ((aa .i64 (a.1*t1)),0)
def vr(t0:Int) (t1:Int) (t2:Int) (b:Bool) (a:Int):Option Bool:=if t1=0 then some false else if a=0 then some b else if a=1 then some (!b)else if a=3 then some true else if a=4 then some (decide ((aa .u64 (t2-t1))<=t1))else if a=5 then Aaa (if¬(aa .u64 (t2-t1))<t1 then if t1=(aa .u64 (t2-t1))then some ((Taa t0 2)==1)else some false else some true) λc=>some c else some false
def Mp(t0:Int) (t1:Int) (t2:Int):Option (Int×Int):=(Em t2).bind λg=>if g=false then some (0,1)else if t1=0 then some (0,12)else Aaa ((Jk t0 1000000000000000).bind λh=>if h=false then(Jk t1 1000000000000000).bind λi=>some i else some true) λf=>if f=true then some (0,3)else(Ie (aa .u64 (max t0 (aa .i64 (-t0)))) 1000000).bind λe=>if(aa .u64 (max t1 (aa .i64 (-t1))))<=e.1 then some (0,3)else(ig e.1 e.2 (aa .u64 (max t1 (aa .i64 (-t1))))).bind λa=>if 1000000000<a.1 then some (0,3)else Aaa ((vr a.1 a.2 (aa .u64 (max t1 (aa .i64 (-t1)))) (!((decide (t0<0))==(decide (t1<0)))) t2).bind λd=>if d=true then some (aa .i64 ((aa .i64 a.1)+1))else some (aa .i64 a.1)) λb=>if 1000000000<b then some (0,3)else Aaa (if¬(decide (t0<0))=(decide (t1<0))then some (aa .i64 (-b))else some b) λc=>some (c,0)
def Gb(t0:GNode) (t1:GValue) (t2:GValue):Option (GValue×Int):=Aaa (if t0.Op=13 then(Et t1.N t2.N).bind λg=>some (t1.a,g.1,g.2)else Aaa (if t0.Op=14 then some (t1.a==3)else some false) λj=>if j=true then(ux t1.N t2.N t0.N).bind λh=>some (t1.a,h.1,h.2)else if t0.Op=14 then(YB t1.N t2.N t0.N).bind λi=>some (t1.a,i.1,i.2)else if t0.Op=16 then(tr t1.N t2.N t0.N).bind λa=>some (t1.a,a.1,a.2)else if t2.a=2 then(Mf t1.N t2.N t0.N).bind λb=>some (t1.a,b.1,b.2)else(Mp t1.N t2.N t0.N).bind λc=>some (4,c.1,c.2)) λ(d,e,f)=>some ((GValue.mk d 0 e),f)
def vd(t0:Int) (t1:Int):(Int×Int)->Option (Ex (Int×Int) Int Unit):=λ(b,a)=>if a<(aa .i64 (t1-1))then (Gd t0 (aa .i64 (a+1))).bind λc=>some (Ex.go ((aa .i64 (b+c)),(aa .i64 (a+1))))else some (Ex.brk b)
def lk(t0:Int) (t1:Int) (t2:Int):Option (Int×Int):=Aaa (if¬t0<1900 then if¬2199<t0 then if¬t1<1 then if¬12<t1 then if¬t2<1 then(Gd t0 t1).bind λc=>some (decide (c<t2))else some true else some true else some true else some true else some true) λb=>if b=true then some (0,3)else(Ti t0).bind λd=>(ca (vd t0 t1) (d,0)).bind λy=>match y with |.inr _=>none |.inl a=>some ((aa .i64 ((aa .i64 (a+t2))-1)),0)
def Be(t0:Int) (t1:Int):Option (Int×Int):=Aaa ((Cp t0).bind λf=>if f=true then if¬t1<(-3600)then some (decide (3600<t1))else some true else some true) λd=>if d=true then some (0,3)else(Fl t0).bind λa=>Aaa (if¬(aa .i64 ((aa .i64 ((aa .i64 ((aa .i64 ((aa .i64 (a.1-1900))*12))+a.2.1))-1))+t1))<0 then some (decide (3599<(aa .i64 ((aa .i64 ((aa .i64 ((aa .i64 ((aa .i64 (a.1-1900))*12))+a.2.1))-1))+t1))))else some true) λe=>if e=true then some (0,3)else(Gd (aa .i64 (1900+(aa .i64 (Naa (aa .i64 ((aa .i64 ((aa .i64 ((aa .i64 ((aa .i64 (a.1-1900))*12))+a.2.1))-1))+t1)) 12)))) (aa .i64 ((Taa (aa .i64 ((aa .i64 ((aa .i64 ((aa .i64 ((aa .i64 (a.1-1900))*12))+a.2.1))-1))+t1)) 12)+1))).bind λc=>(lk (aa .i64 (1900+(aa .i64 (Naa (aa .i64 ((aa .i64 ((aa .i64 ((aa .i64 ((aa .i64 (a.1-1900))*12))+a.2.1))-1))+t1)) 12)))) (aa .i64 ((Taa (aa .i64 ((aa .i64 ((aa .i64 ((aa .i64 ((aa .i64 (a.1-1900))*12))+a.2.1))-1))+t1)) 12)+1)) (min a.2.2 c)).bind λb=>some (b.1,b.2)
def Df(t0:Int) (t1:Int):Option Int:=Aaa ((Cp t0).bind λg=>if g=true then(Cp t1).bind λh=>if h=true then some (decide (t1<t0))else some true else some true) λf=>if f=true then some 0 else(Fl t0).bind λc=>(Fl t1).bind λd=>Aaa ((Be t0 (aa .i64 (12*(aa .i64 (d.1-c.1))))).bind λe=>Aaa (if e.2=0 then some (decide (t1<e.1))else some true) λa=>if a=true then some (aa .i64 ((aa .i64 (d.1-c.1))-1))else some (aa .i64 (d.1-c.1))) λb=>some (max b 0)
def Ja(t0:GNode) (t1:GValue) (t2:GValue):Option (GValue×Int):=Aaa (if t0.Op=11 then some true else some (t0.Op==27)) λs=>if s=true then some ((GValue.mk t1.a 0 (aa .i64 (t1.N+t2.N))),0)else if t0.Op=12 then some ((GValue.mk t1.a 0 (aa .i64 (t1.N-t2.N))),0)else Aaa (if t0.Op=13 then some true else if t0.Op=14 then some true else if t0.Op=15 then some true else some (t0.Op==16)) λt=>if t=true then(Gb t0 t1 t2).bind λe=>some (e.1,e.2)else Aaa (if t0.Op=17 then some true else some (t0.Op==18)) λg=>if g=true then if(t0.Op==17)=(decide (t2.N<t1.N))then some (t2,0)else some (t1,0)else if t0.Op=19 then(ai (t1.N==t2.N)).bind λn=>some (n,0)else if t0.Op=20 then(ai (t1.N !=t2.N)).bind λo=>some (o,0)else if t0.Op=21 then(ai (decide (t1.N<t2.N))).bind λp=>some (p,0)else if t0.Op=22 then(ai (decide (t1.N<=t2.N))).bind λq=>some (q,0)else if t0.Op=23 then Aaa (if t1.N=1 then(ai (t2.N==1)).bind λa=>some (a.a,a.g,a.N)else(ai false).bind λb=>some (b.a,b.g,b.N)) λ(h,i,j)=>some ((GValue.mk h i j),0)else if t0.Op=24 then Aaa (if¬t1.N=1 then(ai (t2.N==1)).bind λc=>some (c.a,c.g,c.N)else(ai true).bind λd=>some (d.a,d.g,d.N)) λ(k,l,m)=>some ((GValue.mk k l m),0)else if t0.Op=28 then(Be t1.N t2.N).bind λf=>some ((GValue.mk 5 0 f.1),f.2)else if t0.Op=29 then some ((GValue.mk 2 0 (aa .i64 (t2.N-t1.N))),0)else(Df t1.N t2.N).bind λr=>some ((GValue.mk 2 0 r),0)
def pa(t0:GNode) (t1:List GValue) (t2:GEnv):Option (GValue×Int):=Aaa (if t0.Op=1 then some true else if t0.Op=2 then some true else if t0.Op=3 then some true else if t0.Op=4 then some true else some (t0.Op==5)) λs=>if s=true then some ((GValue.mk t0.Op 0 t0.N),0)else if t0.Op=6 then some ((GValue.mk 6 (aa .i64 (Naa t0.N 16)) (Taa t0.N 16)),0)else if t0.Op=7 then(idx t2.u t0.N).bind λt=>some (t,0)else if t0.Op=8 then(idx t2.d t0.N).bind λg=>some (g,0)else if t0.Op=9 then some ((GValue.mk 5 0 t2.ae),0)else if t0.Op=35 then some ((GValue.mk 2 0 (t2.r.length:Int)),0)else Aaa (if t0.Op=36 then some true else if t0.Op=37 then some true else if t0.Op=38 then some true else some (t0.Op==39)) λf=>if f=true then(af t0 t2).bind λb=>some (b.1,b.2)else if t0.Op=33 then(idx t2.Tables t0.N).bind λa=>(idx t1 0).bind λh=>(ku a t2.ae h.N).bind λc=>if c.2=false then some ((GValue.mk 0 0 0),6)else(idx a.Rows c.1).bind λi=>some ((GValue.mk a.Value.a a.Value.g i.N),0)else if t0.Op=34 then(idx t2.Tables (aa .i64 (Naa t0.N 8))).bind λj=>(idx t1 0).bind λk=>(Hj j t2.ae k.N (Taa t0.N 8)).bind λd=>some ((GValue.mk 3 0 d.1),d.2)else if(t1.length:Int)=1 then(idx t1 0).bind λl=>(Xi t0.Op l).bind λm=>some (m,0)else if(t1.length:Int)=2 then(idx t1 0).bind λn=>(idx t1 1).bind λo=>(Ja t0 n o).bind λe=>some (e.1,e.2)else(idx t1 0).bind λp=>if p.N=1 then(idx t1 1).bind λq=>some (q,0)else(idx t1 2).bind λr=>some (r,0)
def Ff(t0:GNode) (t1:List GValue) (t2:GEnv):Option (GValue×Int):=Aaa ((Un t0).bind λf=>if f=true then(Hl t0.Op).bind λg=>some ((t1.length:Int) !=g)else some true) λe=>if e=true then some ((GValue.mk 0 0 0),2)else(Dv t0 t2).bind λh=>if h=false then some ((GValue.mk 0 0 0),6)else Aaa ((Gf t1).bind λi=>if i=true then(ea t0 t1 t2).bind λc=>some (!c)else some true) λb=>if b=true then some ((GValue.mk 0 0 0),8)else(pa t0 t1 t2).bind λa=>if¬a.2=0 then some ((GValue.mk 0 0 0),a.2)else(Fb a.1).bind λd=>if d=false then some ((GValue.mk 0 0 0),3)else some (a.1,0)
def Za(t0:GEval_evaluator) (g:List Int) (c:(GEval_evaluator->Int->Option (GValue×Int))):((List GValue)×Int)->Option (Ex ((List GValue)×Int) (List GValue) (GValue×Int)):=λ(d,a)=>if a<(g.length:Int)then (idx g a).bind λe=>(c t0 e).bind λb=>if¬b.2=0 then some (Ex.ret ((GValue.mk 0 0 0),b.2))else(idx d a).bind λx15=>(put d a b.1).bind λf=>some (Ex.go (f,(aa .i64 (a+1))))else some (Ex.brk d)
def Ua(a:(GEval_evaluator->Int->Option (GValue×Int))) (b:(GEval_evaluator->GNode->(List Int)->Option (GValue×Int))) (R512:(GEval_evaluator->Int->Option (GValue×Int))) (t0:GEval_evaluator) (t1:Int):Option (GValue×Int):=(idx t0.nodes t1).bind λc=>(Ze t0 t1).bind λe=>Aaa (if c.Op=23 then some true else if c.Op=24 then some true else some (c.Op==26)) λh=>if h=true then(b t0 c e).bind λg=>some (g.1,g.2)else(UB 24 (GValue.mk 0 0 0) (e.length:Int) (e.length:Int)).bind λi=>(ca (Za t0 e a) (i,0)).bind λy=>match y with |.inr v=>some v |.inl f=>(Ff c f t0.env).bind λd=>some (d.1,d.2)
def Sc(a:(GEval_evaluator->Int->Option (GValue×Int))) (R455:(GEval_evaluator->GNode->(List Int)->Option (GValue×Int))) (b:(GEval_evaluator->Int->Option (GValue×Int))) (t0:GEval_evaluator) (t1:GNode) (t2:List Int):Option (GValue×Int):=if¬t1.N=0 then some ((GValue.mk 0 0 0),2)else(idx t2 0).bind λj=>(b t0 j).bind λe=>if¬e.2=0 then some ((GValue.mk 0 0 0),e.2)else Aaa (if t1.Op=26 then some (e.1.N==1)else some false) λi=>if i=true then(idx t2 1).bind λk=>(a t0 k).bind λh=>some (h.1,h.2)else if t1.Op=26 then(idx t2 2).bind λf=>(a t0 f).bind λc=>some (c.1,c.2)else if(t1.Op==23)=(e.1.N==0)then some (e.1,0)else(idx t2 1).bind λg=>(b t0 g).bind λd=>some (d.1,d.2)
def Mb(a:(GEval_evaluator->Int->Option (GValue×Int))) (R455:(GEval_evaluator->GNode->(List Int)->Option (GValue×Int))) (R512:(GEval_evaluator->Int->Option (GValue×Int))) (t0:GEval_evaluator) (t1:Int):Option (GValue×Int):=(a t0 t1).bind λb=>if¬b.2=0 then some ((GValue.mk 0 0 0),b.2)else Aaa (if b.1.a=1 then(Fb b.1).bind λd=>some (!d)else some true) λc=>if c=true then some ((GValue.mk 0 0 0),8)else some (b.1,0)
def ba:Nat->(GEval_evaluator->Int->Option (GValue×Int))×(GEval_evaluator->GNode->(List Int)->Option (GValue×Int))×(GEval_evaluator->Int->Option (GValue×Int)) |0=>(λ_ _=>none,λ_ _ _=>none,λ_ _=>none) |n+1=>(Ua (ba n).1 (ba n).2.1 (ba n).2.2,Sc (ba n).1 (ba n).2.1 (ba n).2.2,Mb (ba n).1 (ba n).2.1 (ba n).2.2)
def ti(t0:GEval_evaluator) (t1:Int):Option (GValue×Int):=(ba tf).1 t0 t1
def Bw(t0:GEval_evaluator) (t1:GNode) (t2:List Int):Option (GValue×Int):=(ba tf).2.1 t0 t1 t2
def Ct(t0:GEval_evaluator) (t1:Int):Option (GValue×Int):=(ba tf).2.2 t0 t1
def Wj(t0:List GNode) (t1:GEnv):Option (GValue×Int):=(Ks t0).bind λa=>if¬a.2=0 then some ((GValue.mk 0 0 0),a.2)else(ti (GEval_evaluator.mk t0 a.1 t1) (aa .i64 ((t0.length:Int)-1))).bind λb=>some (b.1,b.2)
def Hh(t0:List Int) (t1:List Int):Int->Option (Ex Int Unit Int):=λa=>if a<(t0.length:Int)then (idx t0 a).bind λc=>Aaa (if¬c<(-1)then some (decide (a<=c))else some true) λe=>if e=true then some (Ex.ret 9)else Aaa ((idx t1 a).bind λd=>if¬d<0 then some (decide (9<d))else some true) λb=>if b=true then some (Ex.ret 3)else some (Ex.go (aa .i64 (a+1)))else some (Ex.brk ())
def xl(t0:List Int) (t1:List Int):Option Int:=if¬(t0.length:Int)=(t1.length:Int)then some 2 else if 8<(t0.length:Int)then some 4 else(ca (Hh t0 t1) 0).bind λy=>match y with |.inr v=>some v |.inl _=>some 0
def Fh(t0:List Int) (t1:Int):((List Int)×Int)->Option (Ex ((List Int)×Int) (List Int) Unit):=λ(s1,s2)=>if s2<(t0.length:Int)then Aaa ((idx t0 s2).bind λb=>if b=t1 then(app 8 s1 ([s2])).bind λc=>some c else some s1) λa=>some (Ex.go (a,(aa .i64 (s2+1))))else some (Ex.brk s1)
def ql(t0:List Int) (t1:Int):Option (List Int):=(ca (Fh t0 t1) (([]:List Int),0)).bind λy=>match y with |.inr _=>none |.inl a=>some a
def Rj(t0:GRuletree_tree) (n:List Int):((List Int)×Int)->Option (Ex ((List Int)×Int) (List Int) Unit):=λ(s2,f)=>if f<(n.length:Int)then Aaa ((idx n f).bind λb=>(idx t0.outcome b).bind λo=>if o=(-1)then some s2 else Aaa (Aaa (if 0<(s2.length:Int)then (idx t0.priority b).bind λp=>(idx s2 0).bind λg=>(idx t0.priority g).bind λh=>some (decide (h<p))else some false) λc=>if c=true then(ju s2 0).bind λi=>some i else some s2) λa=>Aaa (if¬(a.length:Int)=0 then(idx t0.priority b).bind λj=>(idx a 0).bind λk=>(idx t0.priority k).bind λl=>some (j==l)else some true) λd=>if d=true then(app 8 a ([b])).bind λm=>some m else some a) λe=>some (Ex.go (e,(aa .i64 (f+1))))else some (Ex.brk s2)
def Ln(t0:GRuletree_tree) (t1:Int):Option (List Int):=(ql t0.parent t1).bind λb=>(ca (Rj t0 b) (([]:List Int),0)).bind λy=>match y with |.inr _=>none |.inl a=>some a
def Ob(t0:GRuletree_tree) (t1:Int):Option Int:=(Ln t0 t1).bind λa=>if(a.length:Int)=0 then some (-1)else if(a.length:Int)=1 then(idx a 0).bind λb=>(idx t0.outcome b).bind λc=>some c else some (-2)
def Ih(t0:List Int) (t1:List Int) (t2:List Bool):((List Int)×Int)->Option (Ex ((List Int)×Int) (List Int) Unit):=λ(s2,a)=>if 0<=a then Aaa ((Ob (GRuletree_tree.mk t0 t1 s2) a).bind λg=>(idx s2 a).bind λx6=>(put s2 a g).bind λb=>Aaa ((idx b a).bind λh=>if h=(-1)then (idx t2 a).bind λe=>some e else some false) λc=>if c=true then(idx b a).bind λx13=>(put b a a).bind λf=>some f else some b) λd=>some (Ex.go (d,(aa .i64 (a-1))))else some (Ex.brk s2)
def Al(t0:List Int) (t1:List Int) (t2:List Bool):Option (List Int):=(UB 8 0 (t0.length:Int) (t0.length:Int)).bind λb=>(ca (Ih t0 t1 t2) (b,(aa .i64 ((t0.length:Int)-1)))).bind λy=>match y with |.inr _=>none |.inl a=>some a
def Ao(t0:List Int) (t1:List Int) (t2:List Bool):Option Int:=Aaa ((xl t0 t1).bind λb=>if b=0 then some ((t2.length:Int) !=(t0.length:Int))else some true) λa=>if a=true then some (-1)else(Al t0 t1 t2).bind λc=>(Ob (GRuletree_tree.mk t0 t1 c) (-1)).bind λd=>some d
def Rv(t0:Int):Option Bool:=Aaa (if 97<=t0 then some (decide (t0<=122))else some false) λa=>some a
def By(t0:Int):Option Bool:=Aaa (if 48<=t0 then some (decide (t0<=57))else some false) λa=>some a
def wx(t0:Int):Option Bool:=Aaa ((Rv t0).bind λb=>if b=false then(By t0).bind λc=>if c=false then some (t0==95)else some true else some true) λa=>some a
def vh  : Option (List ByteArray):=some ([(Gaa #[105,102]),(Gaa #[116,104,101,110]),(Gaa #[101,108,115,101]),(Gaa #[111,114]),(Gaa #[97,110,100]),(Gaa #[110,111,116]),(Gaa #[116,114,117,101]),(Gaa #[102,97,108,115,101]),(Gaa #[116,111,100,97,121]),(Gaa #[115,104,97,114,101]),(Gaa #[100,105,118]),(Gaa #[114,111,117,110,100]),(Gaa #[109,105,110]),(Gaa #[109,97,120]),(Gaa #[112,108,117,115]),(Gaa #[109,111,110,116,104,115]),(Gaa #[100,97,121,115]),(Gaa #[121,101,97,114,115]),(Gaa #[121,101,97,114]),(Gaa #[109,111,110,116,104]),(Gaa #[116,97,98]),(Gaa #[98,97,110,100]),(Gaa #[99,111,117,110,116]),(Gaa #[115,117,109]),(Gaa #[97,108,108]),(Gaa #[97,110,121]),(Gaa #[109,111,115,116]),(Gaa #[101,110,117,109]),(Gaa #[116,97,98,108,101]),(Gaa #[114,111,119]),(Gaa #[115,99,111,112,101]),(Gaa #[109,101,109,98,101,114,115]),(Gaa #[105,110,112,117,116]),(Gaa #[100,101,102]),(Gaa #[114,117,108,101]),(Gaa #[111,102]),(Gaa #[111,118,101,114]),(Gaa #[112,114,105,111]),(Gaa #[102,114,111,109]),(Gaa #[116,111]),(Gaa #[101,110,100]),(Gaa #[119,104,101,110]),(Gaa #[105,115]),(Gaa #[115,114,99]),(Gaa #[98,111,111,108]),(Gaa #[105,110,116]),(Gaa #[109,111,110,101,121]),(Gaa #[114,97,116,101]),(Gaa #[100,97,116,101]),(Gaa #[100,111,119,110]),(Gaa #[117,112]),(Gaa #[122,101,114,111]),(Gaa #[97,119,97,121]),(Gaa #[104,97,108,102]),(Gaa #[101,118,101,110])])
def Bg(t0:ByteArray):Int->Option (Ex Int Unit Bool):=λa=>if a<(t0.size:Int)then (Jx t0 a).bind λc=>(wx c).bind λb=>if b=false then some (Ex.ret false)else some (Ex.go (aa .i64 (a+1)))else some (Ex.brk ())
def Ag(t0:ByteArray) (b:List ByteArray):Int->Option (Ex Int Unit Bool):=λa=>if a<(b.length:Int)then (idx b a).bind λc=>if c=t0 then some (Ex.ret false)else some (Ex.go (aa .i64 (a+1)))else some (Ex.brk ())
def yb(t0:ByteArray):Option Bool:=Aaa (if¬(t0.size:Int)=0 then if¬16<(t0.size:Int)then (Jx t0 0).bind λc=>(Rv c).bind λd=>some (!d)else some true else some true) λb=>if b=true then some false else(ca (Bg t0) 0).bind λy=>match y with |.inr v=>some v |.inl _=>(vh).bind λa=>(ca (Ag t0 a) 0).bind λy=>match y with |.inr v=>some v |.inl _=>some true
def zc(t0:GLaw) (t1:Int) (t2:Int) (a:ByteArray):Int->Option (Ex Int Unit Bool):=λs1=>if s1<(t0.q.length:Int)then Aaa (if¬1<t1 then if s1<t2 then(idx t0.q s1).bind λc=>some (decide (c.j=a))else some false else(idx t0.q s1).bind λd=>some (decide (d.j=a))) λb=>if b=true then some (Ex.ret true)else some (Ex.go (aa .i64 (s1+1)))else some (Ex.brk ())
def lb(t0:GLaw) (t1:Int) (t2:Int) (e:ByteArray):Int->Option (Ex Int Unit Bool):=λa=>if a<(t0.Tables.length:Int)then Aaa (if¬2<t1 then if t1=2 then if a<t2 then(idx t0.Tables a).bind λc=>some (decide (c.j=e))else some false else some false else(idx t0.Tables a).bind λd=>some (decide (d.j=e))) λb=>if b=true then some (Ex.ret true)else some (Ex.go (aa .i64 (a+1)))else some (Ex.brk ())
def Ab(t0:GLaw) (t1:Int) (t2:Int) (d:ByteArray):Int->Option (Ex Int Unit Bool):=λa=>if a<(t0.e.length:Int)then Aaa (if t1=3 then if a<t2 then(idx t0.e a).bind λc=>some (decide (c.j=d))else some false else some false) λb=>if b=true then some (Ex.ret true)else some (Ex.go (aa .i64 (a+1)))else some (Ex.brk ())
def Ic(t0:GLaw) (t1:Int) (t2:Int) (a:ByteArray):Option Bool:=(ca (zc t0 t1 t2 a) 0).bind λy=>match y with |.inr v=>some v |.inl _=>(ca (lb t0 t1 t2 a) 0).bind λy=>match y with |.inr v=>some v |.inl _=>(ca (Ab t0 t1 t2 a) 0).bind λy=>match y with |.inr v=>some v |.inl _=>some false
def rj(t1:Int) (e:GEnum) (d:Int) (b:ByteArray):Int->Option (Ex Int Unit (Ex (Int×Int) Unit GLawError)):=λa=>if a<d then(idx e.r a).bind λc=>if c=b then some (Ex.ret (Ex.ret (GLawError.mk 7 1 t1 (aa .i64 (100+d)))))else some (Ex.go (aa .i64 (a+1)))else some (Ex.brk ())
def sj(t1:Int) (c:GEnum):(Int×Int)->Option (Ex (Int×Int) Unit GLawError):=λ(s8,a)=>if a<(c.r.length:Int)then (idx c.r a).bind λb=>(yb b).bind λd=>if d=false then some (Ex.ret (GLawError.mk 2 1 t1 (aa .i64 (100+a))))else(ca (rj t1 c a b) 0).bind λy=>match y with |.inr v=>some v |.inl _=>some (Ex.go ((aa .i64 (100+a)),(aa .i64 (a+1))))else some (Ex.brk ())
def qo(t0:GLaw) (t1:Int):Option GLawError:=(idx t0.q t1).bind λa=>(yb a.j).bind λb=>if b=false then some (GLawError.mk 2 1 t1 0)else(Ic t0 1 t1 a.j).bind λc=>if c=true then some (GLawError.mk 7 1 t1 0)else if(a.r.length:Int)=0 then some (GLawError.mk 5 1 t1 0)else if 16<(a.r.length:Int)then some (GLawError.mk 4 1 t1 116)else(ca (sj t1 a) (0,0)).bind λy=>match y with |.inr v=>some v |.inl _=>some (GLawError.mk 0 0 0 0)
def Xb(t0:GType) (t1:List GEnum):Option Bool:=if t0.a=6 then Aaa (if 0<=t0.g then some (decide (t0.g<(t1.length:Int)))else some false) λa=>some a else Aaa (if 1<=t0.a then if t0.a<=5 then some (t0.g==0)else some false else some false) λb=>some b
def nf(t0:GDateRange):Option Bool:=Aaa (if 0<=t0.n then if t0.n<=t0.To then some (decide (t0.To<=109573))else some false else some false) λa=>some a
def yn(t0:GType) (t1:List GEnum):Option (Int×Int):=(Xb t0 t1).bind λa=>if a=false then some (0,(-1))else if t0.a=1 then some (0,1)else if t0.a=2 then some ((-1000000000000),1000000000000)else if t0.a=3 then some ((-1000000000000000),1000000000000000)else if t0.a=4 then some ((-1000000000),1000000000)else if t0.a=5 then some (0,109572)else(idx t1 t0.g).bind λb=>some (0,(aa .i64 ((b.r.length:Int)-1)))
def Nt(t0:Int) (t1:GType) (t2:List GEnum):Option Bool:=(yn t1 t2).bind λa=>Aaa (if a.1<=t0 then some (decide (t0<=a.2))else some false) λb=>some b
def Sv(t0:GRow) (t1:GTable) (t2:List GEnum):Option Bool:=Aaa ((nf t0.w).bind λd=>if d=true then if¬t0.w.n=t0.w.To then some (decide (t0.Hi<=t0.Lo))else some true else some true) λc=>if c=true then some true else Aaa ((Nt t0.Lo t1.ab t2).bind λe=>if e=true then(Nt (aa .i64 (t0.Hi-1)) t1.ab t2).bind λf=>if f=true then(Nt t0.N t1.Value t2).bind λb=>some (!b)else some true else some true) λa=>some a
def Qr(t0:GDateRange) (t1:GDateRange):Option (GDateRange×Bool):=Aaa ((nf t0).bind λb=>if b=true then(nf t1).bind λc=>some (!c)else some true) λa=>if a=true then some ((GDateRange.mk 0 0),false)else if(min t0.To t1.To)<=(max t0.n t1.n)then some ((GDateRange.mk 0 0),false)else some ((GDateRange.mk (max t0.n t1.n) (min t0.To t1.To)),true)
def Vp(t0:GRow) (t1:GRow):Option Bool:=(Qr t0.w t1.w).bind λb=>Aaa (if b.2=true then some (decide ((max t0.Lo t1.Lo)<(min t0.Hi t1.Hi)))else some false) λa=>some a
def Mk(t0:GTable) (d:Int) (e:GRow):Int->Option (Ex Int Unit (Ex Int Unit (Int×Int))):=λa=>if a<d then(idx t0.Rows a).bind λb=>(Vp b e).bind λc=>if c=true then some (Ex.ret (Ex.ret (d,11)))else some (Ex.go (aa .i64 (a+1)))else some (Ex.brk ())
def Nk(t0:GTable) (t1:List GEnum):Int->Option (Ex Int Unit (Int×Int)):=λa=>if a<(t0.Rows.length:Int)then (idx t0.Rows a).bind λc=>(Sv c t0 t1).bind λb=>if b=true then some (Ex.ret (a,3))else(ca (Mk t0 a c) 0).bind λy=>match y with |.inr v=>some v |.inl _=>some (Ex.go (aa .i64 (a+1)))else some (Ex.brk ())
def Up(t0:GTable) (t1:List GEnum):Option (Int×Int):=if 64<(t0.Rows.length:Int)then some (64,4)else Aaa ((Xb t0.ab t1).bind λb=>if b=true then(Xb t0.Value t1).bind λc=>some (!c)else some true) λa=>if a=true then some ((-1),8)else(ca (Nk t0 t1) 0).bind λy=>match y with |.inr v=>some v |.inl _=>some (0,0)
def Wm(t0:GLaw) (t1:Int):Option GLawError:=(idx t0.Tables t1).bind λb=>(yb b.j).bind λd=>if d=false then some (GLawError.mk 2 2 t1 0)else(Ic t0 2 t1 b.j).bind λe=>if e=true then some (GLawError.mk 7 2 t1 0)else(Up b t0.q).bind λa=>if a.2=0 then some (GLawError.mk 0 0 0 0)else Aaa (if 0<=a.1 then some (aa .i64 (100+a.1))else some 0) λc=>some (GLawError.mk a.2 2 t1 c)
def Xk(t0:List GField) (t1:Int) (t2:ByteArray):Int->Option (Ex Int Unit Bool):=λs1=>Aaa (if s1<t1 then some (decide (s1<(t0.length:Int)))else some false) λa=>if a=true then(idx t0 s1).bind λb=>if b.j=t2 then some (Ex.ret true)else some (Ex.go (aa .i64 (s1+1)))else some (Ex.brk ())
def uj(t0:List GField) (t1:Int) (t2:ByteArray):Option Bool:=(ca (Xk t0 t1 t2) 0).bind λy=>match y with |.inr v=>some v |.inl _=>some false
def Di(t0:GLaw) (t1:Int) (b:GScope):Int->Option (Ex Int Unit GLawError):=λs2=>if s2<(b.u.length:Int)then Aaa ((idx b.u s2).bind λc=>(yb c.j).bind λd=>if d=false then some 2 else(uj b.u s2 c.j).bind λe=>if e=true then some 7 else(Xb c.ai t0.q).bind λf=>if f=false then some 8 else some 0) λa=>if¬a=0 then some (Ex.ret (GLawError.mk a 3 t1 (aa .i64 (100+s2))))else some (Ex.go (aa .i64 (s2+1)))else some (Ex.brk ())
def Ai(t0:GLaw) (t1:Int) (d:GScope):Int->Option (Ex Int Unit GLawError):=λa=>if a<(d.d.length:Int)then Aaa ((idx d.d a).bind λb=>(yb b.j).bind λf=>if f=false then some 2 else Aaa ((uj d.u (d.u.length:Int) b.j).bind λg=>if g=false then(uj d.d a b.j).bind λh=>some h else some true) λe=>if e=true then some 7 else(Xb b.ai t0.q).bind λi=>if i=false then some 8 else some 0) λc=>if¬c=0 then some (Ex.ret (GLawError.mk c 3 t1 (aa .i64 (200+a))))else some (Ex.go (aa .i64 (a+1)))else some (Ex.brk ())
def Rm(t0:GLaw) (t1:Int):Option GLawError:=(idx t0.e t1).bind λa=>(ca (Di t0 t1 a) 0).bind λy=>match y with |.inr v=>some v |.inl _=>(ca (Ai t0 t1 a) 0).bind λy=>match y with |.inr v=>some v |.inl _=>some (GLawError.mk 0 0 0 0)
def Gw(t0:List GField):((List GType)×Int)->Option (Ex ((List GType)×Int) (List GType) Unit):=λ(s1,s2)=>if s2<(t0.length:Int)then (idx t0 s2).bind λa=>(app 16 s1 ([a.ai])).bind λb=>some (Ex.go (b,(aa .i64 (s2+1))))else some (Ex.brk s1)
def Um(t0:List GField):Option (List GType):=(ca (Gw t0) (([]:List GType),0)).bind λy=>match y with |.inr _=>none |.inl a=>some a
def oo(t0:GLaw) (t1:Int):Option GSignature:=Aaa (if¬t1<0 then some (decide ((t0.e.length:Int)<=t1))else some true) λf=>if f=true then some (GSignature.mk ([]) ([]) ([]) ([]) ([]) false)else(idx t0.e t1).bind λa=>(Um a.u).bind λh=>(Um a.d).bind λi=>Aaa (Aaa (if 0<=a.z then some (decide (a.z<(t0.e.length:Int)))else some false) λg=>if g=true then(idx t0.e a.z).bind λd=>(Um d.d).bind λe=>some (e,true)else some (([]:List GType),false)) λ(b,c)=>some (GSignature.mk t0.q t0.Tables h i b c)
def vj(t0:ByteArray):Int->Option (Ex Int Unit Bool):=λs1=>if s1<(t0.size:Int)then Aaa ((Jx t0 s1).bind λa=>if¬a<32 then if¬126<a then some (a==34)else some true else some true) λb=>if b=true then some (Ex.ret false)else some (Ex.go (aa .i64 (s1+1)))else some (Ex.brk ())
def so(t0:ByteArray):Option Bool:=(ca (vj t0) 0).bind λy=>match y with |.inr v=>some v |.inl _=>some (decide ((t0.size:Int)<=64))
def kn(t0:Int):Option Int:=Aaa (if 1<=t0 then if¬t0<=9 then if 35<=t0 then some (decide (t0<=39))else some false else some true else if 35<=t0 then some (decide (t0<=39))else some false) λc=>if c=true then some 0 else Aaa (if t0=10 then some true else if t0=25 then some true else if t0=31 then some true else if t0=32 then some true else if t0=33 then some true else some (t0==34)) λa=>if a=true then some 1 else if t0=26 then some 3 else Aaa (if 11<=t0 then some (decide (t0<=30))else some false) λb=>if b=true then some 2 else some (-1)
def nj(t0:List GNode):((List Int)×(List Int)×Int)->Option (Ex ((List Int)×(List Int)×Int) ((List Int)×(List Int)) ((List Int)×Int×Int)):=λ(j,a,b)=>if b<(t0.length:Int)then (idx t0 b).bind λk=>(kn k.Op).bind λe=>if e<0 then some (Ex.ret ([],b,2))else if(a.length:Int)<e then some (Ex.ret ([],b,5))else Aaa (if 0<e then(idx a (aa .i64 ((a.length:Int)-e))).bind λg=>(ju a (aa .i64 ((a.length:Int)-e))).bind λh=>some (h,g)else some (a,b)) λ(f,c)=>(app 8 f ([c])).bind λd=>(app 8 j ([c])).bind λi=>if 12<(d.length:Int)then some (Ex.ret ([],b,16))else some (Ex.go (i,d,(aa .i64 (b+1))))else some (Ex.brk (j,a))
def ji(t0:List GNode):Option ((List Int)×Int×Int):=if 48<(t0.length:Int)then some ([],0,4)else if(t0.length:Int)=0 then some ([],0,5)else(ca (nj t0) (([]:List Int),([]:List Int),0)).bind λy=>match y with |.inr v=>some v |.inl (a,b)=>if 1<(b.length:Int)then some ([],(t0.length:Int),4)else some (a,0,0)
def Jo(t0:Int):Option Bool:=Aaa (if 1<=t0 then if¬t0<=8 then if 36<=t0 then some (decide (t0<=39))else some false else some true else if 36<=t0 then some (decide (t0<=39))else some false) λb=>if b=true then some true else Aaa (if¬t0=14 then if¬t0=15 then if¬t0=16 then if¬t0=33 then some (t0==34)else some true else some true else some true else some true) λa=>some a
def zb(t0:Int):Option GType:=some (GType.mk t0 0)
def gb(t0:GNode) (t1:GSignature):Option Bool:=Aaa (if t0.Op=1 then some true else if t0.Op=2 then some true else if t0.Op=3 then some true else if t0.Op=4 then some true else some (t0.Op==5)) λf=>if f=true then(zb t0.Op).bind λg=>(yn g t1.q).bind λe=>Aaa (if e.1<=t0.N then some (decide (t0.N<=e.2))else some false) λa=>some a else Aaa (if t0.Op=14 then some true else if t0.Op=15 then some true else some (t0.Op==16)) λb=>if b=true then Aaa (if 0<=t0.N then some (decide (t0.N<=5))else some false) λc=>some c else if t0.Op=34 then Aaa (if 0<=t0.N then some (decide ((Taa t0.N 8)<=5))else some false) λd=>some d else if t0.Op=6 then some (decide (0<=t0.N))else some true
def pc(t0:GNode) (t1:GSignature):Option Bool:=if t0.Op=6 then Aaa (if(aa .i64 (Naa t0.N 16))<(t1.q.length:Int)then (idx t1.q (aa .i64 (Naa t0.N 16))).bind λg=>some (decide ((Taa t0.N 16)<(g.r.length:Int)))else some false) λe=>some e else if t0.Op=7 then Aaa (if 0<=t0.N then some (decide (t0.N<(t1.u.length:Int)))else some false) λf=>some f else if t0.Op=8 then Aaa (if 0<=t0.N then some (decide (t0.N<(t1.d.length:Int)))else some false) λa=>some a else if t0.Op=33 then Aaa (if 0<=t0.N then some (decide (t0.N<(t1.Tables.length:Int)))else some false) λb=>some b else if t0.Op=34 then some (decide ((aa .i64 (Naa t0.N 8))<(t1.Tables.length:Int)))else if t0.Op=35 then some t1.av else Aaa (if t0.Op=36 then some true else if t0.Op=37 then some true else if t0.Op=38 then some true else some (t0.Op==39)) λc=>if c=true then Aaa (if t1.av=true then if 0<=t0.N then some (decide (t0.N<(t1.ap.length:Int)))else some false else some false) λd=>some d else some true
def Kk(t0:Int):Option Bool:=Aaa (if¬t0=2 then if¬t0=3 then some (t0==4)else some true else some true) λa=>some a
def Ml(t0:Int):Option Bool:=Aaa ((Kk t0).bind λb=>if b=false then some (t0==5)else some true) λa=>some a
def Ll(t0:GNode) (t1:GSignature):Option (GType×Bool):=Aaa (if t0.Op=6 then some (6,(aa .i64 (Naa t0.N 16)))else if t0.Op=7 then(idx t1.u t0.N).bind λj=>some (j.a,j.g)else if t0.Op=8 then(idx t1.d t0.N).bind λk=>some (k.a,k.g)else if t0.Op=9 then(zb 5).bind λl=>some (l.a,l.g)else if t0.Op=35 then(zb 2).bind λm=>some (m.a,m.g)else Aaa (if t0.Op=36 then some true else if t0.Op=37 then some true else if t0.Op=38 then some true else some (t0.Op==39)) λf=>if f=true then(idx t1.ap t0.N).bind λd=>some (d.a,d.g)else(zb t0.Op).bind λe=>some (e.a,e.g)) λ(a,c)=>(Xb (GType.mk a c) t1.q).bind λb=>Aaa (if t0.Op=36 then if b=true then if¬a=2 then some (a==3)else some true else some false else Aaa (if t0.Op=37 then some true else some (t0.Op==38)) λg=>if g=true then if b=true then some (a==1)else some false else if t0.Op=39 then if b=true then(Ml a).bind λi=>some i else some false else some b) λh=>some ((GType.mk a c),h)
def Dn(t0:GNode) (t1:GType) (t2:GSignature):Option (GType×Bool):=if t0.Op=10 then(Kk t1.a).bind λj=>some (t1,j)else if t0.Op=25 then some (t1,(t1.a==1))else Aaa (if t0.Op=31 then some true else some (t0.Op==32)) λi=>if i=true then(zb 2).bind λk=>some (k,(t1.a==5))else if t0.Op=33 then(idx t2.Tables t0.N).bind λd=>Aaa ((Xb d.ab t2.q).bind λg=>if g=true then(Xb d.Value t2.q).bind λh=>if h=true then some ((t1.a==d.ab.a)&&(t1.g==d.ab.g))else some false else some false) λe=>some (d.Value,e)else(idx t2.Tables (aa .i64 (Naa t0.N 8))).bind λa=>Aaa (if t1.a=3 then(zb 3).bind λb=>if a.ab.a=b.a/\a.ab.g=b.g then(zb 4).bind λc=>some ((a.Value.a==c.a)&&(a.Value.g==c.g))else some false else some false) λf=>some (t1,f)
def Nw(t0:Int) (t1:Int) (t2:Int):Option (GType×Bool):=if t0=13 then Aaa ((zb t1).bind λb=>if t2=2 then if¬t1=2 then some (b.a,b.g,(t1==3))else some (b.a,b.g,true)else some (b.a,b.g,false)) λ(l,m,n)=>some ((GType.mk l m),n)else if t0=14 then Aaa ((zb t1).bind λc=>if t2=4 then if¬t1=3 then some (c.a,c.g,(t1==4))else some (c.a,c.g,true)else some (c.a,c.g,false)) λ(d,e,f)=>some ((GType.mk d e),f)else Aaa (if t1=3 then some (t2==3)else some false) λg=>if g=true then(zb 4).bind λk=>some (k,true)else Aaa ((zb t1).bind λa=>if t2=2 then if¬t1=2 then some (a.a,a.g,(t1==3))else some (a.a,a.g,true)else some (a.a,a.g,false)) λ(h,i,j)=>some ((GType.mk h i),j)
def Bn(t0:Int) (t1:GType) (t2:GType):Option (GType×Bool):=Aaa (if t0=11 then some true else some (t0==12)) λv=>if v=true then Aaa (if t1.a=t2.a/\t1.g=t2.g then(Kk t1.a).bind λy=>some y else some false) λw=>some (t1,w)else Aaa (if t0=13 then some true else if t0=14 then some true else some (t0==15)) λx=>if x=true then(Nw t0 t1.a t2.a).bind λc=>some (c.1,c.2)else if t0=16 then Aaa (if t1.a=3 then some (t2.a==3)else some false) λd=>some (t1,d)else Aaa (if t0=17 then some true else some (t0==18)) λe=>if e=true then Aaa (if t1.a=t2.a/\t1.g=t2.g then(Ml t1.a).bind λs=>some s else some false) λf=>some (t1,f)else Aaa (if t0=19 then some true else some (t0==20)) λg=>if g=true then(zb 1).bind λt=>some (t,((t1.a==t2.a)&&(t1.g==t2.g)))else Aaa (if t0=21 then some true else some (t0==22)) λh=>if h=true then Aaa ((zb 1).bind λa=>if t1.a=t2.a/\t1.g=t2.g then(Ml t1.a).bind λu=>some (a.a,a.g,u)else some (a.a,a.g,false)) λ(i,j,k)=>some ((GType.mk i j),k)else Aaa (if t0=23 then some true else some (t0==24)) λl=>if l=true then Aaa (if t1.a=1 then some (t2.a==1)else some false) λm=>some (t1,m)else Aaa (if t0=27 then some true else some (t0==28)) λn=>if n=true then Aaa (if t1.a=5 then some (t2.a==2)else some false) λo=>some (t1,o)else Aaa ((zb 2).bind λb=>if t1.a=5 then some (b.a,b.g,(t2.a==5))else some (b.a,b.g,false)) λ(p,q,r)=>some ((GType.mk p q),r)
def Ta(t0:GNode) (t1:List GType) (t2:GSignature):Option (GType×Int):=Aaa (if¬t0.N=0 then(Jo t0.Op).bind λn=>some (!n)else some false) λm=>if m=true then some ((GType.mk 0 0),2)else(gb t0 t2).bind λo=>if o=false then some ((GType.mk 0 0),3)else(pc t0 t2).bind λp=>if p=false then some ((GType.mk 0 0),6)else Aaa (if(t1.length:Int)=0 then(Ll t0 t2).bind λb=>some (b.1.a,b.1.g,b.2)else if(t1.length:Int)=1 then(idx t1 0).bind λi=>(Dn t0 i t2).bind λc=>some (c.1.a,c.1.g,c.2)else if(t1.length:Int)=2 then(idx t1 0).bind λj=>(idx t1 1).bind λk=>(Bn t0.Op j k).bind λd=>some (d.1.a,d.1.g,d.2)else(idx t1 1).bind λa=>(idx t1 0).bind λl=>if l.a=1 then(idx t1 2).bind λe=>some (a.a,a.g,((a.a==e.a)&&(a.g==e.g)))else some (a.a,a.g,false)) λ(f,g,h)=>if h=false then some ((GType.mk 0 0),8)else some ((GType.mk f g),0)
def bo(t0:List GNode) (t1:GSignature):((List GType)×Int)->Option (Ex ((List GType)×Int) (List GType) (GType×Int×Int)):=λ(a,b)=>if b<(t0.length:Int)then (idx t0 b).bind λf=>(kn f.Op).bind λg=>(dH a (aa .i64 ((a.length:Int)-g))).bind λh=>(Ta f h t1).bind λe=>if¬e.2=0 then some (Ex.ret ((GType.mk 0 0),b,e.2))else(ju a (aa .i64 ((a.length:Int)-g))).bind λc=>(app 16 c ([e.1])).bind λd=>some (Ex.go (d,(aa .i64 (b+1))))else some (Ex.brk a)
def Pt(t0:List GNode) (t1:GSignature):Option (GType×Int×Int):=(ji t0).bind λb=>if¬b.2.2=0 then some ((GType.mk 0 0),b.2.1,b.2.2)else(ca (bo t0 t1) (([]:List GType),0)).bind λy=>match y with |.inr v=>some v |.inl a=>(idx a 0).bind λc=>some (c,0,0)
def Yj(t0:List GNode) (t1:GSignature) (t2:GType):Option Int:=(Pt t0 t1).bind λa=>if¬a.2.2=0 then some a.2.2 else if¬(a.1.a=t2.a/\a.1.g=t2.g)then some 8 else some 0
def wj(t2:Int) (f:GScope) (d:GRule):(Int×Int)->Option (Ex (Int×Int) Int Int):=λ(b,c)=>if c<t2 then Aaa ((idx f.f c).bind λe=>if e.j=d.j then some (Sum.inr (Ex.ret 7))else if e.s=d.s then some (Sum.inl (aa .i64 (b+1)))else some (Sum.inl b)) λz=>match z with |.inr v=>some v |.inl a=>some (Ex.go (a,(aa .i64 (c+1))))else some (Ex.brk b)
def uo(t0:GLaw) (t1:Int) (t2:Int):Option Int:=(idx t0.e t1).bind λb=>(idx b.f t2).bind λa=>(yb a.j).bind λn=>if n=false then some 2 else(ca (wj t2 b a) (0,0)).bind λy=>match y with |.inr v=>some v |.inl e=>Aaa (if¬a.s<0 then some (decide ((b.d.length:Int)<=a.s))else some true) λf=>if f=true then some 6 else Aaa (if¬a.ag=(-1)then if¬a.ag<0 then if¬t2<=a.ag then(idx b.f a.ag).bind λi=>some (i.s !=a.s)else some true else some true else some false) λg=>if g=true then some 9 else Aaa (if¬a.ao<0 then if¬9<a.ao then(nf a.w).bind λj=>if j=true then some (a.w.n==a.w.To)else some true else some true else some true) λh=>if h=true then some 3 else if 8<=e then some 4 else(so a.au).bind λk=>if k=false then some 2 else(oo t0 t1).bind λc=>Aaa (if 0<(a.ac.length:Int)then (Yj a.ac c (GType.mk 1 0)).bind λd=>if¬d=0 then some (Sum.inr d)else some (Sum.inl ())else some (Sum.inl ())) λz=>match z with |.inr v=>some v |.inl _=>(idx b.d a.s).bind λl=>(Yj a.Value c l.ai).bind λm=>some m
def RA(t0:List Int) (t1:Int):((List Int)×Bool×Int)->Option (Ex ((List Int)×Bool×Int) ((List Int)×Bool) Unit):=λ(s1,s2,a)=>if a<(t0.length:Int)then Aaa (Aaa (if s2=false then(idx t0 a).bind λi=>some (decide (t1<=i))else some false) λh=>if h=true then Aaa ((idx t0 a).bind λj=>if t1<j then(app 8 s1 ([t1])).bind λe=>some e else some s1) λb=>some (b,true)else some (s1,s2)) λ(c,d)=>(idx t0 a).bind λf=>(app 8 c ([f])).bind λg=>some (Ex.go (g,d,(aa .i64 (a+1))))else some (Ex.brk (s1,s2))
def Qf(t0:List Int) (t1:Int):Option (List Int):=(ca (RA t0 t1) (([]:List Int),false,0)).bind λy=>match y with |.inr _=>none |.inl (a,b)=>Aaa (if b=false then(app 8 a ([t1])).bind λd=>some d else some a) λc=>some c
def Uv(t0:GScope) (t1:Int):Option Bool:=Aaa (if 0<=t1 then some (decide (t1<(t0.d.length:Int)))else some false) λa=>some a
def eo(t0:List Int) (t1:Int):((List Int)×Bool×Int)->Option (Ex ((List Int)×Bool×Int) ((List Int)×Bool) Unit):=λ(s1,s2,a)=>if a<(t0.length:Int)then Aaa (Aaa (if s2=false then(idx t0 a).bind λi=>some (decide (t1<=i))else some false) λh=>if h=true then Aaa ((idx t0 a).bind λj=>if t1<j then(app 8 s1 ([t1])).bind λe=>some e else some s1) λb=>some (b,true)else some (s1,s2)) λ(c,d)=>(idx t0 a).bind λf=>(app 8 c ([f])).bind λg=>some (Ex.go (g,d,(aa .i64 (a+1))))else some (Ex.brk (s1,s2))
def Cn(t0:List Int) (t1:Int):Option (List Int):=(ca (eo t0 t1) (([]:List Int),false,0)).bind λy=>match y with |.inr _=>none |.inl (a,b)=>Aaa (if b=false then(app 8 a ([t1])).bind λd=>some d else some a) λc=>some c
def zi(t0:List GNode):((List Int)×(List Int)×(List Int)×Int)->Option (Ex ((List Int)×(List Int)×(List Int)×Int) ((List Int)×(List Int)×(List Int)) Unit):=λ(s1,s2,g,h)=>if h<(t0.length:Int)then Aaa ((idx t0 h).bind λa=>Aaa (if a.Op=7 then(Cn s1 a.N).bind λl=>some l else some s1) λk=>Aaa (if a.Op=8 then(Cn s2 a.N).bind λi=>some i else some s2) λb=>Aaa (if 36<=a.Op then some (decide (a.Op<=39))else some false) λc=>if c=true then(Cn g a.N).bind λj=>some (k,b,j)else some (k,b,g)) λ(d,e,f)=>some (Ex.go (d,e,f,(aa .i64 (h+1))))else some (Ex.brk (s1,s2,g))
def pf(t0:List GNode):Option ((List Int)×(List Int)×(List Int)):=(ca (zi t0) (([]:List Int),([]:List Int),([]:List Int),0)).bind λy=>match y with |.inr _=>none |.inl (a,b,c)=>some (a,b,c)
def Tq(t0:GScope) (g:((List Int)×(List Int)×(List Int))):((List Int)×Int)->Option (Ex ((List Int)×Int) (List Int) Unit):=λ(a,b)=>if b<(g.2.1.length:Int)then Aaa ((idx g.2.1 b).bind λc=>(Uv t0 c).bind λe=>if e=true then(Qf a c).bind λf=>some f else some a) λd=>some (Ex.go (d,(aa .i64 (b+1))))else some (Ex.brk a)
def Rq(t0:GScope) (g:((List Int)×(List Int)×(List Int))):((List Int)×Int)->Option (Ex ((List Int)×Int) (List Int) Unit):=λ(a,b)=>if b<(g.2.1.length:Int)then Aaa ((idx g.2.1 b).bind λc=>(Uv t0 c).bind λe=>if e=true then(Qf a c).bind λf=>some f else some a) λd=>some (Ex.go (d,(aa .i64 (b+1))))else some (Ex.brk a)
def Pm(t0:GScope) (t1:Int):((List Int)×Int)->Option (Ex ((List Int)×Int) (List Int) Unit):=λ(d,e)=>if e<(t0.f.length:Int)then Aaa ((idx t0.f e).bind λf=>if¬f.s=t1 then some d else(pf f.ac).bind λg=>(pf f.Value).bind λh=>(ca (Tq t0 g) (d,0)).bind λy=>match y with |.inr _=>none |.inl a=>(ca (Rq t0 h) (a,0)).bind λy=>match y with |.inr _=>none |.inl b=>some b) λc=>some (Ex.go (c,(aa .i64 (e+1))))else some (Ex.brk d)
def Hn(t0:GScope) (t1:Int):Option (List Int):=(Uv t0 t1).bind λb=>if b=false then some ([])else(ca (Pm t0 t1) (([]:List Int),0)).bind λy=>match y with |.inr _=>none |.inl a=>some a
def zh(e:List Int):((List Int)×Int)->Option (Ex ((List Int)×Int) (List Int) Unit):=λ(b,a)=>if a<(e.length:Int)then (idx e a).bind λc=>(Qf b c).bind λd=>some (Ex.go (d,(aa .i64 (a+1))))else some (Ex.brk b)
def Ah(t0:GScope) (s2:List Int):((List Int)×Int)->Option (Ex ((List Int)×Int) (List Int) Unit):=λ(c,b)=>if b<(s2.length:Int)then (idx s2 b).bind λd=>(Hn t0 d).bind λe=>(ca (zh e) (c,0)).bind λy=>match y with |.inr _=>none |.inl a=>some (Ex.go (a,(aa .i64 (b+1))))else some (Ex.brk c)
def Bh(t0:GScope):((List Int)×Int)->Option (Ex ((List Int)×Int) (List Int) Unit):=λ(s2,b)=>if b<(t0.d.length:Int)then (ca (Ah t0 s2) (s2,0)).bind λy=>match y with |.inr _=>none |.inl a=>some (Ex.go (a,(aa .i64 (b+1))))else some (Ex.brk s2)
def qf(t0:GScope) (t1:Int):Option (List Int):=(Hn t0 t1).bind λb=>(ca (Bh t0) (b,0)).bind λy=>match y with |.inr _=>none |.inl a=>some a
def Dh(t0:GLaw) (t1:Int) (c:GScope):Int->Option (Ex Int Unit GLawError):=λa=>if a<(c.f.length:Int)then (uo t0 t1 a).bind λb=>if¬b=0 then some (Ex.ret (GLawError.mk b 3 t1 (aa .i64 (300+a))))else some (Ex.go (aa .i64 (a+1)))else some (Ex.brk ())
def Ei(t1:Int) (b:Int) (c:List Int):Int->Option (Ex Int Unit (Ex Int Unit GLawError)):=λa=>if a<(c.length:Int)then (idx c a).bind λd=>if d=b then some (Ex.ret (Ex.ret (GLawError.mk 9 3 t1 (aa .i64 (200+b)))))else some (Ex.go (aa .i64 (a+1)))else some (Ex.brk ())
def Ch(t1:Int) (c:GScope):Int->Option (Ex Int Unit GLawError):=λa=>if a<(c.d.length:Int)then (qf c a).bind λb=>(ca (Ei t1 a b) 0).bind λy=>match y with |.inr v=>some v |.inl _=>some (Ex.go (aa .i64 (a+1)))else some (Ex.brk ())
def Vm(t0:GLaw) (t1:Int):Option GLawError:=(idx t0.e t1).bind λa=>(yb a.j).bind λd=>if d=false then some (GLawError.mk 2 3 t1 0)else(Ic t0 3 t1 a.j).bind λe=>if e=true then some (GLawError.mk 7 3 t1 0)else Aaa (if¬a.z=(-1)then if¬a.z<0 then if¬t1<=a.z then(idx t0.e a.z).bind λf=>some (f.z !=(-1))else some true else some true else some false) λc=>if c=true then some (GLawError.mk 6 3 t1 0)else if 12<(a.u.length:Int)then some (GLawError.mk 4 3 t1 112)else if 12<(a.d.length:Int)then some (GLawError.mk 4 3 t1 212)else(Rm t0 t1).bind λb=>if¬b.Code=0 then some b else(ca (Dh t0 t1 a) 0).bind λy=>match y with |.inr v=>some v |.inl _=>(ca (Ch t1 a) 0).bind λy=>match y with |.inr v=>some v |.inl _=>some (GLawError.mk 0 0 0 0)
def Wk(t0:GLaw):Int->Option (Ex Int Unit GLawError):=λs2=>if s2<(t0.q.length:Int)then (qo t0 s2).bind λa=>if¬a.Code=0 then some (Ex.ret a)else some (Ex.go (aa .i64 (s2+1)))else some (Ex.brk ())
def Vk(t0:GLaw):Int->Option (Ex Int Unit GLawError):=λb=>if b<(t0.Tables.length:Int)then (Wm t0 b).bind λa=>if¬a.Code=0 then some (Ex.ret a)else some (Ex.go (aa .i64 (b+1)))else some (Ex.brk ())
def Uk(t0:GLaw):Int->Option (Ex Int Unit GLawError):=λa=>if a<(t0.e.length:Int)then (Vm t0 a).bind λb=>if¬b.Code=0 then some (Ex.ret b)else some (Ex.go (aa .i64 (a+1)))else some (Ex.brk ())
def bq(t0:GLaw):Option GLawError:=if 8<(t0.q.length:Int)then some (GLawError.mk 4 1 8 0)else(ca (Wk t0) 0).bind λy=>match y with |.inr v=>some v |.inl _=>if 8<(t0.Tables.length:Int)then some (GLawError.mk 4 2 8 0)else(ca (Vk t0) 0).bind λy=>match y with |.inr v=>some v |.inl _=>if 4<(t0.e.length:Int)then some (GLawError.mk 4 3 4 0)else(ca (Uk t0) 0).bind λy=>match y with |.inr v=>some v |.inl _=>some (GLawError.mk 0 0 0 0)
def Pf(t0:GDateRange) (t1:Int):Option Bool:=Aaa ((nf t0).bind λb=>if b=true then if t0.n<=t1 then some (decide (t1<t0.To))else some false else some false) λa=>some a
def Om(t0:GScope) (t1:Int) (t2:Int):((List Int)×Int)->Option (Ex ((List Int)×Int) (List Int) Unit):=λ(s1,s2)=>if s2<(t0.f.length:Int)then Aaa (Aaa ((idx t0.f s2).bind λb=>if b.s=t1 then(Pf b.w t2).bind λd=>some d else some false) λc=>if c=true then(app 8 s1 ([s2])).bind λe=>some e else some s1) λa=>some (Ex.go (a,(aa .i64 (s2+1))))else some (Ex.brk s1)
def Er(t0:GScope) (t1:Int) (t2:Int):Option (List Int):=(ca (Om t0 t1 t2) (([]:List Int),0)).bind λy=>match y with |.inr _=>none |.inl a=>some a
def Ot(f:((List Int)×Int×Int)):((List Int)×Int×Int)->Option (Ex ((List Int)×Int×Int) (List Int) Unit):=λ(c,b,a)=>if 0<=a then(idx c a).bind λx13=>(put c a b).bind λd=>(idx f.1 b).bind λe=>some (Ex.go (d,(aa .i64 (e-1)),(aa .i64 (a-1))))else some (Ex.brk c)
def Sp(t0:List GNode) (t1:Int):Option (List Int):=(ji t0).bind λc=>Aaa (if c.2.2=0 then if¬t1<0 then some (decide ((t0.length:Int)<=t1))else some true else some true) λd=>if d=true then some ([])else(idx t0 t1).bind λe=>(kn e.Op).bind λb=>(UB 8 0 b b).bind λf=>(ca (Ot c) (f,(aa .i64 (t1-1)),(aa .i64 (b-1)))).bind λy=>match y with |.inr _=>none |.inl a=>some a
def Zn(t0:List Int) (t1:Int):((List Int)×Int)->Option (Ex ((List Int)×Int) (List Int) Unit):=λ(s1,s2)=>if s2<(t0.length:Int)then Aaa ((idx t0 s2).bind λa=>if a<t1 then(app 8 s1 ([a])).bind λc=>some c else some s1) λb=>some (Ex.go (b,(aa .i64 (s2+1))))else some (Ex.brk s1)
def Yn(t0:List Int) (t1:Int):((List Int)×Int)->Option (Ex ((List Int)×Int) (List Int) Unit):=λ(a,b)=>if b<(t0.length:Int)then Aaa ((idx t0 b).bind λc=>if t1<c then(app 8 a ([c])).bind λe=>some e else some a) λd=>some (Ex.go (d,(aa .i64 (b+1))))else some (Ex.brk a)
def Mq(t0:List Int) (t1:Int):Option (List Int):=(ca (Zn t0 t1) (([]:List Int),0)).bind λy=>match y with |.inr _=>none |.inl a=>(app 8 a ([t1])).bind λc=>(ca (Yn t0 t1) (c,0)).bind λy=>match y with |.inr _=>none |.inl b=>some b
def Zp(t0:List Int) (t1:Int):Int->Option (Ex Int Unit Int):=λs1=>if s1<(t0.length:Int)then (idx t0 s1).bind λa=>if a=t1 then some (Ex.ret s1)else some (Ex.go (aa .i64 (s1+1)))else some (Ex.brk ())
def Ts(t0:List Int) (t1:Int):Option Int:=(ca (Zp t0 t1) 0).bind λy=>match y with |.inr v=>some v |.inl _=>some (-1)
def Xj(t0:GScope) (t1:List Int):(Int×Int)->Option (Ex (Int×Int) Unit Int):=λ(s2,a)=>Aaa (if 0<=a then some (decide (a<s2))else some false) λc=>if c=true then(Ts t1 a).bind λb=>if 0<=b then some (Ex.ret b)else(idx t0.f a).bind λd=>some (Ex.go (a,d.ag))else some (Ex.brk ())
def au(t0:GScope) (t1:List Int) (t2:Int):Option Int:=(idx t0.f t2).bind λa=>(ca (Xj t0 t1) (t2,a.ag)).bind λy=>match y with |.inr v=>some v |.inl _=>some (-1)
def mo(t0:GScope) (b:List Int):((List Int)×(List Int)×Int)->Option (Ex ((List Int)×(List Int)×Int) ((List Int)×(List Int)) Unit):=λ(s2,d,a)=>if a<(b.length:Int)then (idx b a).bind λe=>(au t0 b e).bind λf=>(app 8 s2 ([f])).bind λg=>(idx t0.f e).bind λh=>(app 8 d ([h.ao])).bind λc=>some (Ex.go (g,c,(aa .i64 (a+1))))else some (Ex.brk (s2,d))
def Zt(t0:GScope) (t1:Int) (t2:Int):Option ((List Int)×(List Int)×(List Int)):=(Er t0 t1 t2).bind λc=>(ca (mo t0 c) (([]:List Int),([]:List Int),0)).bind λy=>match y with |.inr _=>none |.inl (a,b)=>some (c,a,b)
def Mw(t0:List GNode):Option ((List Int)×Int):=(ji t0).bind λa=>some (a.1,a.2.2)
def Oq(t0:Int):Option (Int×Int):=if t0=1 then some (0,1)else if t0=2 then some ((-1000000000000),1000000000000)else if t0=3 then some ((-1000000000000000),1000000000000000)else if t0=4 then some ((-1000000000),1000000000)else if t0=5 then some (0,109572)else if t0=6 then some (0,15)else some (0,(-1))
def wb(t0:GValue):Option Bool:=(Oq t0.a).bind λa=>Aaa (if¬t0.N<a.1 then some (decide (a.2<t0.N))else some true) λb=>if b=true then some false else if t0.a=6 then Aaa (if 0<=t0.g then some (decide (t0.g<8))else some false) λc=>some c else some (t0.g==0)
def Dr(t0:Int):Option Bool:=Aaa (if 1<=t0 then if¬t0<=8 then if 36<=t0 then some (decide (t0<=39))else some false else some true else if 36<=t0 then some (decide (t0<=39))else some false) λb=>if b=true then some true else Aaa (if¬t0=14 then if¬t0=15 then if¬t0=16 then if¬t0=33 then some (t0==34)else some true else some true else some true else some true) λa=>some a
def Ut(t0:GNode) (t1:Int):Option Bool:=Aaa ((kn t0.Op).bind λe=>if e=t1 then if¬t0.N=0 then(Dr t0.Op).bind λf=>some (!f)else some false else some true) λc=>if c=true then some false else Aaa (if t0.Op=14 then some true else if t0.Op=15 then some true else some (t0.Op==16)) λd=>if d=true then Aaa (if 0<=t0.N then some (decide (t0.N<=5))else some false) λa=>some a else if t0.Op=34 then Aaa (if 0<=t0.N then some (decide ((Taa t0.N 8)<=5))else some false) λb=>some b else if t0.Op=6 then some (decide (0<=t0.N))else some true
def Tv(t0:GNode) (t1:GEnv):Option Bool:=if t0.Op=7 then Aaa (if 0<=t0.N then some (decide (t0.N<(t1.u.length:Int)))else some false) λd=>some d else if t0.Op=8 then Aaa (if 0<=t0.N then if t0.N<(t1.d.length:Int)then (idx t1.d t0.N).bind λf=>some (f.a !=0)else some false else some false) λe=>some e else if t0.Op=33 then Aaa (if 0<=t0.N then some (decide (t0.N<(t1.Tables.length:Int)))else some false) λa=>some a else if t0.Op=34 then some (decide ((aa .i64 (Naa t0.N 8))<(t1.Tables.length:Int)))else Aaa (if t0.Op=36 then some true else if t0.Op=37 then some true else if t0.Op=38 then some true else some (t0.Op==39)) λb=>if b=true then Aaa (if 0<=t0.N then some (decide (t0.N<(t1.al.length:Int)))else some false) λc=>some c else some true
def Cr(t0:Int) (t1:GType):Option Bool:=if¬t1.g=0 then some false else if t0=36 then Aaa (if¬t1.a=2 then some (t1.a==3)else some true) λa=>some a else if t0=39 then Aaa (if 2<=t1.a then some (decide (t1.a<=5))else some false) λb=>some b else some (t1.a==1)
def Sz(t0:GValue) (t1:GType):Option Bool:=Aaa ((wb t0).bind λb=>if b=true then if t0.a=t1.a then some (t0.g==t1.g)else some false else some false) λa=>some a
def As(t0:Int) (t1:Int) (t2:Int) (b:Bool):Option Int:=if t0=36 then some (aa .i64 (t1+t2))else if t0=37 then some (aa .i64 (t1*t2))else if t0=38 then if t1<t2 then some t2 else some t1 else Aaa (if b=false then some (decide (t1<t2))else some true) λa=>if a=true then some t2 else some t1
def xc(t0:Int) (t1:Int):Option (GValue×Int):=(wb (GValue.mk t0 0 t1)).bind λa=>if a=false then some ((GValue.mk 0 0 0),3)else some ((GValue.mk t0 0 t1),0)
def Qq(t0:GNode) (t1:GEnv) (j:GType):(Int×Int)->Option (Ex (Int×Int) Int (GValue×Int)):=λ(i,d)=>if d<(t1.r.length:Int)then (idx t1.r d).bind λh=>Aaa (if¬(h.length:Int)<=t0.N then(idx h t0.N).bind λf=>some (f.a==0)else some true) λe=>if e=true then some (Ex.ret ((GValue.mk 0 0 0),6))else(idx h t0.N).bind λa=>(Sz a j).bind λg=>if g=false then some (Ex.ret ((GValue.mk 0 0 0),8))else(As t0.Op i a.N (d==0)).bind λb=>(xc j.a b).bind λc=>if¬c.2=0 then some (Ex.ret ((GValue.mk 0 0 0),c.2))else some (Ex.go (b,(aa .i64 (d+1))))else some (Ex.brk i)
def Ko(t0:GNode) (t1:GEnv):Option (GValue×Int):=(idx t1.al t0.N).bind λd=>(Cr t0.Op d).bind λf=>if f=false then some ((GValue.mk 0 0 0),8)else Aaa (if t0.Op=37 then some 1 else some 0) λe=>(ca (Qq t0 t1 d) (e,0)).bind λy=>match y with |.inr v=>some v |.inl b=>Aaa (if t0.Op=39 then some ((t1.r.length:Int)==0)else some false) λc=>if c=true then some ((GValue.mk 0 0 0),6)else(xc d.a b).bind λa=>some (a.1,a.2)
def xf(t0:GNode) (t1:GEnv):Option (GValue×Int):=if t0.Op=7 then(idx t1.u t0.N).bind λe=>(wb e).bind λg=>if g=false then some ((GValue.mk 0 0 0),8)else some (e,0)else if t0.Op=8 then(idx t1.d t0.N).bind λf=>(wb f).bind λh=>if h=false then some ((GValue.mk 0 0 0),8)else some (f,0)else if t0.Op=9 then(xc 5 t1.ae).bind λa=>some (a.1,a.2)else if t0.Op=35 then(xc 2 (t1.r.length:Int)).bind λb=>some (b.1,b.2)else if t0.Op=6 then(wb (GValue.mk 6 (aa .i64 (Naa t0.N 16)) (Taa t0.N 16))).bind λd=>if d=false then some ((GValue.mk 0 0 0),3)else some ((GValue.mk 6 (aa .i64 (Naa t0.N 16)) (Taa t0.N 16)),0)else(xc t0.Op t0.N).bind λc=>some (c.1,c.2)
def En(t0:Int):Option Bool:=Aaa (if¬t0=2 then if¬t0=3 then some (t0==4)else some true else some true) λa=>some a
def wh(t0:Bool):Option (GValue×Int):=Aaa (if t0=true then some 1 else some 0) λa=>some ((GValue.mk 1 0 a),0)
def Jq(t0:Int):Option Bool:=Aaa (if(Taa t0 4)=0 then if(Taa t0 100)=0 then some ((Taa t0 400)==0)else some true else some false) λa=>some a
def jc(t0:Int) (t1:Int):Option Int:=if t1=2 then(Jq t0).bind λc=>if c=true then some 29 else some 28 else Aaa (if t1=4 then some true else if t1=6 then some true else if t1=9 then some true else some (t1==11)) λb=>if b=true then some 30 else Aaa (if t1=1 then some true else if t1=3 then some true else if t1=5 then some true else if t1=7 then some true else if t1=8 then some true else if t1=10 then some true else some (t1==12)) λa=>if a=true then some 31 else some 0
def mf(t0:Int):Option Int:=(Jq t0).bind λa=>if a=true then some 366 else some 365
def gn(t0:Int):Option Bool:=Aaa (if 0<=t0 then some (decide (t0<=109572))else some false) λa=>some a
def Gm  : (Int×Int)->Option (Ex (Int×Int) (Int×Int) Unit):=λ(b,a)=>(mf a).bind λc=>if c<=b then(mf a).bind λd=>some (Ex.go ((aa .i64 (b-d)),(aa .i64 (a+1))))else some (Ex.brk (b,a))
def Fm(c:Int):(Int×Int)->Option (Ex (Int×Int) (Int×Int) Unit):=λ(b,a)=>(jc c a).bind λd=>if d<=b then(jc c a).bind λe=>some (Ex.go ((aa .i64 (b-e)),(aa .i64 (a+1))))else some (Ex.brk (b,a))
def Pp(t0:Int):Option (Int×Int×Int):=(gn t0).bind λe=>if e=false then some (0,0,0)else(ca Gm (t0,1900)).bind λy=>match y with |.inr _=>none |.inl (b,a)=>(ca (Fm a) (b,1)).bind λy=>match y with |.inr _=>none |.inl (c,d)=>some (a,d,(aa .i64 (c+1)))
def Ar(t0:GRow) (t1:Int) (t2:Int):Option Bool:=Aaa ((Pf t0.w t1).bind λb=>if b=true then if t0.Lo<=t2 then some (decide (t2<t0.Hi))else some false else some false) λa=>some a
def fo(t0:GTable) (t1:Int) (t2:Int):Int->Option (Ex Int Unit (Int×Bool)):=λs1=>if s1<(t0.Rows.length:Int)then (idx t0.Rows s1).bind λa=>(Ar a t1 t2).bind λb=>if b=true then some (Ex.ret (s1,true))else some (Ex.go (aa .i64 (s1+1)))else some (Ex.brk ())
def Nq(t0:GTable) (t1:Int) (t2:Int):Option (Int×Bool):=(ca (fo t0 t1 t2) 0).bind λy=>match y with |.inr v=>some v |.inl _=>some (0,false)
def Pq(t0:GTable) (t1:Int) (t2:GValue):Option (GValue×Int):=Aaa (if t2.a=t0.ab.a then if t2.g=t0.ab.g then if¬t0.Value.a<1 then some (decide (6<t0.Value.a))else some true else some true else some true) λc=>if c=true then some ((GValue.mk 0 0 0),8)else(Nq t0 t1 t2.N).bind λa=>if a.2=false then some ((GValue.mk 0 0 0),6)else(idx t0.Rows a.1).bind λb=>(wb (GValue.mk t0.Value.a t0.Value.g b.N)).bind λd=>if d=false then some ((GValue.mk 0 0 0),3)else some ((GValue.mk t0.Value.a t0.Value.g b.N),0)
def Np(t0:Int):Option Bool:=Aaa (if 0<=t0 then some (decide (t0<=5))else some false) λa=>some a
def Vc(t0:Int) (t1:Int):Option Bool:=Aaa (if¬t1<t0 then some (decide (t0<(aa .i64 (-t1))))else some true) λa=>some a
def oj(t0:Int) (t1:Int):Option (Int×Int×Bool):=Aaa (if t1<0 then some (aa .u64 ((aa .u64 (aa .i64 (-(aa .i64 (t1+1)))))+1))else some (aa .u64 t1)) λa=>Aaa (if 0<(aa .i64 (aa .u64 (Naa a 1000000)))then (quo .i64 1000000000000000 (aa .i64 (aa .u64 (Naa a 1000000)))).bind λc=>some (decide (c<t0))else some false) λb=>if b=true then some (0,0,false)else if 1000000000000000<(aa .i64 ((aa .i64 ((aa .i64 (t0*(aa .i64 (aa .u64 (Naa a 1000000)))))+(aa .i64 ((aa .i64 (Naa t0 1000000))*(aa .i64 (Taa a 1000000))))))+(aa .i64 (Naa (aa .i64 ((Taa t0 1000000)*(aa .i64 (Taa a 1000000)))) 1000000))))then some (0,0,false)else if t1<0 then some ((aa .i64 (-(aa .i64 ((aa .i64 ((aa .i64 (t0*(aa .i64 (aa .u64 (Naa a 1000000)))))+(aa .i64 ((aa .i64 (Naa t0 1000000))*(aa .i64 (Taa a 1000000))))))+(aa .i64 (Naa (aa .i64 ((Taa t0 1000000)*(aa .i64 (Taa a 1000000)))) 1000000)))))),(aa .i64 (-(Taa (aa .i64 ((Taa t0 1000000)*(aa .i64 (Taa a 1000000)))) 1000000))),true)else some ((aa .i64 ((aa .i64 ((aa .i64 (t0*(aa .i64 (aa .u64 (Naa a 1000000)))))+(aa .i64 ((aa .i64 (Naa t0 1000000))*(aa .i64 (Taa a 1000000))))))+(aa .i64 (Naa (aa .i64 ((Taa t0 1000000)*(aa .i64 (Taa a 1000000)))) 1000000)))),(Taa (aa .i64 ((Taa t0 1000000)*(aa .i64 (Taa a 1000000)))) 1000000),true)
def fh(t0:Int) (t1:Int) (t2:Int) (a:Bool) (c:Int):Option Int:=Aaa (if c=0 then if a=true then some (true,(decide (0<t1)))else some (false,false)else if c=1 then if a=false then some (a,(decide (0<t1)))else some (a,false)else if c=3 then some (a,(decide (0<t1)))else if c=4 then some (a,(decide ((aa .i64 (t2-t1))<=t1)))else if c=5 then if¬(aa .i64 (t2-t1))<t1 then if t1=(aa .i64 (t2-t1))then some (a,((Taa t0 2)==1))else some (a,false)else some (a,true)else some (a,false)) λ(d,e)=>Aaa (if e=true then some (aa .i64 (t0+1))else some t0) λb=>if d=true then some (aa .i64 (-b))else some b
def Jm  : (Int×Int)->Option (Ex (Int×Int) (Int×Int) Unit):=λ(s1,s2)=>if s2<0 then some (Ex.go ((aa .i64 (s1-1)),(aa .i64 (s2+1000000))))else some (Ex.brk (s1,s2))
def Im  : (Int×Int)->Option (Ex (Int×Int) (Int×Int) Unit):=λ(b,a)=>if 1000000<=a then some (Ex.go ((aa .i64 (b+1)),(aa .i64 (a-1000000))))else some (Ex.brk (b,a))
def Br(t0:Int) (t1:Int) (t2:Int):Option Int:=(ca Jm (t0,t1)).bind λy=>match y with |.inr _=>none |.inl (e,f)=>(ca Im (e,f)).bind λy=>match y with |.inr _=>none |.inl (a,b)=>if 0<=a then(fh a b 1000000 false t2).bind λc=>some c else if b=0 then some a else(fh (aa .i64 ((aa .i64 (-a))-1)) (aa .i64 (1000000-b)) 1000000 true t2).bind λd=>some d
def Yo(t0:GTable) (t1:Int) (t2:Int):(Int×Int×Int)->Option (Ex (Int×Int×Int) (Int×Int) (Int×Int)):=λ(g,h,b)=>if b<(t0.Rows.length:Int)then Aaa ((idx t0.Rows b).bind λa=>Aaa (if¬(min a.Hi t2)<=(max a.Lo 0)then (Pf a.w t1).bind λi=>some (!i)else some true) λd=>if d=true then some (Sum.inl (g,h))else(oj (aa .i64 ((min a.Hi t2)-(max a.Lo 0))) a.N).bind λc=>if c.2.2=false then some (Sum.inr (Ex.ret (0,3)))else some (Sum.inl ((aa .i64 (g+c.1)),(aa .i64 (h+c.2.1))))) λz=>match z with |.inr v=>some v |.inl (e,f)=>some (Ex.go (e,f,(aa .i64 (b+1))))else some (Ex.brk (g,h))
def Tp(t0:GTable) (t1:Int) (t2:Int) (e:Int):Option (Int×Int):=(Np e).bind λg=>if g=false then some (0,1)else Aaa (if t0.ab.a=3/\t0.ab.g=0 then some (!((t0.Value.a==4)&&(t0.Value.g==0)))else some true) λf=>if f=true then some (0,8)else(Vc t2 1000000000000000).bind λh=>if h=true then some (0,3)else(ca (Yo t0 t1 t2) (0,0,0)).bind λy=>match y with |.inr v=>some v |.inl (b,c)=>(Br b c e).bind λa=>(Vc a 1000000000000000).bind λd=>if d=true then some (0,3)else some (a,0)
def qj(t0:Int) (t1:Int) (t2:Int):Option (GValue×Int):=if¬t2=0 then some ((GValue.mk 0 0 0),t2)else(xc t0 t1).bind λa=>some (a.1,a.2)
def Ld(t0:GNode) (t1:GValue) (t2:GEnv):Option (GValue×Int):=if t0.Op=10 then(En t1.a).bind λm=>if m=false then some ((GValue.mk 0 0 0),8)else(xc t1.a (aa .i64 (0-t1.N))).bind λj=>some (j.1,j.2)else if t0.Op=25 then if¬t1.a=1 then some ((GValue.mk 0 0 0),8)else(wh (t1.N==0)).bind λk=>some (k.1,k.2)else Aaa (if t0.Op=31 then some true else some (t0.Op==32)) λl=>if l=true then if¬t1.a=5 then some ((GValue.mk 0 0 0),8)else(Pp t1.N).bind λb=>if t0.Op=31 then(xc 2 b.1).bind λc=>some (c.1,c.2)else(xc 2 b.2.1).bind λd=>some (d.1,d.2)else if t0.Op=33 then(idx t2.Tables t0.N).bind λi=>(Pq i t2.ae t1).bind λe=>some (e.1,e.2)else(idx t2.Tables (aa .i64 (Naa t0.N 8))).bind λa=>Aaa (if t1.a=3 then if a.ab.a=3 then if a.ab.g=0 then if a.Value.a=4 then some (a.Value.g !=0)else some true else some true else some true else some true) λh=>if h=true then some ((GValue.mk 0 0 0),8)else(Tp a t2.ae t1.N (Taa t0.N 8)).bind λf=>(qj 3 f.1 f.2).bind λg=>some (g.1,g.2)
def Ho(t0:Int):Option Int:=if t0<0 then some (aa .i64 (-t0))else some t0
def kj(t0:Int) (t1:Int) (t2:Int):Option (Int×Int):=(Np t2).bind λg=>if g=false then some (0,1)else if t1=0 then some (0,12)else Aaa ((Vc t0 4611686018427387904).bind λh=>if h=false then(Vc t1 4611686018427387904).bind λi=>some i else some true) λf=>if f=true then some (0,3)else(Ho t0).bind λe=>(Ho t1).bind λa=>(quo .i64 e a).bind λb=>(rem .i64 e a).bind λc=>(fh b c a (!((decide (t0<0))==(decide (t1<0)))) t2).bind λd=>some (d,0)
def Kt(t0:Int) (t1:Int) (t2:Int) (m:Int):Option (Int×Int):=(Np m).bind λo=>if o=false then some (0,1)else if t2=0 then some (0,12)else Aaa ((Vc t0 1000000000000000).bind λp=>if p=false then(Vc t1 1000000000).bind λq=>if q=false then(Vc t2 1000000000).bind λr=>some r else some true else some true) λn=>if n=true then some (0,3)else(Ho t0).bind λc=>(Ho t1).bind λb=>(Ho t2).bind λa=>Aaa (if 0<b then(quo .i64 c a).bind λg=>(quo .i64 1000000000000000 b).bind λh=>some (decide (h<g))else some false) λf=>if f=true then some (0,3)else(rem .i64 c a).bind λd=>(quo .i64 c a).bind λi=>(quo .i64 (aa .i64 (d*b)) a).bind λj=>(rem .i64 (aa .i64 (d*b)) a).bind λk=>(fh (aa .i64 ((aa .i64 (i*b))+j)) k a (!((!((decide (t0<0))==(decide (t1<0))))==(decide (t2<0)))) m).bind λe=>(Vc e 1000000000000000).bind λl=>if l=true then some (0,3)else some (e,0)
def Pv(t0:Int) (t1:Int) (t2:Int):Option (Int×Int):=(Kt t0 t1 1000000 t2).bind λa=>some (a.1,a.2)
def Mo(t0:Int) (t1:Int) (t2:Int):Option (GValue×Int):=(Oq t0).bind λe=>Aaa (if t1<0 then some (aa .i64 (0-t1))else some t1) λc=>Aaa (if t2<0 then some (aa .i64 (0-t2))else some t2) λb=>Aaa (if¬b=0 then(quo .i64 e.2 b).bind λf=>some (decide (f<c))else some false) λd=>if d=true then some ((GValue.mk 0 0 0),3)else(xc t0 (aa .i64 (t1*t2))).bind λa=>some (a.1,a.2)
def Of(t0:Int) (t1:Int):Option Bool:=Aaa (if¬t1<t0 then some (decide (t0<(aa .i64 (0-t1))))else some true) λa=>some a
def Qs(t0:Int) (t1:Int):Option (Int×Int):=(quo .i64 t0 t1).bind λb=>(rem .i64 t0 t1).bind λa=>if a<0 then some ((aa .i64 (b-1)),(aa .i64 (a+t1)))else some (b,a)
def Io(t0:Int) (t1:Int) (t2:Int) (a:Int):Option Int:=if t1=0 then some t0 else Aaa (if¬a=1 then if a=2 then if¬t0<0 then if a=3 then some (decide (0<=t0))else some false else some true else if a=3 then some (decide (0<=t0))else some false else some true) λc=>Aaa (Aaa (if¬a=4 then some (a==5)else some true) λd=>if d=true then if t1=(aa .i64 (t2-t1))then if a=4 then if¬0<=t0 then if a=5 then some ((Taa t0 2) !=0)else some false else some true else if a=5 then some ((Taa t0 2) !=0)else some false else some (decide ((aa .i64 (t2-t1))<t1))else some c) λb=>if b=true then some (aa .i64 (t0+1))else some t0
def Qz(t0:Int) (t1:Int) (t2:Int):Option (Int×Int):=Aaa (if¬t2<0 then some (decide (5<t2))else some true) λd=>if d=true then some (0,1)else Aaa ((Of t0 1000000000).bind λf=>if f=false then(Of t1 1000000000).bind λg=>some g else some true) λe=>if e=true then some (0,3)else(Qs (aa .i64 (t0*t1)) 1000000).bind λc=>(Io c.1 c.2 1000000 t2).bind λa=>(Of a 1000000000).bind λb=>if b=true then some (0,3)else some (a,0)
def Xn(t0:Int) (t1:Int) (t2:Int):Option (Int×Int):=Aaa (if¬t2<0 then some (decide (5<t2))else some true) λk=>if k=true then some (0,1)else if t1=0 then some (0,12)else Aaa ((Of t0 1000000000000000).bind λm=>if m=false then(Of t1 1000000000000000).bind λn=>some n else some true) λl=>if l=true then some (0,3)else Aaa (if t1<0 then some ((aa .i64 (0-t0)),(aa .i64 (0-t1)))else some (t0,t1)) λ(e,a)=>(Qs e a).bind λb=>(Of b.1 1001).bind λf=>if f=true then some (0,3)else(quo .i64 (aa .i64 (b.2*1000)) a).bind λg=>(rem .i64 (aa .i64 (b.2*1000)) a).bind λc=>(quo .i64 (aa .i64 (c*1000)) a).bind λh=>(rem .i64 (aa .i64 (c*1000)) a).bind λi=>(Io (aa .i64 ((aa .i64 ((aa .i64 (b.1*1000000))+(aa .i64 (g*1000))))+h)) i a t2).bind λd=>(Of d 1000000000).bind λj=>if j=true then some (0,3)else some (d,0)
def xr(t0:Int) (t1:Int) (t2:Int):Option (Int×Int):=(Np t2).bind λf=>if f=false then some (0,1)else if t1<1 then some (0,12)else Aaa ((Vc t0 1000000000000000).bind λg=>if g=false then some (decide (1000000000000000<t1))else some true) λe=>if e=true then some (0,3)else(Ho t0).bind λd=>(quo .i64 d t1).bind λh=>(rem .i64 d t1).bind λb=>(fh h b t1 (decide (t0<0)) t2).bind λa=>(Vc (aa .i64 (a*t1)) 1000000000000000).bind λc=>if c=true then some (0,3)else some ((aa .i64 (a*t1)),0)
def Wc(t0:GNode) (t1:GValue) (t2:GValue):Option (GValue×Int):=Aaa (if t0.Op=13 then if t2.a=2 then if¬t1.a=3 then some (false,(t1.a==2))else some (true,true)else some ((t1.a==3),false)else some ((t1.a==3),false)) λ(r,t)=>if t=true then(Mo t1.a t1.N t2.N).bind λs=>some (s.1,s.2)else Aaa (if t0.Op=14 then if t2.a=4 then some r else some false else some false) λl=>if l=true then(Pv t1.N t2.N t0.N).bind λb=>(qj t1.a b.1 b.2).bind λc=>some (c.1,c.2)else Aaa (if t0.Op=14 then if t2.a=4 then some (t1.a==4)else some false else some false) λm=>if m=true then(Qz t1.N t2.N t0.N).bind λd=>(qj t1.a d.1 d.2).bind λe=>some (e.1,e.2)else Aaa (if t0.Op=15 then if r=true then some (true,(t2.a==3))else some (false,false)else some (r,false)) λ(a,n)=>if n=true then(Xn t1.N t2.N t0.N).bind λf=>(qj 4 f.1 f.2).bind λg=>some (g.1,g.2)else Aaa (if t0.Op=15 then if t2.a=2 then if a=false then some (false,(t1.a==2))else some (true,true)else some (a,false)else some (a,false)) λ(o,p)=>if p=true then(kj t1.N t2.N t0.N).bind λh=>(qj t1.a h.1 h.2).bind λi=>some (i.1,i.2)else Aaa (if t0.Op=16 then if o=true then some (t2.a==3)else some false else some false) λq=>if q=true then(xr t1.N t2.N t0.N).bind λj=>(qj t1.a j.1 j.2).bind λk=>some (k.1,k.2)else some ((GValue.mk 0 0 0),8)
def Oc(t0:Int):(Int×Int)->Option (Ex (Int×Int) Int Unit):=λ(c,a)=>if a<t0 then(mf a).bind λb=>some (Ex.go ((aa .i64 (c+b)),(aa .i64 (a+1))))else some (Ex.brk c)
def Nc(t0:Int) (t1:Int):(Int×Int)->Option (Ex (Int×Int) Int Unit):=λ(b,a)=>if a<t1 then(jc t0 a).bind λc=>some (Ex.go ((aa .i64 (b+c)),(aa .i64 (a+1))))else some (Ex.brk b)
def vf(t0:Int) (t1:Int) (t2:Int):Option (Int×Int):=Aaa (if¬t0<1900 then if¬2199<t0 then if¬t2<1 then(jc t0 t1).bind λd=>some (decide (d<t2))else some true else some true else some true) λc=>if c=true then some (0,3)else(ca (Oc t0) ((aa .i64 (t2-1)),1900)).bind λy=>match y with |.inr _=>none |.inl a=>(ca (Nc t0 t1) (a,1)).bind λy=>match y with |.inr _=>none |.inl b=>some (b,0)
def jg(t0:Int) (t1:Int):Option (Int×Int):=Aaa ((gn t0).bind λd=>if d=true then if¬t1<(-3600)then some (decide (3600<t1))else some true else some true) λc=>if c=true then some (0,3)else(Pp t0).bind λa=>(jc (aa .i64 (Naa (aa .i64 ((aa .i64 ((aa .i64 ((aa .i64 (12*a.1))+a.2.1))-1))+t1)) 12)) (aa .i64 ((Taa (aa .i64 ((aa .i64 ((aa .i64 ((aa .i64 (12*a.1))+a.2.1))-1))+t1)) 12)+1))).bind λe=>(vf (aa .i64 (Naa (aa .i64 ((aa .i64 ((aa .i64 ((aa .i64 (12*a.1))+a.2.1))-1))+t1)) 12)) (aa .i64 ((Taa (aa .i64 ((aa .i64 ((aa .i64 ((aa .i64 (12*a.1))+a.2.1))-1))+t1)) 12)+1)) (min a.2.2 e)).bind λb=>some (b.1,b.2)
def ue(t0:Int) (t1:Int):Int->Option (Ex Int Empty Int):=λa=>(jg t0 (aa .i64 (12*(aa .i64 (a+1))))).bind λb=>Aaa (if b.2=0 then some (decide (t1<b.1))else some true) λc=>if c=true then some (Ex.ret a)else some (Ex.go (aa .i64 (a+1)))
def mj(t0:Int) (t1:Int):Option Int:=Aaa ((gn t0).bind λc=>if c=true then(gn t1).bind λd=>some (!d)else some true) λa=>if a=true then some 0 else(ca (ue t0 t1) 0).bind λy=>match y with |.inr v=>some v |.inl b=>b.elim
def ln(t0:Int) (t1:GValue) (t2:GValue):Option (GValue×Int):=if¬t1.a=5 then some ((GValue.mk 0 0 0),8)else Aaa (if¬t0=27 then some (t0==28)else some true) λg=>if g=true then if¬t2.a=2 then some ((GValue.mk 0 0 0),8)else if t0=27 then(xc 5 (aa .i64 (t1.N+t2.N))).bind λd=>some (d.1,d.2)else(jg t1.N t2.N).bind λe=>(qj 5 e.1 e.2).bind λf=>some (f.1,f.2)else if¬t2.a=5 then some ((GValue.mk 0 0 0),8)else if t0=29 then(xc 2 (aa .i64 (t2.N-t1.N))).bind λa=>some (a.1,a.2)else(mj t1.N t2.N).bind λc=>(xc 2 c).bind λb=>some (b.1,b.2)
def Hc(t0:Int) (t1:GValue) (t2:GValue):Option (GValue×Int):=Aaa (if t1.a=t2.a then some (t1.g !=t2.g)else some true) λr=>if r=true then some ((GValue.mk 0 0 0),8)else if t0=19 then(wh (t1.N==t2.N)).bind λp=>some (p.1,p.2)else if t0=20 then(wh (t1.N !=t2.N)).bind λq=>some (q.1,q.2)else Aaa (if t0=23 then some true else some (t0==24)) λs=>if s=true then if¬t1.a=1 then some ((GValue.mk 0 0 0),8)else Aaa (if¬(aa .i64 (t1.N+t2.N))=2 then if t0=24 then(wh ((aa .i64 (t1.N+t2.N))==1)).bind λa=>some (a.1.a,a.1.g,a.1.N,a.2)else(wh false).bind λb=>some (b.1.a,b.1.g,b.1.N,b.2)else(wh true).bind λc=>some (c.1.a,c.1.g,c.1.N,c.2)) λ(h,i,j,k)=>some ((GValue.mk h i j),k)else Aaa (if t0=11 then some true else some (t0==12)) λl=>if l=true then(En t1.a).bind λn=>if n=false then some ((GValue.mk 0 0 0),8)else if t0=11 then(xc t1.a (aa .i64 (t1.N+t2.N))).bind λd=>some (d.1,d.2)else(xc t1.a (aa .i64 (t1.N-t2.N))).bind λe=>some (e.1,e.2)else Aaa ((En t1.a).bind λo=>if o=false then some (t1.a !=5)else some false) λm=>if m=true then some ((GValue.mk 0 0 0),8)else if t0=21 then(wh (decide (t1.N<t2.N))).bind λf=>some (f.1,f.2)else if t0=22 then(wh (decide (t1.N<=t2.N))).bind λg=>some (g.1,g.2)else if(t0==17)=(decide (t1.N<t2.N))then some (t1,0)else some (t2,0)
def pb(t0:GNode) (t1:GValue) (t2:GValue):Option (GValue×Int):=Aaa (if 13<=t0.Op then some (decide (t0.Op<=16))else some false) λd=>if d=true then(Wc t0 t1 t2).bind λa=>some (a.1,a.2)else if 27<=t0.Op then(ln t0.Op t1 t2).bind λb=>some (b.1,b.2)else(Hc t0.Op t1 t2).bind λc=>some (c.1,c.2)
def Km(t1:List GValue):Int->Option (Ex Int Unit (GValue×Int)):=λa=>if a<(t1.length:Int)then (idx t1 a).bind λb=>(wb b).bind λc=>if c=false then some (Ex.ret ((GValue.mk 0 0 0),8))else some (Ex.go (aa .i64 (a+1)))else some (Ex.brk ())
def Wp(t0:GNode) (t1:List GValue) (t2:GEnv):Option (GValue×Int):=(Ut t0 (t1.length:Int)).bind λm=>if m=false then some ((GValue.mk 0 0 0),2)else(Tv t0 t2).bind λn=>if n=false then some ((GValue.mk 0 0 0),6)else(ca (Km t1) 0).bind λy=>match y with |.inr v=>some v |.inl _=>if(t1.length:Int)=0 then Aaa (if 36<=t0.Op then some (decide (t0.Op<=39))else some false) λh=>if h=true then(Ko t0 t2).bind λc=>some (c.1,c.2)else(xf t0 t2).bind λd=>some (d.1,d.2)else if(t1.length:Int)=1 then(idx t1 0).bind λj=>(Ld t0 j t2).bind λe=>some (e.1,e.2)else if(t1.length:Int)=2 then(idx t1 0).bind λk=>(idx t1 1).bind λl=>(pb t0 k l).bind λf=>some (f.1,f.2)else(idx t1 0).bind λg=>(idx t1 1).bind λa=>(idx t1 2).bind λb=>Aaa (if g.a=1 then if a.a=b.a then some (a.g !=b.g)else some true else some true) λi=>if i=true then some ((GValue.mk 0 0 0),8)else if g.N=1 then some (a,0)else some (b,0)
def Lm(t0:List GNode) (t2:GEnv) (g:List Int) (b:((List GNode)->Int->GEnv->Option (GValue×Int))):((List GValue)×Int)->Option (Ex ((List GValue)×Int) (List GValue) (GValue×Int)):=λ(f,c)=>if c<(g.length:Int)then (idx g c).bind λd=>(b t0 d t2).bind λa=>if¬a.2=0 then some (Ex.ret ((GValue.mk 0 0 0),a.2))else(app 24 f ([a.1])).bind λe=>some (Ex.go (e,(aa .i64 (c+1))))else some (Ex.brk f)
def Ol(a:((List GNode)->Int->GEnv->Option (GValue×Int))) (b:((List GNode)->Int->(List Int)->GEnv->Option (GValue×Int))) (t0:List GNode) (t1:Int) (t2:GEnv):Option (GValue×Int):=(Sp t0 t1).bind λf=>(idx t0 t1).bind λd=>Aaa (if¬d.Op=23 then if¬d.Op=24 then some (d.Op==26)else some true else some true) λh=>if h=true then(b t0 t1 f t2).bind λg=>some (g.1,g.2)else(ca (Lm t0 t2 f a) (([]:List GValue),0)).bind λy=>match y with |.inr v=>some v |.inl e=>(Wp d e t2).bind λc=>some (c.1,c.2)
def Vt(a:((List GNode)->Int->GEnv->Option (GValue×Int))) (R458:((List GNode)->Int->(List Int)->GEnv->Option (GValue×Int))) (t0:List GNode) (t1:Int) (t2:List Int) (f:GEnv):Option (GValue×Int):=(idx t0 t1).bind λh=>if¬h.N=0 then some ((GValue.mk 0 0 0),2)else(idx t2 0).bind λn=>(a t0 n f).bind λc=>if¬c.2=0 then some ((GValue.mk 0 0 0),c.2)else Aaa (if c.1.a=1 then(wb c.1).bind λo=>some (!o)else some true) λm=>if m=true then some ((GValue.mk 0 0 0),8)else if h.Op=26 then if c.1.N=1 then(idx t2 1).bind λi=>(a t0 i f).bind λd=>some (d.1,d.2)else(idx t2 2).bind λj=>(a t0 j f).bind λe=>some (e.1,e.2)else if(h.Op==23)=(c.1.N==0)then some (c.1,0)else(idx t2 1).bind λk=>(a t0 k f).bind λb=>if¬b.2=0 then some ((GValue.mk 0 0 0),b.2)else Aaa (if b.1.a=1 then(wb b.1).bind λl=>some (!l)else some true) λg=>if g=true then some ((GValue.mk 0 0 0),8)else some (b.1,0)
def Fa:Nat->((List GNode)->Int->GEnv->Option (GValue×Int))×((List GNode)->Int->(List Int)->GEnv->Option (GValue×Int)) |0=>(λ_ _ _=>none,λ_ _ _ _=>none) |n+1=>(Ol (Fa n).1 (Fa n).2,Vt (Fa n).1 (Fa n).2)
def Cy(t0:List GNode) (t1:Int) (t2:GEnv):Option (GValue×Int):=(Fa tf).1 t0 t1 t2
def LK(t0:List GNode) (t1:Int) (t2:List Int) (a:GEnv):Option (GValue×Int):=(Fa tf).2 t0 t1 t2 a
def Su(t0:List GNode) (t1:GEnv):Option (GValue×Int):=(Mw t0).bind λa=>if¬a.2=0 then some ((GValue.mk 0 0 0),a.2)else(Cy t0 (aa .i64 ((t0.length:Int)-1)) t1).bind λb=>some (b.1,b.2)
def Qk(t0:List Int) (t1:List Int):Int->Option (Ex Int Unit Int):=λa=>if a<(t0.length:Int)then Aaa ((idx t0 a).bind λc=>if¬c<(-1)then some (decide (a<=c))else some true) λe=>if e=true then some (Ex.ret 9)else Aaa ((idx t1 a).bind λd=>if¬d<0 then some (decide (9<d))else some true) λb=>if b=true then some (Ex.ret 3)else some (Ex.go (aa .i64 (a+1)))else some (Ex.brk ())
def Yp(t0:List Int) (t1:List Int):Option Int:=if¬(t0.length:Int)=(t1.length:Int)then some 2 else if 8<(t0.length:Int)then some 4 else(ca (Qk t0 t1) 0).bind λy=>match y with |.inr v=>some v |.inl _=>some 0
def Pk(t0:List Int) (t1:Int):((List Int)×Int)->Option (Ex ((List Int)×Int) (List Int) Unit):=λ(s1,s2)=>if s2<(t0.length:Int)then Aaa ((idx t0 s2).bind λb=>if b=t1 then(app 8 s1 ([s2])).bind λc=>some c else some s1) λa=>some (Ex.go (a,(aa .i64 (s2+1))))else some (Ex.brk s1)
def Xp(t0:List Int) (t1:Int):Option (List Int):=(ca (Pk t0 t1) ([],0)).bind λy=>match y with |.inr _=>none |.inl a=>some a
def Mm(R347:((List Int)->(List Int)->(List Bool)->Int->Option Int)) (a:((List Int)->(List Int)->(List Bool)->Int->Option (List Int))) (b:((List Int)->(List Int)->(List Bool)->Int->Option Int)) (t0:List Int) (t1:List Int) (t2:List Bool) (d:Int):Option Int:=(a t0 t1 t2 d).bind λc=>if(c.length:Int)=0 then some (-1)else if 1<(c.length:Int)then some (-2)else(idx c 0).bind λe=>(b t0 t1 t2 e).bind λf=>some f
def rv(t0:List Int) (t1:List Int) (t2:List Bool) (n:List Int) (b:((List Int)->(List Int)->(List Bool)->Int->Option Int)):((List Int)×Int)->Option (Ex ((List Int)×Int) (List Int) Unit):=λ(s2,g)=>if g<(n.length:Int)then Aaa ((idx n g).bind λc=>(b t0 t1 t2 c).bind λo=>if o=(-1)then some s2 else Aaa (Aaa (if 0<(s2.length:Int)then (idx t1 c).bind λp=>(idx s2 0).bind λh=>(idx t1 h).bind λi=>some (decide (i<p))else some false) λd=>if d=true then some ([])else some s2) λa=>Aaa (if¬(a.length:Int)=0 then(idx t1 c).bind λj=>(idx a 0).bind λk=>(idx t1 k).bind λl=>some (j==l)else some true) λe=>if e=true then(app 8 a ([c])).bind λm=>some m else some a) λf=>some (Ex.go (f,(aa .i64 (g+1))))else some (Ex.brk s2)
def Xt(R347:((List Int)->(List Int)->(List Bool)->Int->Option Int)) (R348:((List Int)->(List Int)->(List Bool)->Int->Option (List Int))) (a:((List Int)->(List Int)->(List Bool)->Int->Option Int)) (t0:List Int) (t1:List Int) (t2:List Bool) (c:Int):Option (List Int):=(Xp t0 c).bind λd=>(ca (rv t0 t1 t2 d a) ([],0)).bind λy=>match y with |.inr _=>none |.inl b=>some b
def ko(a:((List Int)->(List Int)->(List Bool)->Int->Option Int)) (R348:((List Int)->(List Int)->(List Bool)->Int->Option (List Int))) (R460:((List Int)->(List Int)->(List Bool)->Int->Option Int)) (t0:List Int) (t1:List Int) (t2:List Bool) (b:Int):Option Int:=(a t0 t1 t2 b).bind λc=>Aaa (if c=(-1)then (idx t2 b).bind λe=>some e else some false) λd=>if d=true then some b else some c
def ja:Nat->((List Int)->(List Int)->(List Bool)->Int->Option Int)×((List Int)->(List Int)->(List Bool)->Int->Option (List Int))×((List Int)->(List Int)->(List Bool)->Int->Option Int) |0=>(λ_ _ _ _=>none,λ_ _ _ _=>none,λ_ _ _ _=>none) |n+1=>(Mm (ja n).1 (ja n).2.1 (ja n).2.2,Xt (ja n).1 (ja n).2.1 (ja n).2.2,ko (ja n).1 (ja n).2.1 (ja n).2.2)
def Yt(t0:List Int) (t1:List Int) (t2:List Bool) (a:Int):Option Int:=(ja tf).1 t0 t1 t2 a
def OK(t0:List Int) (t1:List Int) (t2:List Bool) (a:Int):Option (List Int):=(ja tf).2.1 t0 t1 t2 a
def KD(t0:List Int) (t1:List Int) (t2:List Bool) (a:Int):Option Int:=(ja tf).2.2 t0 t1 t2 a
def Wt(t0:List Int) (t1:List Int) (t2:List Bool):Option Int:=Aaa ((Yp t0 t1).bind λb=>if b=0 then some ((t2.length:Int) !=(t0.length:Int))else some true) λa=>if a=true then some (-1)else(Yt t0 t1 t2 (-1)).bind λc=>some c
def Ue(t0:GLaw) (t1:List GValue) (t2:List GField):Int->Option (Ex Int Unit (Int×Int)):=λa=>if a<(t1.length:Int)then (idx t1 a).bind λc=>(idx t2 a).bind λe=>Aaa (if c.a=e.ai.a then some (c.g !=e.ai.g)else some true) λf=>if f=true then some (Ex.ret (a,8))else(Cc e.ai t0.q).bind λb=>Aaa (if¬c.N<b.1 then some (decide (b.2<c.N))else some true) λd=>if d=true then some (Ex.ret (a,3))else some (Ex.go (aa .i64 (a+1)))else some (Ex.brk ())
def Te(t0:GLaw) (t1:List GValue) (t2:List GField):Option (Int×Int):=if(t1.length:Int)<(t2.length:Int)then some ((t1.length:Int),5)else if(t2.length:Int)<(t1.length:Int)then some ((t2.length:Int),4)else(ca (Ue t0 t1 t2) 0).bind λy=>match y with |.inr v=>some v |.inl _=>some (0,0)
def sg(t0:GLaw) (t1:Int):Option ((List GField)×Int):=(idx t0.e t1).bind λa=>Aaa (if¬a.z<0 then some (decide ((t0.e.length:Int)<=a.z))else some true) λb=>if b=true then some ([],0)else(idx t0.e a.z).bind λc=>some (c.u,8)
def qh(t0:GLaw) (t2:GCase) (c:((List GField)×Int)):Int->Option (Ex Int Unit (Int×Int×Int)):=λa=>if a<(t2.r.length:Int)then (idx t2.r a).bind λd=>(Te t0 d c.1).bind λb=>if¬b.2=0 then some (Ex.ret (a,b.1,b.2))else some (Ex.go (aa .i64 (a+1)))else some (Ex.brk ())
def ik(t0:GLaw) (t1:Int) (t2:GCase):Option (Int×Int×Int):=Aaa (if¬t1<0 then some (decide ((t0.e.length:Int)<=t1))else some true) λc=>if c=true then some ((-1),(-1),6)else Aaa (if¬t2.ae<0 then some (decide (109572<t2.ae))else some true) λd=>if d=true then some ((-1),(-1),3)else(idx t0.e t1).bind λe=>(Te t0 t2.u e.u).bind λb=>if¬b.2=0 then some ((-1),b.1,b.2)else(sg t0 t1).bind λa=>if a.2<(t2.r.length:Int)then some (a.2,(-1),4)else(ca (qh t0 t2 a) 0).bind λy=>match y with |.inr v=>some v |.inl _=>some (0,0,0)
def Pb(t0:GLaw) (t1:Int) (t2:GCase) (d:Bool) (b:Int):Option GEvalError:=(xn t0).bind λe=>if¬e.Code=0 then some (GEvalError.mk 1 (-1) (-1) (-1))else Aaa (if¬t1<0 then if¬(t0.e.length:Int)<=t1 then if d=true then if¬b<0 then(idx t0.e t1).bind λf=>some (decide ((f.d.length:Int)<=b))else some true else some false else some true else some true) λc=>if c=true then some (GEvalError.mk 6 (-1) (-1) (-1))else(ik t0 t1 t2).bind λa=>if¬a.2.2=0 then some (GEvalError.mk a.2.2 a.1 (-1) (-1))else some (GEvalError.mk 0 0 0 0)
def Qg(t0:GScope) (t1:GEnv) (t2:Int) (j:Int) (g:((List Int)×(List Int)×(List Int))):((List Bool)×Int)->Option (Ex ((List Bool)×Int) (List Bool) (Int×GEvalError)):=λ(c,a)=>if a<(g.1.length:Int)then Aaa ((idx g.1 a).bind λh=>(idx t0.f h).bind λi=>if(i.ac.length:Int)=0 then(idx c a).bind λx9=>(put c a true).bind λe=>some (Sum.inl e)else(Wj i.ac t1).bind λb=>if¬b.2=0 then some (Sum.inr (Ex.ret (0,(GEvalError.mk b.2 t2 j h))))else(idx c a).bind λx13=>(put c a (b.1.N==1)).bind λf=>some (Sum.inl f)) λz=>match z with |.inr v=>some v |.inl d=>some (Ex.go (d,(aa .i64 (a+1))))else some (Ex.brk c)
def He(t0:GScope) (t1:GEnv) (t2:Int) (e:Int):Option (Int×GEvalError):=(om t0 e t1.ae).bind λb=>(UB 1 false (b.1.length:Int) (b.1.length:Int)).bind λf=>(ca (Qg t0 t1 t2 e b) (f,0)).bind λy=>match y with |.inr v=>some v |.inl c=>(Ao b.2.1 b.2.2 c).bind λa=>if a<0 then some (a,(GEvalError.mk 0 0 0 0))else(idx b.1 a).bind λd=>some (d,(GEvalError.mk 0 0 0 0))
def Xe(t0:GScope):Option ((List Int)×Int):=(Gc t0).bind λx=>some (Qu x)
def cc(t0:GScope) (t1:GEnv) (t2:Int) (m:List Bool) (l:((List Int)×Int)):((List GValue)×(List Int)×Int)->Option (Ex ((List GValue)×(List Int)×Int) ((List GValue)×(List Int)) (((List Int)×GEvalError)×GEnv)):=λ(b,e,h)=>if h<(l.1.length:Int)then Aaa ((idx l.1 h).bind λc=>(idx m c).bind λn=>if n=false then some (Sum.inl (b,e))else(He t0 (GEnv.mk t1.ae t1.u b t1.r t1.al t1.Tables) t2 c).bind λa=>if¬a.2.Code=0 then some (Sum.inr (Ex.ret (([],a.2),(GEnv.mk t1.ae t1.u b t1.r t1.al t1.Tables))))else if a.1=(-1)then some (Sum.inr (Ex.ret (([],(GEvalError.mk 10 t2 c (-1))),(GEnv.mk t1.ae t1.u b t1.r t1.al t1.Tables))))else if a.1=(-2)then some (Sum.inr (Ex.ret (([],(GEvalError.mk 11 t2 c (-1))),(GEnv.mk t1.ae t1.u b t1.r t1.al t1.Tables))))else(idx t0.f a.1).bind λi=>(Wj i.Value (GEnv.mk t1.ae t1.u b t1.r t1.al t1.Tables)).bind λd=>if¬d.2=0 then some (Sum.inr (Ex.ret (([],(GEvalError.mk d.2 t2 c a.1)),(GEnv.mk t1.ae t1.u b t1.r t1.al t1.Tables))))else(idx b c).bind λx18=>(put b c d.1).bind λj=>(idx e c).bind λx20=>(put e c a.1).bind λk=>some (Sum.inl (j,k))) λz=>match z with |.inr v=>some v |.inl (f,g)=>some (Ex.go (f,g,(aa .i64 (h+1))))else some (Ex.brk (b,e))
def Ca(t0:GScope) (t1:GEnv) (t2:Int) (c:List Bool):Option (((List Int)×GEvalError)×GEnv):=(UB 24 (GValue.mk 0 0 0) (t0.d.length:Int) (t0.d.length:Int)).bind λd=>(UB 8 0 (t0.d.length:Int) (t0.d.length:Int)).bind λe=>(Xe t0).bind λf=>(ca (cc t0 t1 t2 c f) (d,e,0)).bind λy=>match y with |.inr v=>some v |.inl (a,b)=>some ((b,(GEvalError.mk 0 0 0 0)),(GEnv.mk t1.ae t1.u a t1.r t1.al t1.Tables))
def Pg(a:GInterp_needs):((List GType)×Int)->Option (Ex ((List GType)×Int) (List GType) Unit):=λ(s1,s2)=>if s2<(a.memberScope.d.length:Int)then (idx a.memberScope.d s2).bind λb=>(app 16 s1 ([b.ai])).bind λc=>some (Ex.go (c,(aa .i64 (s2+1))))else some (Ex.brk s1)
def Og(t0:GLaw) (t2:GCase) (h:GInterp_needs):((List (List GValue))×(List GMemberResult)×Int)->Option (Ex ((List (List GValue))×(List GMemberResult)×Int) ((List (List GValue))×(List GMemberResult)) (GResult×GEnv×GEvalError)):=λ(g,c,b)=>if b<(t2.r.length:Int)then (idx t2.r b).bind λd=>(Ca h.memberScope (GEnv.mk t2.ae d ([]) ([]) ([]) t0.Tables) b h.memberDefs).bind λa=>if¬a.1.2.Code=0 then some (Ex.ret ((GResult.mk ([]) ([]) ([])),(GEnv.mk 0 ([]) ([]) ([]) ([]) ([])),a.1.2))else(app 24 g ([a.2.d])).bind λe=>(app 48 c ([(GMemberResult.mk a.2.d a.1.1)])).bind λf=>some (Ex.go (e,f,(aa .i64 (b+1))))else some (Ex.brk (g,c))
def eg(t0:GLaw) (t1:Int) (t2:GCase) (b:GInterp_needs):Option (GResult×GEnv×GEvalError):=(ca (Pg b) (([]:List GType),0)).bind λy=>match y with |.inr _=>none |.inl e=>(ca (Og t0 t2 b) (([]:List (List GValue)),([]:List GMemberResult),0)).bind λy=>match y with |.inr v=>some v |.inl (c,d)=>(Ca b.scope (GEnv.mk t2.ae t2.u ([]) c e t0.Tables) (-1) b.defs).bind λa=>if¬a.1.2.Code=0 then some ((GResult.mk ([]) ([]) ([])),(GEnv.mk 0 ([]) ([]) ([]) ([]) ([])),a.1.2)else some ((GResult.mk a.2.d a.1.1 d),a.2,(GEvalError.mk 0 0 0 0))
def Vr(e:List Int):((List Bool)×Int)->Option (Ex ((List Bool)×Int) (List Bool) Unit):=λ(c,a)=>if a<(e.length:Int)then (idx e a).bind λb=>(idx c b).bind λx13=>(put c b true).bind λd=>some (Ex.go (d,(aa .i64 (a+1))))else some (Ex.brk c)
def Ui(t0:GScope) (d:List Bool):((List Int)×Int)->Option (Ex ((List Int)×Int) (List Int) Unit):=λ(b,c)=>if c<(t0.f.length:Int)then Aaa ((idx t0.f c).bind λa=>Aaa (if¬a.s<0 then if¬(t0.d.length:Int)<=a.s then(idx d a.s).bind λg=>some (!g)else some true else some true) λe=>if e=true then some b else(bg a.ac).bind λh=>(bg a.Value).bind λi=>(app 8 b h.2.2).bind λj=>(app 8 j i.2.2).bind λk=>some k) λf=>some (Ex.go (f,(aa .i64 (c+1))))else some (Ex.brk b)
def Zh(t0:GScope) (t1:Int):Option (List Int):=Aaa (if¬t1<0 then some (decide ((t0.d.length:Int)<=t1))else some true) λe=>if e=true then some ([])else(UB 1 false (t0.d.length:Int) (t0.d.length:Int)).bind λd=>(idx d t1).bind λx5=>(put d t1 true).bind λf=>(Gc t0).bind λg=>(qk g t1).bind λh=>(ca (Vr h) (f,0)).bind λy=>match y with |.inr _=>none |.inl a=>(ca (Ui t0 a) (([]:List Int),0)).bind λy=>match y with |.inr _=>none |.inl b=>(Vi b).bind λc=>some c
def Wq(t0:GPayConfig):Option Bool:=some (decide ((t0.ar.am.length:Int)<=70))
def Ns(t0:Int):Option Bool:=Aaa (if 0<=t0 then some (decide (t0<=3599))else some false) λa=>some a
def wA(t0:Int):Option Int:=(Ns t0).bind λa=>if a=false then some 0 else(Gd (aa .i64 (1900+(aa .i64 (Naa t0 12)))) (aa .i64 ((Taa t0 12)+1))).bind λb=>some b
def Kv(t0:Int):Option (GDateRange×Int):=(Ns t0).bind λb=>if b=false then some ((GDateRange.mk 0 0),3)else(lk (aa .i64 (1900+(aa .i64 (Naa t0 12)))) (aa .i64 ((Taa t0 12)+1)) 1).bind λa=>if¬a.2=0 then some ((GDateRange.mk 0 0),a.2)else(wA t0).bind λc=>some ((GDateRange.mk a.1 (aa .i64 (a.1+c))),0)
def cp(t0:Int):Option Bool:=Aaa (if 0<=t0 then some (decide (t0<=109572))else some false) λa=>some a
def fc(t0:GCalendar):Int->Option (Ex Int Unit Bool):=λa=>if a<(t0.am.length:Int)then (idx t0.am a).bind λd=>Aaa ((cp d).bind λe=>if e=true then if 0<a then(idx t0.am (aa .i64 (a-1))).bind λc=>some (decide (d<=c))else some false else some true) λb=>if b=true then some (Ex.ret false)else some (Ex.go (aa .i64 (a+1)))else some (Ex.brk ())
def kh(t0:GCalendar):Option Bool:=Aaa (if¬t0.aw<0 then if¬126<t0.aw then some (decide (64<(t0.am.length:Int)))else some true else some true) λa=>if a=true then some false else(ca (fc t0) 0).bind λy=>match y with |.inr v=>some v |.inl _=>some true
def Ra(t0:GLaw) (t1:Int) (t2:GPayConfig):Option Int:=(xn t0).bind λb=>if¬(b.Code=0/\b.a5=0/\b.a6=0/\b.a7=0)then some 1 else Aaa (if¬t1<0 then if¬(t0.e.length:Int)<=t1 then if¬t2.s<0 then(idx t0.e t1).bind λk=>some (decide ((k.d.length:Int)<=t2.s))else some true else some true else some true) λj=>if j=true then some 6 else(idx t0.e t1).bind λl=>(idx l.d t2.s).bind λa=>if¬(a.ai.a=3/\a.ai.g=0)then some 8 else Aaa (if¬t2.an<0 then if¬5<t2.an then(kh t2.ar).bind λi=>some (!i)else some true else some true) λc=>if c=true then some 1 else Aaa (Aaa (if¬t2.ay<1 then some (decide (28<t2.ay))else some true) λd=>if d=true then some true else Aaa (if¬t2.az<0 then some (decide (1000000<t2.az))else some true) λe=>if e=true then some true else Aaa (if¬t2.a0<0 then some (decide (1000000000000000<t2.a0))else some true) λf=>if f=true then some true else Aaa (if¬t2.a1<0 then some (decide (3599<t2.a1))else some true) λg=>if g=true then some true else if¬t2.a2<0 then some (decide (365<t2.a2))else some true) λh=>if h=true then some 3 else some 0
def Kd(t0:GLaw) (t1:Int):Option ((List GField)×Bool):=(idx t0.e t1).bind λa=>Aaa (if¬a.z<0 then some (decide ((t0.e.length:Int)<=a.z))else some true) λb=>if b=true then some ([],false)else(idx t0.e a.z).bind λc=>some (c.u,true)
def vm(t0:GDateRange):Option Bool:=Aaa ((xd t0).bind λb=>if b=true then some (decide (t0.n<t0.To))else some false) λa=>some a
def ei(t0:GFact):Option Int:=if t0.Id<0 then some 3 else Aaa (if¬t0.ak<(-1)then some (decide (8<=t0.ak))else some true) λe=>if e=true then some 3 else Aaa (if¬t0.aj<(-1)then some (decide (12<=t0.aj))else some true) λf=>if f=true then some 3 else Aaa (if t0.ak=(-1)then some (t0.aj==(-1))else some false) λg=>if g=true then some 3 else(vm t0.w).bind λd=>if d=false then some 3 else Aaa (if¬t0.af<0 then some (decide (109572<t0.af))else some true) λa=>if a=true then some 3 else Aaa (if¬t0.Value.a<1 then some (decide (6<t0.Value.a))else some true) λb=>if b=true then some 8 else Aaa (if t0.aj=(-1)then some (t0.Value.a !=1)else some false) λc=>if c=true then some 8 else some 0
def Hf:Int->List Int->List GFact->Option (Int×Int) |_,_,[]=>some (0,0) |i,seen,f::l=>(ei f).bind λc=>if¬c=0 then some (i,c)else if seen.contains f.Id then some (i,7)else Hf (i+1) (f.Id::seen) l
def um(t0:List GFact):Option (Int×Int):=if 128<(t0.length:Int)then some (0,4)else Hf 0 [] t0
def xg(t0:GLaw) (t1:GHousehold) (l:((List GField)×Bool)):Int->Option (Ex Int Unit (Int×Int)):=λb=>if b<(t1.aa.length:Int)then (idx t1.aa b).bind λa=>if t1.r<=a.ak then some (Ex.ret (b,6))else Aaa (if a.ak=(-1)then (idx t0.e t1.ah).bind λk=>some k.u else some l.1) λc=>Aaa (if¬a.aj=(-1)then Aaa (if¬a.aj<0 then some (decide ((c.length:Int)<=a.aj))else some true) λh=>if h=true then some (Sum.inr (Ex.ret (b,6)))else(idx c a.aj).bind λf=>some (Sum.inl (f.ai.a,f.ai.g))else some (Sum.inl (1,0))) λz=>match z with |.inr v=>some v |.inl (d,e)=>Aaa (if a.Value.a=d then some (a.Value.g !=e)else some true) λi=>if i=true then some (Ex.ret (b,8))else(Cc (GType.mk d e) t0.q).bind λg=>Aaa (if¬a.Value.N<g.1 then some (decide (g.2<a.Value.N))else some true) λj=>if j=true then some (Ex.ret (b,3))else some (Ex.go (aa .i64 (b+1)))else some (Ex.brk ())
def Jg(t0:GLaw) (t1:GHousehold):Option (Int×Int):=Aaa (if¬t1.ah<0 then some (decide ((t0.e.length:Int)<=t1.ah))else some true) λc=>if c=true then some ((-1),6)else(Kd t0 t1.ah).bind λb=>Aaa (if¬t1.Id<0 then if¬t1.r<0 then if¬8<t1.r then if¬t1.r=0 then some (!b.2)else some false else some true else some true else some true) λd=>if d=true then some ((-1),3)else(um t1.aa).bind λa=>if¬a.2=0 then some (a.1,a.2)else(ca (xg t0 t1 b) 0).bind λy=>match y with |.inr v=>some v |.inl _=>some (0,0)
def Ae(t0:GLaw) (t1:GHousehold) (t2:GPayConfig):Option Bool:=(Ra t0 t1.ah t2).bind λa=>if¬a=0 then some false else(Jg t0 t1).bind λb=>some (b.2==0)
def Zr(t0:GFact) (t1:GFact):Option Bool:=if¬t0.af=t1.af then some (decide (t1.af<t0.af))else some (decide (t1.Id<t0.Id))
def Kl(t0:List GFact) (t1:Int) (t2:Int) (g:Int) (h:Int):(Int×Int)->Option (Ex (Int×Int) Int Unit):=λ(s1,s2)=>if s2<(t0.length:Int)then Aaa ((idx t0 s2).bind λa=>Aaa (if a.ak=t1 then if a.aj=t2 then if¬h<a.af then(Lb a.w g).bind λi=>some (!i)else some true else some true else some true) λf=>if f=true then some s1 else Aaa (if¬s1<0 then(idx t0 s1).bind λd=>(Zr a d).bind λe=>some e else some true) λb=>if b=true then some s2 else some s1) λc=>some (Ex.go (c,(aa .i64 (s2+1))))else some (Ex.brk s1)
def Jl(t0:List GFact) (t1:Int) (t2:Int) (c:Int) (d:Int):Option (GValue×Bool):=(ca (Kl t0 t1 t2 c d) ((-1),0)).bind λy=>match y with |.inr _=>none |.inl a=>if a<0 then some ((GValue.mk 0 0 0),false)else(idx t0 a).bind λb=>some (b.Value,true)
def re(t0:List GFact) (t1:Int) (c:Int) (d:Int) (e:List GValue):((List GValue)×Int)->Option (Ex ((List GValue)×Int) (List GValue) ((List GValue)×Bool)):=λ(s2,a)=>if a<(e.length:Int)then (Jl t0 t1 a c d).bind λb=>if b.2=false then some (Ex.ret ([],false))else(idx s2 a).bind λx7=>(put s2 a b.1).bind λf=>some (Ex.go (f,(aa .i64 (a+1))))else some (Ex.brk s2)
def Pe(t0:List GFact) (t1:Int) (t2:Int) (c:Int) (d:Int):Option ((List GValue)×Bool):=(UB 24 (GValue.mk 0 0 0) t2 t2).bind λb=>(ca (re t0 t1 c d b) (b,0)).bind λy=>match y with |.inr v=>some v |.inl a=>some (a,true)
def Jf(t0:GHousehold) (t1:Int) (t2:Int):((List Int)×Int)->Option (Ex ((List Int)×Int) (List Int) Unit):=λ(s1,s2)=>if s2<(min (max t0.r 0) 8)then Aaa ((Jl t0.aa s2 (-1) t1 t2).bind λb=>Aaa (if b.2=true then if b.1.a=1 then some (b.1.N==1)else some false else some false) λc=>if c=true then(app 8 s1 ([s2])).bind λd=>some d else some s1) λa=>some (Ex.go (a,(aa .i64 (s2+1))))else some (Ex.brk s1)
def ui(t0:GHousehold) (t1:Int) (t2:Int):Option (List Int):=(ca (Jf t0 t1 t2) (([]:List Int),0)).bind λy=>match y with |.inr _=>none |.inl a=>some a
def Zl(t1:GHousehold) (t2:Int) (h:Int) (e:((List GField)×Bool)) (c:List Int):((List (List GValue))×Int)->Option (Ex ((List (List GValue))×Int) (List (List GValue)) (GCase×Int)):=λ(b,a)=>if a<(c.length:Int)then (idx c a).bind λf=>(Pe t1.aa f (e.1.length:Int) t2 h).bind λd=>if d.2=false then some (Ex.ret ((GCase.mk 0 ([]) ([])),6))else(app 24 b ([d.1])).bind λg=>some (Ex.go (g,(aa .i64 (a+1))))else some (Ex.brk b)
def Ig(t0:GLaw) (t1:GHousehold) (t2:Int) (c:Int):Option (GCase×Int):=(xn t0).bind λa=>if¬(a.Code=0/\a.a5=0/\a.a6=0/\a.a7=0)then some ((GCase.mk 0 ([]) ([])),1)else(Jg t0 t1).bind λh=>if¬h.2=0 then some ((GCase.mk 0 ([]) ([])),1)else Aaa (if¬t2<0 then some (decide (109572<t2))else some true) λg=>if g=true then some ((GCase.mk 0 ([]) ([])),3)else(idx t0.e t1.ah).bind λi=>(Pe t1.aa (-1) (i.u.length:Int) t2 c).bind λf=>if f.2=false then some ((GCase.mk 0 ([]) ([])),6)else(Kd t0 t1.ah).bind λd=>(ui t1 t2 c).bind λe=>(ca (Zl t1 t2 c d e) (([]:List (List GValue)),0)).bind λy=>match y with |.inr v=>some v |.inl b=>some ((GCase.mk t2 f.1 b),0)
def Ph(t0:GLaw) (t1:Int):Option (ByteArray×Int×(List GField)×(List GField)×(List GRule)×ByteArray×Int×(List GField)×(List GField)×(List GRule)×(List Bool)×(List Bool)):=(idx t0.e t1).bind λa=>(UB 1 false (a.d.length:Int) (a.d.length:Int)).bind λi=>Aaa (if 0<=a.z then(idx t0.e a.z).bind λb=>(UB 1 false (b.d.length:Int) (b.d.length:Int)).bind λj=>some (b.j,b.z,b.u,b.d,b.f,j)else some ((Gaa #[]),0,([]:List GField),([]:List GField),([]:List GRule),([]:List Bool))) λ(g,h,c,d,e,f)=>some (a.j,a.z,a.u,a.d,a.f,g,h,c,d,e,i,f)
def Ng(c:List Int):((List Bool)×Int)->Option (Ex ((List Bool)×Int) (List Bool) Unit):=λ(a,b)=>if b<(c.length:Int)then (idx c b).bind λd=>(idx a d).bind λx33=>(put a d true).bind λe=>some (Ex.go (e,(aa .i64 (b+1))))else some (Ex.brk a)
def tn(c:List Int):((List Bool)×Int)->Option (Ex ((List Bool)×Int) (List Bool) Unit):=λ(a,b)=>if b<(c.length:Int)then (idx c b).bind λd=>(idx a d).bind λx50=>(put a d true).bind λe=>some (Ex.go (e,(aa .i64 (b+1))))else some (Ex.brk a)
def Kg(d:ByteArray) (e:Int) (f:List GField) (g:List GField) (h:List GRule) (b:List Bool) (a:Int):Option (List Bool):=(idx b a).bind λx43=>(put b a true).bind λi=>(Fc (GScope.mk d e f g h) a).bind λj=>(ca (tn j) (i,0)).bind λy=>match y with |.inr _=>none |.inl c=>some c
def Mg(d:ByteArray) (e:Int) (f:List GField) (g:List GField) (h:List GRule) (c:List Int):((List Bool)×Int)->Option (Ex ((List Bool)×Int) (List Bool) Unit):=λ(b,a)=>if a<(c.length:Int)then (idx c a).bind λj=>(Kg d e f g h b j).bind λi=>some (Ex.go (i,(aa .i64 (a+1))))else some (Ex.brk b)
def Lg(g:Int) (a:ByteArray) (b:Int) (c:List GField) (d:List GField) (e:List GRule) (j:ByteArray) (k:Int) (l:List GField) (m:List GField) (n:List GRule) (f:List Bool) (o:List Bool):Option ((List Bool)×(List Bool)):=(idx f g).bind λx26=>(put f g true).bind λp=>(Fc (GScope.mk a b c d e) g).bind λq=>(ca (Ng q) (p,0)).bind λy=>match y with |.inr _=>none |.inl h=>(Zh (GScope.mk a b c d e) g).bind λr=>(ca (Mg j k l m n r) (o,0)).bind λy=>match y with |.inr _=>none |.inl i=>some (h,i)
def bc(t0:GLaw) (t1:Int) (t2:GCase) (l:Int):Option (GValue×Int×GEvalError):=(Pb t0 t1 t2 true l).bind λs=>if¬s.Code=0 then some ((GValue.mk 0 0 0),0,s)else(Ph t0 t1).bind λ(b,c,d,e,f,g,h,i,j,k,m,n)=>(Lg l b c d e f g h i j k m n).bind λ(o,p)=>(eg t0 t1 t2 (GInterp_needs.mk (GScope.mk b c d e f) (GScope.mk g h i j k) o p)).bind λa=>if¬a.2.2.Code=0 then some ((GValue.mk 0 0 0),0,a.2.2)else(idx a.1.a3 l).bind λq=>(idx a.1.f l).bind λr=>some (q,r,(GEvalError.mk 0 0 0 0))
def ud(t0:GLaw) (t1:GHousehold) (t2:GPayConfig) (e:List GDateRange) (f:Int):(Int×Int×Int)->Option (Ex (Int×Int×Int) (Int×Int) (Int×Int)):=λ(s1,s2,b)=>if b<(e.length:Int)then (idx e b).bind λa=>(Ig t0 t1 a.n f).bind λc=>if¬c.2=0 then some (Ex.ret (0,c.2))else(bc t0 t1.ah c.1 t2.s).bind λd=>if¬d.2.2.Code=0 then some (Ex.ret (0,d.2.2.Code))else some (Ex.go ((aa .i64 (s1+(aa .i64 (d.1.N*(aa .i64 (a.To-a.n)))))),(aa .i64 (s2+(aa .i64 (a.To-a.n)))),(aa .i64 (b+1))))else some (Ex.brk (s1,s2))
def pn(t0:GLaw) (t1:GHousehold) (t2:GPayConfig) (d:List GDateRange) (e:Int):Option (Int×Int):=(ca (ud t0 t1 t2 d e) (0,0,0)).bind λy=>match y with |.inr v=>some v |.inl (b,c)=>(Mf b c t2.an).bind λa=>if¬a.2=0 then some (0,a.2)else some ((max a.1 0),0)
def cmp_isNaN_int(t0:Int):Option Bool:=some false
def cmp_Less_int(t0:Int) (t1:Int):Option Bool:=Aaa ((cmp_isNaN_int t0).bind λb=>if b=true then(cmp_isNaN_int t1).bind λc=>if c=true then some (decide (t0<t1))else some true else some (decide (t0<t1))) λa=>some a
def bn(t0:Int):Option Bool:=some false
def Md(t0:List Int) (t1:Int):(Int×Int)->Option (Ex (Int×Int) Int Unit):=λ(s1,s2)=>if s1<s2 then(idx t0 (aa .i64 (Oae (aa .u64 (aa .i64 (s1+s2))) 2))).bind λa=>(cmp_Less_int a t1).bind λb=>if b=true then some (Ex.go ((aa .i64 ((aa .i64 (Oae (aa .u64 (aa .i64 (s1+s2))) 2))+1)),s2))else some (Ex.go (s1,(aa .i64 (Oae (aa .u64 (aa .i64 (s1+s2))) 2))))else some (Ex.brk s1)
def Xc(t0:List Int) (t1:Int):Option (Int×Bool):=(ca (Md t0 t1) (0,(t0.length:Int))).bind λy=>match y with |.inr _=>none |.inl b=>Aaa (if b<(t0.length:Int)then (idx t0 b).bind λa=>if¬a=t1 then(bn a).bind λd=>if d=true then(bn t1).bind λe=>some e else some false else some true else some false) λc=>some (b,c)
def Jr(t0:GDateRange) (t1:List Int):(Int×(List GDateRange)×Int)->Option (Ex (Int×(List GDateRange)×Int) (Int×(List GDateRange)) Unit):=λ(s2,c,a)=>Aaa (if a<(t1.length:Int)then (idx t1 a).bind λf=>some (decide (f<t0.To))else some false) λe=>if e=true then(idx t1 a).bind λd=>(app 16 c ([(GDateRange.mk s2 d)])).bind λb=>some (Ex.go (d,b,(aa .i64 (a+1))))else some (Ex.brk (s2,c))
def bt(t0:GDateRange) (t1:List Int):Option (List GDateRange):=(Xc t1 (aa .i64 (t0.n+1))).bind λd=>(ca (Jr t0 t1) (t0.n,([]:List GDateRange),d.1)).bind λy=>match y with |.inr _=>none |.inl (a,b)=>(app 16 b ([(GDateRange.mk a t0.To)])).bind λc=>some c
def Ve(t0:List GDateRange):((List Int)×Int)->Option (Ex ((List Int)×Int) (List Int) Unit):=λ(s1,s2)=>if s2<(t0.length:Int)then Aaa ((idx t0 s2).bind λa=>(Tc a).bind λc=>if c=true then(app 8 s1 ([a.n,a.To])).bind λd=>some d else some s1) λb=>some (Ex.go (b,(aa .i64 (s2+1))))else some (Ex.brk s1)
def sh(t0:List GDateRange):Option (List Int):=(ca (Ve t0) (([]:List Int),0)).bind λy=>match y with |.inr _=>none |.inl a=>(Ya a).bind λb=>(La b).bind λc=>some c
def df(t0:List GFact) (t1:Int):((List GDateRange)×Int)->Option (Ex ((List GDateRange)×Int) (List GDateRange) Unit):=λ(s1,s2)=>if s2<(t0.length:Int)then Aaa ((idx t0 s2).bind λb=>Aaa (if b.af<=t1 then(vm b.w).bind λd=>some d else some false) λc=>if c=true then(app 16 s1 ([b.w])).bind λe=>some e else some s1) λa=>some (Ex.go (a,(aa .i64 (s2+1))))else some (Ex.brk s1)
def bf(d:List Int):((List Int)×Int)->Option (Ex ((List Int)×Int) (List Int) Unit):=λ(a,b)=>if b<(d.length:Int)then Aaa ((idx d b).bind λc=>Aaa (if 1<=c then some (decide (c<=109572))else some false) λe=>if e=true then(app 8 a ([c])).bind λg=>some g else some a) λf=>some (Ex.go (f,(aa .i64 (b+1))))else some (Ex.brk a)
def ee(t0:List GFact) (t1:Int):Option (List Int):=(ca (df t0 t1) (([]:List GDateRange),0)).bind λy=>match y with |.inr _=>none |.inl a=>(sh a).bind λc=>(ca (bf c) (([]:List Int),0)).bind λy=>match y with |.inr _=>none |.inl b=>some b
def Lc(t0:Int):Option Bool:=Aaa (if¬t0<1 then some (decide (109572<t0))else some true) λa=>some a
def Zg(c:GTable):((List GDateRange)×Int)->Option (Ex ((List GDateRange)×Int) (List GDateRange) Unit):=λ(b,a)=>if a<(c.Rows.length:Int)then (idx c.Rows a).bind λd=>(app 16 b ([d.w])).bind λe=>some (Ex.go (e,(aa .i64 (a+1))))else some (Ex.brk b)
def tc(t0:GLaw):((List GDateRange)×Int)->Option (Ex ((List GDateRange)×Int) (List GDateRange) Unit):=λ(s1,s2)=>if s2<(t0.Tables.length:Int)then (idx t0.Tables s2).bind λb=>(ca (Zg b) (s1,0)).bind λy=>match y with |.inr _=>none |.inl a=>some (Ex.go (a,(aa .i64 (s2+1))))else some (Ex.brk s1)
def qg(c:GScope):((List GDateRange)×Int)->Option (Ex ((List GDateRange)×Int) (List GDateRange) Unit):=λ(b,a)=>if a<(c.f.length:Int)then (idx c.f a).bind λd=>(app 16 b ([d.w])).bind λe=>some (Ex.go (e,(aa .i64 (a+1))))else some (Ex.brk b)
def qc(t0:GLaw):((List GDateRange)×Int)->Option (Ex ((List GDateRange)×Int) (List GDateRange) Unit):=λ(b,a)=>if a<(t0.e.length:Int)then (idx t0.e a).bind λd=>(ca (qg d) (b,0)).bind λy=>match y with |.inr _=>none |.inl c=>some (Ex.go (c,(aa .i64 (a+1))))else some (Ex.brk b)
def Qd(d:List GDateRange):((List Int)×Int)->Option (Ex ((List Int)×Int) (List Int) Unit):=λ(a,b)=>if b<(d.length:Int)then Aaa ((idx d b).bind λc=>(Tc c).bind λf=>if f=true then(app 8 a ([c.n,c.To])).bind λg=>some g else some a) λe=>some (Ex.go (e,(aa .i64 (b+1))))else some (Ex.brk a)
def Xg(a:List GDateRange):Option (List Int):=(ca (Qd a) (([]:List Int),0)).bind λy=>match y with |.inr _=>none |.inl b=>(Ya b).bind λc=>(La c).bind λd=>some d
def Sd(b:List Int):Int->Option (Ex Int Unit Int):=λa=>if a<(b.length:Int)then (idx b a).bind λc=>(Lc c).bind λd=>if d=true then some (Ex.ret a)else some (Ex.go (aa .i64 (a+1)))else some (Ex.brk ())
def Gl(a:List Int):Option Int:=(ca (Sd a) 0).bind λy=>match y with |.inr v=>some v |.inl _=>some (-1)
def Td  : ((List Int)×Int×Int)->Option (Ex ((List Int)×Int×Int) ((List Int)×Int) Unit):=λ(a,b,c)=>if c<(a.length:Int)then Aaa ((idx a c).bind λd=>(Lc d).bind λg=>if g=false then(idx a b).bind λx60=>(put a b d).bind λh=>some (h,(aa .i64 (b+1)))else some (a,b)) λ(e,f)=>some (Ex.go (e,f,(aa .i64 (c+1))))else some (Ex.brk (a,b))
def Yg(a:List Int):Option ((List Int)×(List Int)):=(Gl a).bind λc=>if c=(-1)then some (a,a)else(ca Td (a,c,(aa .i64 (c+1)))).bind λy=>match y with |.inr _=>none |.inl (d,b)=>(dH d b).bind λf=>(clrO d b f 0).bind λe=>(ju e b).bind λg=>some (e,g)
def wg(t0:GLaw):Option (List Int):=(ca (tc t0) (([]:List GDateRange),0)).bind λy=>match y with |.inr _=>none |.inl a=>(ca (qc t0) (a,0)).bind λy=>match y with |.inr _=>none |.inl b=>(Xg b).bind λc=>(Yg c).bind λ(i72,d)=>some d
def ph(c:(List (List Int))):(Int×Int)->Option (Ex (Int×Int) Int Unit):=λ(a,b)=>if b<(c.length:Int)then (idx c b).bind λd=>if(aa .i64 (a+(d.length:Int)))<0 then none else some (Ex.go ((aa .i64 (a+(d.length:Int))),(aa .i64 (b+1))))else some (Ex.brk a)
def mh(a:Int):Option (List Int):=if a<0 then none else Aaa (if 0<(aa .i64 (a-(aa .i64 (0-0))))then (mka 8 0 (aa .i64 (a-(aa .i64 (0-0))))).bind λc=>(ju c 0).bind λd=>some d else some ([]:List Int)) λb=>some b
def oh(e:(List (List Int))):((List Int)×Int)->Option (Ex ((List Int)×Int) (List Int) Unit):=λ(b,a)=>if a<(e.length:Int)then (idx e a).bind λc=>(app 8 b c).bind λd=>some (Ex.go (d,(aa .i64 (a+1))))else some (Ex.brk b)
def nh(d:(List (List Int))):Option (List Int):=(ca (ph d) (0,0)).bind λy=>match y with |.inr _=>none |.inl a=>(mh a).bind λc=>(ca (oh d) (c,0)).bind λy=>match y with |.inr _=>none |.inl b=>some b
def vb(t0:GLaw) (t1:GHousehold) (t2:Int):Option (List Int):=(ee t1.aa t2).bind λd=>(wg t0).bind λe=>(lst [d,e]).bind λf=>(nh f).bind λa=>(Ya a).bind λb=>(La b).bind λc=>some c
def Bf(t0:GLaw) (t1:GHousehold) (t2:GPayConfig) (a:Int) (b:Int):Option GAward:=(Kv a).bind λc=>if¬c.2=0 then some (GAward.mk a 0 3)else(Ae t0 t1 t2).bind λe=>if e=false then some (GAward.mk a 0 1)else(vb t0 t1 b).bind λf=>(bt c.1 f).bind λg=>(pn t0 t1 t2 g b).bind λd=>some (GAward.mk a d.1 d.2)
def Rw(t0:List GNode):Option GLaw:=some (GLaw.mk ([]) ([]) ([(GScope.mk (Gaa #[104,111,117,115,101]) (-1) ([(GField.mk (Gaa #[97]) (GType.mk 3 0))]) ([(GField.mk (Gaa #[100]) (GType.mk 3 0))]) ([(GRule.mk (Gaa #[98,97,115,101]) 0 (-1) 0 (GDateRange.mk 0 109573) ([]) t0 (Gaa #[]))]))]))
def Ft  : Option GDateRange:=some (GDateRange.mk 0 109573)
def Ip  : Option Bool:=(Rw ([(GNode.mk 7 0)])).bind λc=>(Ft).bind λe=>(Bf c (GHousehold.mk 0 0 0 ([(GFact.mk 0 (-1) 0 (GValue.mk 3 0 500) e 0)])) (GPayConfig.mk 0 0 1 0 0 0 0 (GCalendar.mk 0 ([]))) 3 10).bind λa=>(Bf c (GHousehold.mk 0 0 0 ([])) (GPayConfig.mk 0 0 1 0 0 0 0 (GCalendar.mk 0 ([]))) 3 10).bind λb=>Aaa (if a.aq=3/\a.as=500/\a.Code=0 then some ((b.aq==3)&&((b.as==0)&&(b.Code==6)))else some false) λd=>some d
def Gr(t0:GLaw):Option Bool:=(bq t0).bind λa=>some (a.Code==0)
def Af(t0:Int) (t1:Int) (t2:Int):Option Bool:=Aaa (if¬t0<t1 then some (decide (t2<t0))else some true) λa=>some a
def PG(t0:Int):Option Bool:=Aaa (if 0<=t0 then some (decide (t0<=109572))else some false) λa=>some a
def Mt(t0:GCalendar):Int->Option (Ex Int Unit Bool):=λa=>if a<(t0.am.length:Int)then Aaa ((idx t0.am a).bind λd=>(PG d).bind λe=>if e=true then if 0<a then(idx t0.am (aa .i64 (a-1))).bind λc=>some (decide (d<=c))else some false else some true) λb=>if b=true then some (Ex.ret false)else some (Ex.go (aa .i64 (a+1)))else some (Ex.brk ())
def Rs(t0:GCalendar):Option Bool:=Aaa (if¬t0.aw<0 then if¬126<t0.aw then some (decide (64<(t0.am.length:Int)))else some true else some true) λa=>if a=true then some false else(ca (Mt t0) 0).bind λy=>match y with |.inr v=>some v |.inl _=>some true
def Hb(t0:GLaw) (t1:Int) (t2:GPayConfig):Option Int:=(Gr t0).bind λl=>if l=false then some 1 else Aaa (if¬t1<0 then if¬(t0.e.length:Int)<=t1 then if¬t2.s<0 then(idx t0.e t1).bind λm=>some (decide ((m.d.length:Int)<=t2.s))else some true else some true else some true) λk=>if k=true then some 6 else(idx t0.e t1).bind λn=>(idx n.d t2.s).bind λc=>if¬c.ai.a=3 then some 8 else Aaa ((Af t2.an 0 5).bind λd=>if d=false then(Rs t2.ar).bind λe=>some (!e)else some true) λa=>if a=true then some 1 else Aaa ((Af t2.ay 1 28).bind λf=>if f=false then(Af t2.az 0 1000000).bind λg=>if g=false then(Af t2.a0 0 1000000000000000).bind λh=>if h=false then(Af t2.a1 0 3599).bind λi=>if i=false then(Af t2.a2 0 365).bind λj=>some j else some true else some true else some true else some true) λb=>if b=true then some 3 else some 0
def cm(t0:GHousehold):Option Bool:=some (decide ((t0.aa.length:Int)<=40))
def wy(t0:GLaw) (t1:GHousehold) (t2:GPayConfig):Option Bool:=Aaa ((Hr t0).bind λb=>if b=true then(cm t1).bind λc=>if c=true then(Wq t2).bind λd=>some d else some false else some false) λa=>some a
def Re(t0:GLaw) (t1:Int):Option ((List GField)×Bool):=(idx t0.e t1).bind λa=>Aaa (if¬a.z<0 then some (decide ((t0.e.length:Int)<=a.z))else some true) λb=>if b=true then some ([],false)else(idx t0.e a.z).bind λc=>some (c.u,true)
def zj(t0:GDateRange):Option Bool:=Aaa ((nf t0).bind λb=>if b=true then some (decide (t0.n<t0.To))else some false) λa=>some a
def iq(t0:List GFact) (t1:Int) (c:GFact):Int->Option (Ex Int Unit Int):=λa=>if a<t1 then(idx t0 a).bind λb=>if b.Id=c.Id then some (Ex.ret 7)else some (Ex.go (aa .i64 (a+1)))else some (Ex.brk ())
def Wv(t0:List GFact) (t1:Int):Option Int:=(idx t0 t1).bind λa=>Aaa (if¬a.Id<0 then if¬a.ak<(-1)then if¬7<a.ak then if¬a.aj<(-1)then if¬11<a.aj then if a.ak=(-1)then if¬a.aj=(-1)then (zj a.w).bind λe=>if e=true then if¬a.af<0 then some (decide (109572<a.af))else some true else some true else some true else(zj a.w).bind λd=>if d=true then if¬a.af<0 then some (decide (109572<a.af))else some true else some true else some true else some true else some true else some true else some true) λb=>if b=true then some 3 else Aaa (if¬a.Value.a<1 then if¬6<a.Value.a then if a.aj=(-1)then some (a.Value.a !=1)else some false else some true else some true) λc=>if c=true then some 8 else(ca (iq t0 t1 a) 0).bind λy=>match y with |.inr v=>some v |.inl _=>some 0
def Yk(t0:List GFact):Int->Option (Ex Int Unit (Int×Int)):=λs2=>if s2<(t0.length:Int)then (Wv t0 s2).bind λa=>if¬a=0 then some (Ex.ret (s2,a))else some (Ex.go (aa .i64 (s2+1)))else some (Ex.brk ())
def dq(t0:List GFact):Option (Int×Int):=if 128<(t0.length:Int)then some (0,4)else(ca (Yk t0) 0).bind λy=>match y with |.inr v=>some v |.inl _=>some (0,0)
def yx(t0:GValue):Option GType:=some (GType.mk t0.a t0.g)
def xo(t0:GLaw) (t1:GHousehold) (t2:GFact):Option Int:=if t1.r<=t2.ak then some 6 else(idx t0.e t1.ah).bind λh=>Aaa (if 0<=t2.ak then(Re t0 t1.ah).bind λi=>some i.1 else some h.u) λf=>Aaa (if¬t2.aj=(-1)then Aaa (if¬t2.aj<0 then some (decide ((f.length:Int)<=t2.aj))else some true) λg=>if g=true then some (Sum.inr 6)else(idx f t2.aj).bind λc=>some (Sum.inl (c.ai.a,c.ai.g))else some (Sum.inl (1,0))) λz=>match z with |.inr v=>some v |.inl (a,b)=>(yx t2.Value).bind λd=>if¬(d.a=a/\d.g=b)then some 8 else(Nt t2.Value.N (GType.mk a b) t0.q).bind λe=>if e=false then some 3 else some 0
def il(t0:GLaw) (t1:GHousehold):Int->Option (Ex Int Unit (Int×Int)):=λa=>if a<(t1.aa.length:Int)then (idx t1.aa a).bind λc=>(xo t0 t1 c).bind λb=>if¬b=0 then some (Ex.ret (a,b))else some (Ex.go (aa .i64 (a+1)))else some (Ex.brk ())
def jq(t0:GLaw) (t1:GHousehold):Option (Int×Int):=Aaa (if¬t1.ah<0 then some (decide ((t0.e.length:Int)<=t1.ah))else some true) λb=>if b=true then some ((-1),6)else(Re t0 t1.ah).bind λd=>Aaa (if¬t1.Id<0 then if¬t1.r<0 then if¬8<t1.r then if¬t1.r=0 then some (!d.2)else some false else some true else some true else some true) λc=>if c=true then some ((-1),3)else(dq t1.aa).bind λa=>if¬a.2=0 then some (a.1,a.2)else(ca (il t0 t1) 0).bind λy=>match y with |.inr v=>some v |.inl _=>some (0,0)
def Xv(t0:GLaw) (t1:GHousehold) (t2:GPayConfig):Option Bool:=(jq t0 t1).bind λb=>Aaa ((Hb t0 t1.ah t2).bind λc=>if c=0 then some (b.2==0)else some false) λa=>some a
def Ss(t0:Int):Option Bool:=Aaa (if 0<=t0 then some (decide (t0<=3599))else some false) λa=>some a
def ts(t0:Int):Option Int:=(Ss t0).bind λa=>if a=false then some 0 else(jc (aa .i64 (1900+(aa .i64 (Naa t0 12)))) (aa .i64 ((Taa t0 12)+1))).bind λb=>some b
def Qv(t0:Int):Option (GDateRange×Int):=(Ss t0).bind λb=>if b=false then some ((GDateRange.mk 0 0),3)else(vf (aa .i64 (1900+(aa .i64 (Naa t0 12)))) (aa .i64 ((Taa t0 12)+1)) 1).bind λa=>(ts t0).bind λc=>some ((GDateRange.mk a.1 (aa .i64 (a.1+c))),0)
def kl(t0:List Int) (t1:Int):Int->Option (Ex Int Unit Bool):=λs1=>if s1<(t0.length:Int)then (idx t0 s1).bind λa=>if a=t1 then some (Ex.ret true)else some (Ex.go (aa .i64 (s1+1)))else some (Ex.brk ())
def Xm(t0:List Int) (t1:Int):Option Bool:=(ca (kl t0 t1) 0).bind λy=>match y with |.inr v=>some v |.inl _=>some false
def Tr(t0:GDateRange) (t1:List Int) (t2:List Int):((List GDateRange)×Int×Int)->Option (Ex ((List GDateRange)×Int×Int) ((List GDateRange)×Int) Unit):=λ(s1,s2,a)=>if a<t0.To then Aaa (Aaa ((Xm t1 a).bind λf=>if f=false then(Xm t2 a).bind λg=>some g else some true) λe=>if e=true then(app 16 s1 ([(GDateRange.mk s2 a)])).bind λd=>some (d,a)else some (s1,s2)) λ(b,c)=>some (Ex.go (b,c,(aa .i64 (a+1))))else some (Ex.brk (s1,s2))
def eu(t0:GDateRange) (t1:List Int) (t2:List Int):Option (List GDateRange):=(ca (Tr t0 t1 t2) (([]:List GDateRange),t0.n,(aa .i64 (t0.n+1)))).bind λy=>match y with |.inr _=>none |.inl (a,b)=>(app 16 a ([(GDateRange.mk b t0.To)])).bind λc=>some c
def sv(t0:List GFact) (t1:Int) (t2:Int) (f:Int) (g:Int):(Int×Int)->Option (Ex (Int×Int) Int Unit):=λ(s1,s2)=>if s2<(t0.length:Int)then Aaa ((idx t0 s2).bind λb=>Aaa (if b.ak=t1 then if b.aj=t2 then if¬g<b.af then(Pf b.w f).bind λh=>some (!h)else some true else some true else some true) λe=>if e=true then some s1 else Aaa (if¬s1<0 then(idx t0 s1).bind λa=>if¬a.af<b.af then if b.af=a.af then some (decide (a.Id<b.Id))else some false else some true else some true) λc=>if c=true then some s2 else some s1) λd=>some (Ex.go (d,(aa .i64 (s2+1))))else some (Ex.brk s1)
def Bs(t0:List GFact) (t1:Int) (t2:Int) (c:Int) (d:Int):Option (GValue×Bool):=(ca (sv t0 t1 t2 c d) ((-1),0)).bind λy=>match y with |.inr _=>none |.inl a=>if a<0 then some ((GValue.mk 0 0 0),false)else(idx t0 a).bind λb=>some (b.Value,true)
def Zj(t0:GHousehold) (t1:Int) (t2:List GField) (b:Int) (c:Int):((List GValue)×Int)->Option (Ex ((List GValue)×Int) (List GValue) ((List GValue)×Bool)):=λ(s1,s2)=>if s2<(t2.length:Int)then (Bs t0.aa t1 s2 b c).bind λa=>if a.2=false then some (Ex.ret ([],false))else(app 24 s1 ([a.1])).bind λd=>some (Ex.go (d,(aa .i64 (s2+1))))else some (Ex.brk s1)
def Kn(t0:GHousehold) (t1:Int) (t2:List GField) (b:Int) (c:Int):Option ((List GValue)×Bool):=(ca (Zj t0 t1 t2 b c) (([]:List GValue),0)).bind λy=>match y with |.inr v=>some v |.inl a=>some (a,true)
def Aj(t0:GHousehold) (t1:Int) (t2:Int):((List Int)×Int)->Option (Ex ((List Int)×Int) (List Int) Unit):=λ(s1,s2)=>Aaa (if s2<t0.r then some (decide (s2<8))else some false) λd=>if d=true then Aaa ((Bs t0.aa s2 (-1) t1 t2).bind λc=>Aaa (if c.2=true then if c.1.a=1 then some (c.1.N==1)else some false else some false) λe=>if e=true then(app 8 s1 ([s2])).bind λb=>some b else some s1) λa=>some (Ex.go (a,(aa .i64 (s2+1))))else some (Ex.brk s1)
def wo(t0:GHousehold) (t1:Int) (t2:Int):Option (List Int):=(ca (Aj t0 t1 t2) (([]:List Int),0)).bind λy=>match y with |.inr _=>none |.inl a=>some a
def bl(t1:GHousehold) (t2:Int) (g:Int) (h:((List GField)×Bool)) (f:List Int):((List (List GValue))×Int)->Option (Ex ((List (List GValue))×Int) (List (List GValue)) (GCase×Int)):=λ(e,a)=>if a<(f.length:Int)then (idx f a).bind λc=>(Kn t1 c h.1 t2 g).bind λb=>if b.2=false then some (Ex.ret ((GCase.mk 0 ([]) ([])),6))else(app 24 e ([b.1])).bind λd=>some (Ex.go (d,(aa .i64 (a+1))))else some (Ex.brk e)
def Vh(t0:GLaw) (t1:GHousehold) (t2:Int) (b:Int):Option (GCase×Int):=Aaa (if¬t2<0 then some (decide (109572<t2))else some true) λd=>if d=true then some ((GCase.mk 0 ([]) ([])),3)else(idx t0.e t1.ah).bind λe=>(Kn t1 (-1) e.u t2 b).bind λc=>if c.2=false then some ((GCase.mk 0 ([]) ([])),6)else(Re t0 t1.ah).bind λf=>(wo t1 t2 b).bind λg=>(ca (bl t1 t2 b f g) (([]:List (List GValue)),0)).bind λy=>match y with |.inr v=>some v |.inl a=>some ((GCase.mk t2 c.1 a),0)
def ie(t0:GLaw) (t1:Int):Option GScope:=(idx t0.e t1).bind λa=>Aaa (if¬a.z<0 then some (decide ((t0.e.length:Int)<=a.z))else some true) λb=>if b=true then some (GScope.mk (Gaa #[]) 0 ([]) ([]) ([]))else(idx t0.e a.z).bind λc=>some c
def bu(t0:List Int) (t1:Int):Int->Option (Ex Int Unit Bool):=λs1=>if s1<(t0.length:Int)then (idx t0 s1).bind λa=>if a=t1 then some (Ex.ret true)else some (Ex.go (aa .i64 (s1+1)))else some (Ex.brk ())
def Us(t0:List Int) (t1:Int):Option Bool:=(ca (bu t0 t1) 0).bind λy=>match y with |.inr v=>some v |.inl _=>some false
def aq(t2:List Int) (a:List Int):Int->Option (Ex Int Unit Bool):=λs2=>if s2<(a.length:Int)then (idx a s2).bind λb=>(Us t2 b).bind λc=>if c=false then some (Ex.ret false)else some (Ex.go (aa .i64 (s2+1)))else some (Ex.brk ())
def Vv(t0:GScope) (t1:Int) (t2:List Int):Option Bool:=(Hn t0 t1).bind λa=>(ca (aq t2 a) 0).bind λy=>match y with |.inr v=>some v |.inl _=>some true
def Pc(t0:GScope) (s1:List Int):Int->Option (Ex Int Int Unit):=λa=>Aaa (if a<(t0.d.length:Int)then (Us s1 a).bind λc=>if c=false then(Vv t0 a s1).bind λd=>some (!d)else some true else some false) λb=>if b=true then some (Ex.go (aa .i64 (a+1)))else some (Ex.brk a)
def Qc(t0:GScope):(List Int)->Option (Ex (List Int) (List Int) ((List Int)×Int)):=λs1=>if(s1.length:Int)<(t0.d.length:Int)then (ca (Pc t0 s1) 0).bind λy=>match y with |.inr _=>none |.inl a=>if a=(t0.d.length:Int)then some (Ex.ret ([],9))else(app 8 s1 ([a])).bind λb=>some (Ex.go b)else some (Ex.brk s1)
def Cg(t0:GScope):Option ((List Int)×Int):=(ca (Qc t0) ([]:List Int)).bind λy=>match y with |.inr v=>some v |.inl a=>some (a,0)
def Sr(t0:GScope) (t1:GEnv) (t2:Int) (h:Int) (e:((List Int)×(List Int)×(List Int))):((List Bool)×Int)->Option (Ex ((List Bool)×Int) (List Bool) (Int×GEvalError)):=λ(s2,b)=>if b<(e.1.length:Int)then Aaa ((idx e.1 b).bind λf=>(idx t0.f f).bind λg=>if(g.ac.length:Int)=0 then(app 1 s2 ([true])).bind λi=>some (Sum.inl i)else(Su g.ac t1).bind λd=>if¬d.2=0 then some (Sum.inr (Ex.ret (0,(GEvalError.mk d.2 t2 h f))))else(app 1 s2 ([(d.1.N==1)])).bind λc=>some (Sum.inl c)) λz=>match z with |.inr v=>some v |.inl a=>some (Ex.go (a,(aa .i64 (b+1))))else some (Ex.brk s2)
def du(t0:GScope) (t1:GEnv) (t2:Int) (e:Int):Option (Int×GEvalError):=(Zt t0 e t1.ae).bind λb=>(ca (Sr t0 t1 t2 e b) (([]:List Bool),0)).bind λy=>match y with |.inr v=>some v |.inl c=>(Wt b.2.1 b.2.2 c).bind λa=>if a<0 then some (a,(GEvalError.mk 0 0 0 0))else(idx b.1 a).bind λd=>some (d,(GEvalError.mk 0 0 0 0))
def Pw(t0:GScope) (t1:GEnv) (t2:Int) (b:Int):Option (GValue×Int×GEvalError):=(du t0 t1 t2 b).bind λa=>if¬a.2.Code=0 then some ((GValue.mk 0 0 0),0,a.2)else if a.1=(-1)then some ((GValue.mk 0 0 0),0,(GEvalError.mk 10 t2 b (-1)))else if a.1=(-2)then some ((GValue.mk 0 0 0),0,(GEvalError.mk 11 t2 b (-1)))else(idx t0.f a.1).bind λd=>(Su d.Value t1).bind λc=>if¬c.2=0 then some ((GValue.mk 0 0 0),0,(GEvalError.mk c.2 t2 b a.1))else some (c.1,a.1,(GEvalError.mk 0 0 0 0))
def Zo(t0:GScope) (t1:GEnv) (t2:Int) (k:List Bool) (j:((List Int)×Int)):((List GValue)×(List Int)×Int)->Option (Ex ((List GValue)×(List Int)×Int) ((List GValue)×(List Int)) ((List GValue)×(List Int)×GEvalError)):=λ(c,d,g)=>if g<(j.1.length:Int)then Aaa ((idx j.1 g).bind λb=>(idx k b).bind λl=>if l=false then some (Sum.inl (c,d))else(Pw t0 (GEnv.mk t1.ae t1.u c t1.r t1.al t1.Tables) t2 b).bind λa=>if¬a.2.2.Code=0 then some (Sum.inr (Ex.ret ([],[],a.2.2)))else(idx c b).bind λx13=>(put c b a.1).bind λh=>(idx d b).bind λx15=>(put d b a.2.1).bind λi=>some (Sum.inl (h,i))) λz=>match z with |.inr v=>some v |.inl (e,f)=>some (Ex.go (e,f,(aa .i64 (g+1))))else some (Ex.brk (c,d))
def xj(t0:GScope) (t1:GEnv) (t2:Int) (c:List Bool):Option ((List GValue)×(List Int)×GEvalError):=(UB 24 (GValue.mk 0 0 0) (t0.d.length:Int) (t0.d.length:Int)).bind λd=>(UB 8 0 (t0.d.length:Int) (t0.d.length:Int)).bind λe=>(Cg t0).bind λf=>(ca (Zo t0 t1 t2 c f) (d,e,0)).bind λy=>match y with |.inr v=>some v |.inl (a,b)=>some (a,b,(GEvalError.mk 0 0 0 0))
def Rr(t0:GLaw) (t1:GCase) (t2:Int):Option GEnv:=(idx t1.r t2).bind λa=>some (GEnv.mk t1.ae a ([]) ([]) ([]) t0.Tables)
def gh(t0:GLaw) (t2:GCase) (e:List Bool) (f:GScope):((List (List GValue))×(List (List Int))×Int)->Option (Ex ((List (List GValue))×(List (List Int))×Int) ((List (List GValue))×(List (List Int))) ((List (List GValue))×(List (List Int))×GEvalError)):=λ(s2,d,a)=>if a<(t2.r.length:Int)then (Rr t0 t2 a).bind λg=>(xj f g a e).bind λb=>if¬b.2.2.Code=0 then some (Ex.ret ([],[],b.2.2))else(app 24 s2 ([b.1])).bind λh=>(app 24 d ([b.2.1])).bind λc=>some (Ex.go (h,c,(aa .i64 (a+1))))else some (Ex.brk (s2,d))
def Qj(t0:GLaw) (t1:Int) (t2:GCase) (c:List Bool):Option ((List (List GValue))×(List (List Int))×GEvalError):=(ie t0 t1).bind λd=>(ca (gh t0 t2 c d) (([]:List (List GValue)),([]:List (List Int)),0)).bind λy=>match y with |.inr v=>some v |.inl (a,b)=>some (a,b,(GEvalError.mk 0 0 0 0))
def Ow(b:GScope):((List GType)×Int)->Option (Ex ((List GType)×Int) (List GType) Unit):=λ(s2,a)=>if a<(b.d.length:Int)then (idx b.d a).bind λc=>(app 16 s2 ([c.ai])).bind λd=>some (Ex.go (d,(aa .i64 (a+1))))else some (Ex.brk s2)
def IC(t0:GLaw) (t1:Int) (t2:GCase) (b:(List (List GValue))):Option GEnv:=(ie t0 t1).bind λc=>(ca (Ow c) (([]:List GType),0)).bind λy=>match y with |.inr _=>none |.inl a=>some (GEnv.mk t2.ae t2.u ([]) b a t0.Tables)
def Tk(c:((List Int)×(List Int)×(List Int))):((List Int)×Int)->Option (Ex ((List Int)×Int) (List Int) Unit):=λ(b,a)=>if a<(c.2.2.length:Int)then (idx c.2.2 a).bind λd=>(Qf b d).bind λe=>some (Ex.go (e,(aa .i64 (a+1))))else some (Ex.brk b)
def Sk(c:((List Int)×(List Int)×(List Int))):((List Int)×Int)->Option (Ex ((List Int)×Int) (List Int) Unit):=λ(b,a)=>if a<(c.2.2.length:Int)then (idx c.2.2 a).bind λd=>(Qf b d).bind λe=>some (Ex.go (e,(aa .i64 (a+1))))else some (Ex.brk b)
def xh(t0:GScope) (i:List Int):((List Int)×Int)->Option (Ex ((List Int)×Int) (List Int) Unit):=λ(d,e)=>if e<(t0.f.length:Int)then Aaa ((idx t0.f e).bind λh=>(Us i h.s).bind λj=>if j=false then some d else(pf h.ac).bind λf=>(pf h.Value).bind λg=>(ca (Tk f) (d,0)).bind λy=>match y with |.inr _=>none |.inl a=>(ca (Sk g) (a,0)).bind λy=>match y with |.inr _=>none |.inl b=>some b) λc=>some (Ex.go (c,(aa .i64 (e+1))))else some (Ex.brk d)
def Qm(t0:GScope) (t1:Int):Option (List Int):=(Uv t0 t1).bind λb=>if b=false then some ([])else(qf t0 t1).bind λc=>(Qf c t1).bind λd=>(ca (xh t0 d) (([]:List Int),0)).bind λy=>match y with |.inr _=>none |.inl a=>some a
def Pj(d:List Int):((List Bool)×Int)->Option (Ex ((List Bool)×Int) (List Bool) Unit):=λ(a,b)=>if b<(d.length:Int)then (idx d b).bind λe=>(idx a e).bind λx10=>(put a e true).bind λc=>some (Ex.go (c,(aa .i64 (b+1))))else some (Ex.brk a)
def Oj(b:Int) (d:GScope) (c:List Bool):Option (List Bool):=(idx c b).bind λx3=>(put c b true).bind λe=>(qf d b).bind λf=>(ca (Pj f) (e,0)).bind λy=>match y with |.inr _=>none |.inl a=>some a
def Li(c:List Int):((List Bool)×Int)->Option (Ex ((List Bool)×Int) (List Bool) Unit):=λ(a,b)=>if b<(c.length:Int)then (idx c b).bind λd=>(idx a d).bind λx31=>(put a d true).bind λe=>some (Ex.go (e,(aa .i64 (b+1))))else some (Ex.brk a)
def Rf(b:List Bool) (d:GScope) (a:Int):Option (List Bool):=(idx b a).bind λx24=>(put b a true).bind λe=>(qf d a).bind λf=>(ca (Li f) (e,0)).bind λy=>match y with |.inr _=>none |.inl c=>some c
def Mi(t0:GLaw) (t1:Int) (c:List Int):((List Bool)×Int)->Option (Ex ((List Bool)×Int) (List Bool) Unit):=λ(b,a)=>if a<(c.length:Int)then (ie t0 t1).bind λe=>(idx c a).bind λf=>(Rf b e f).bind λd=>some (Ex.go (d,(aa .i64 (a+1))))else some (Ex.brk b)
def Ki(t0:GLaw) (t1:Int) (d:Int) (e:GScope) (b:List Bool):Option (List Bool):=(Qm e d).bind λc=>(ca (Mi t0 t1 c) (b,0)).bind λy=>match y with |.inr _=>none |.inl a=>some a
def Sg(t0:GLaw) (t1:Int) (t2:GCase) (e:Int):Option (GValue×Int×GEvalError):=(idx t0.e t1).bind λc=>(UB 1 false (c.d.length:Int) (c.d.length:Int)).bind λl=>(Oj e c l).bind λf=>(ie t0 t1).bind λd=>(UB 1 false (d.d.length:Int) (d.d.length:Int)).bind λh=>(Ki t0 t1 e c h).bind λg=>(Qj t0 t1 t2 g).bind λb=>if¬b.2.2.Code=0 then some ((GValue.mk 0 0 0),0,b.2.2)else(IC t0 t1 t2 b.1).bind λi=>(xj c i (-1) f).bind λa=>if¬a.2.2.Code=0 then some ((GValue.mk 0 0 0),0,a.2.2)else(idx a.1 e).bind λj=>(idx a.2.1 e).bind λk=>some (j,k,(GEvalError.mk 0 0 0 0))
def Yd(t0:GLaw) (t1:GHousehold) (t2:GPayConfig) (f:Int) (h:Int) (g:List GDateRange):(Int×Int)->Option (Ex (Int×Int) Int GAward):=λ(e,a)=>if a<(g.length:Int)then (idx g a).bind λb=>(Vh t0 t1 b.n h).bind λc=>if¬c.2=0 then some (Ex.ret (GAward.mk f 0 c.2))else(Sg t0 t1.ah c.1 t2.s).bind λd=>if¬d.2.2.Code=0 then some (Ex.ret (GAward.mk f 0 d.2.2.Code))else some (Ex.go ((aa .i64 (e+(aa .i64 (d.1.N*(aa .i64 (b.To-b.n)))))),(aa .i64 (a+1))))else some (Ex.brk e)
def Uq(t0:GLaw) (t1:GHousehold) (t2:GPayConfig) (b:Int) (f:Int) (g:List Int) (h:List Int):Option GAward:=(Qv b).bind λi=>(eu i.1 g h).bind λj=>(ca (Yd t0 t1 t2 b f j) (0,0)).bind λy=>match y with |.inr v=>some v |.inl c=>(ts b).bind λe=>(kj c e t2.an).bind λa=>Aaa (if a.1<0 then some 0 else some a.1) λd=>some (GAward.mk b d 0)
def vo(t0:List Int) (t1:Int):((List Int)×Bool×Int)->Option (Ex ((List Int)×Bool×Int) ((List Int)×Bool) Unit):=λ(s1,s2,a)=>if a<(t0.length:Int)then Aaa (Aaa (if s2=false then(idx t0 a).bind λh=>some (decide (t1<=h))else some false) λg=>if g=true then(idx t0 a).bind λi=>if t1<i then(app 8 s1 ([t1])).bind λd=>some (d,true)else some (s1,true)else some (s1,s2)) λ(b,c)=>(idx t0 a).bind λe=>(app 8 b ([e])).bind λf=>some (Ex.go (f,c,(aa .i64 (a+1))))else some (Ex.brk (s1,s2))
def Zk(t0:List Int) (t1:Int):Option (List Int):=(ca (vo t0 t1) ([],false,0)).bind λy=>match y with |.inr _=>none |.inl (a,b)=>Aaa (if b=false then(app 8 a ([t1])).bind λd=>some d else some a) λc=>some c
def Eh(t0:List GFact) (t1:Int):((List Int)×Int)->Option (Ex ((List Int)×Int) (List Int) Unit):=λ(s1,s2)=>if s2<(t0.length:Int)then Aaa (Aaa ((idx t0 s2).bind λf=>if¬t1<f.af then(zj f.w).bind λi=>some (!i)else some true) λh=>if h=true then some s1 else Aaa ((idx t0 s2).bind λg=>if 1<=g.w.n then(Zk s1 g.w.n).bind λd=>some d else some s1) λa=>(idx t0 s2).bind λb=>if b.w.To<=109572 then(Zk a b.w.To).bind λe=>some e else some a) λc=>some (Ex.go (c,(aa .i64 (s2+1))))else some (Ex.brk s1)
def Uh(t0:List GFact) (t1:Int):Option (List Int):=(ca (Eh t0 t1) ([],0)).bind λy=>match y with |.inr _=>none |.inl a=>some a
def jo(t0:List Int):((List Int)×Int)->Option (Ex ((List Int)×Int) (List Int) Unit):=λ(s1,s2)=>if s2<(t0.length:Int)then Aaa (Aaa ((idx t0 s2).bind λb=>if 1<=b then some (decide (b<=109572))else some false) λc=>if c=true then(idx t0 s2).bind λd=>(app 8 s1 ([d])).bind λe=>some e else some s1) λa=>some (Ex.go (a,(aa .i64 (s2+1))))else some (Ex.brk s1)
def Tt(t0:List Int):Option (List Int):=(ca (jo t0) (([]:List Int),0)).bind λy=>match y with |.inr _=>none |.inl a=>some a
def Qp(t0:GDateRange):Option Bool:=Aaa ((nf t0).bind λb=>if b=true then some (decide (t0.n<t0.To))else some false) λa=>some a
def wi(t0:List GDateRange):((List Int)×Int)->Option (Ex ((List Int)×Int) (List Int) Unit):=λ(s1,s2)=>if s2<(t0.length:Int)then Aaa ((idx t0 s2).bind λa=>(Qp a).bind λc=>if c=true then(Mq s1 a.n).bind λd=>(Mq d a.To).bind λe=>some e else some s1) λb=>some (Ex.go (b,(aa .i64 (s2+1))))else some (Ex.brk s1)
def Hm(t0:List GDateRange):Option (List Int):=(ca (wi t0) (([]:List Int),0)).bind λy=>match y with |.inr _=>none |.inl a=>some a
def Rk(t0:GLaw) (s2:Int):((List GDateRange)×Int)->Option (Ex ((List GDateRange)×Int) (List GDateRange) Unit):=λ(b,a)=>(idx t0.Tables s2).bind λc=>if a<(c.Rows.length:Int)then (idx c.Rows a).bind λd=>(app 16 b ([d.w])).bind λe=>some (Ex.go (e,(aa .i64 (a+1))))else some (Ex.brk b)
def xe(t0:GLaw):((List GDateRange)×Int)->Option (Ex ((List GDateRange)×Int) (List GDateRange) Unit):=λ(s1,s2)=>if s2<(t0.Tables.length:Int)then (ca (Rk t0 s2) (s1,0)).bind λy=>match y with |.inr _=>none |.inl a=>some (Ex.go (a,(aa .i64 (s2+1))))else some (Ex.brk s1)
def Nj(t0:GLaw) (d:Int):((List GDateRange)×Int)->Option (Ex ((List GDateRange)×Int) (List GDateRange) Unit):=λ(b,a)=>(idx t0.e d).bind λc=>if a<(c.f.length:Int)then (idx c.f a).bind λe=>(app 16 b ([e.w])).bind λf=>some (Ex.go (f,(aa .i64 (a+1))))else some (Ex.brk b)
def we(t0:GLaw):((List GDateRange)×Int)->Option (Ex ((List GDateRange)×Int) (List GDateRange) Unit):=λ(b,a)=>if a<(t0.e.length:Int)then (ca (Nj t0 a) (b,0)).bind λy=>match y with |.inr _=>none |.inl c=>some (Ex.go (c,(aa .i64 (a+1))))else some (Ex.brk b)
def Th(t0:GLaw):Option (List Int):=(ca (xe t0) (([]:List GDateRange),0)).bind λy=>match y with |.inr _=>none |.inl a=>(ca (we t0) (a,0)).bind λy=>match y with |.inr _=>none |.inl b=>(Hm b).bind λc=>(Tt c).bind λd=>some d
def kq(t0:GLaw) (t1:GHousehold) (t2:GPayConfig) (a:Int) (b:Int):Option GAward:=Aaa (if¬a<0 then some (decide (3599<a))else some true) λc=>if c=true then some (GAward.mk a 0 3)else(Xv t0 t1 t2).bind λd=>if d=false then some (GAward.mk a 0 1)else(Uh t1.aa b).bind λe=>(Th t0).bind λf=>(Uq t0 t1 t2 a b e f).bind λg=>some g
def vi(t0:GLaw) (t1:GHousehold) (t2:GPayConfig) (a:GGuerdonlaw36_Query):Option Bool:=(wy t0 t1 t2).bind λe=>if e=false then(Ip).bind λf=>some f else Aaa ((Bf t0 t1 t2 a.aq a.af).bind λb=>(kq t0 t1 t2 a.aq a.af).bind λc=>if b.aq=c.aq/\b.as=c.as/\b.Code=c.Code then(Ip).bind λg=>some g else some false) λd=>some d
def amtP(p:GPosting):Int:=if p.a=1 then p.as else if p.a=2 then aa .i64 (-p.as)else if p.a=3 then aa .i64 (-p.as)else 0
def recK(m:Int) (l:List GPosting) (ks:List Int):Int:=ks.foldl (λs k=>(l.filter λp=>p.a==k).foldl (λs p=>if p.aq==m then aa .i64 (s+amtP p)else s) s) 0
def iw(t0:List GPosting) (t1:Int):Option Int:=if t0.length<=1099511627776 then some (recK t1 t0 [1,2,3])else none
def Vy(t0:List GPosting) (t1:Int):Option Int:=if t0.length<=1099511627776 then some ((t0.filter λp=>p.a==4).foldl (λs p=>if p.aq==t1 then aa .i64 (s+p.as)else s) 0)else none
def U3(f t:Int) (l:List GPosting) (ks:List Int):Int:=ks.foldl (λs k=>(l.filter λp=>p.a==k).foldl (λs p=>if f<=p.ae/\p.ae<t then aa .i64 (s+amtP p)else s) s) 0
def MB(t0:List GPosting) (t1:GDateRange):Option Int:=if t0.length<=1099511627776/\0<=t1.n/\t1.n<=t1.To/\t1.To<=109573 then some (U3 t1.n t1.To t0 [1,2,3])else none
end
end Go.Proofs.Dev
