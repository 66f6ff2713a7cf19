/-
  The functions as plain partial functions, and plain lemmas about them: no condition.
-/
import Derived.Test.YtmhfebelfmgckaaGreatDoorED
import Derived.Lib.SlicesCompact
open Bool renaming true->a38,false->a39
open Option renaming some->M,none->s5
open Decidable renaming decide->s6
open Go.Tm.Ex renaming go->i!,brk->i?,ret->l?
open Go.IntKind renaming i64->b!
open Go.Value renaming int->e!
open And renaming intro->ak
open ByteArray renaming mk->n?
open Eq renaming trans->I!
open Int renaming fdiv->Wae,tdiv->s?,tmod->v?
open List renaming range->p!,length->a00
open Option renaming bind->b?
set_option linter.all false
def a13{p:Prop}(h:p:=by simp;omega):=h
def a09{p:Prop}(h:p:=by simp; omega):=h
def B?{p:Prop}(h:p:=by repeat (first|exact ua.Hb _|refine ua.cons (q'.refl _) ?_|refine ua.cons (q'.Ta _) ?_)):=h
def Θ{p:Prop}(h:p:=by kernel_rfl):=h
def aaF{p:Prop}(h:p:=by simp only[zx, ze, qt, sh, th, pf]; exact yL (by simp only[zq, ze])):=h
def aaH{p:Prop}(h:p:=by simp only[zx, ze, Wz, sh, th, pf]; exact f'.q [(M 0, 1, 0)] rfl p5 (by simp only[zq, ze])):=h
def aaI{p:Prop}(h:p:=by simp[Fr.l]):=h
def aaJ{p:Prop}(h:p:=by simp only[zx, ze, sh, th, pf]; rw[Vz]; exact f'.q [(M 0, 0, 0)] rfl p5 (by simp only[zx, zq, ze])):=h
def aaK{p:Prop}(h:p:=by have:=h.hn;omega):=h
def aaL{p:Prop}(h:p:=by grind[ea,Pa,Pd]):=h
namespace Go.Tm
def qm:List Int->Int->List Int |[],n=>[n] |x::l,n=>if n<=x then(if n<x then n::x::l else x::l)else x::qm l n
def Yd(l:List Int):List Int:=l.foldl qm []
inductive H? (g:List (List Int)):Int->Int->Prop
 |one {a b:Int} {l:List Int} (h:g[a.toNat]?=M l) (hb:b∈l):H? g a b
 |step {a b c:Int} {l:List Int} (h:H? g a b) (hl:g[b.toNat]?=M l) (hc:c∈l):H? g a c
open Classical in
noncomputable def YO(g:List (List Int)) (a:Int):List Int:=((p! g.length).map λ(k:Nat)=>(k:Int)).filter λb=>s6 (H? g a b)
@[irreducible] def eg:Nat:=1000000
def CG(g:List (List Int)) (out:List Int) (d:Nat):Bool:=!out.contains (d:Int)&&(g.getD d []).all λe=>out.contains e
def Xx(g:List (List Int)):Nat->List Int->List Int×Int |0,out=>(out,0) |n+1,out=>match (p! g.length).find? (CG g out)with |some d=>Xx g n (out++[(d:Int)]) |none=>([],9)
def Fx(g:List (List Int)):List Int×Int:=Xx g g.length []
end Go.Tm
set_option maxHeartbeats 1000000
set_option maxRecDepth 100000
namespace Go.Proofs.Dev
open Go Go.Tm
def OD(x:ByteArray):D:=.v (.string x)
instance:g! ByteArray OD:=⟨aC OD.eq_1⟩
def aO3:=l4 @OD.eq_1
def T2(x:List ByteArray):D:=.sl 1 (x.map OD)
instance:g! (List ByteArray) T2:=⟨Fr.s _⟩
def Z7:=l4 @T2.eq_1
structure nb where
 q:ByteArray
 s:(List ByteArray)
def ft(x:nb):D:=.agg [.v (.string x.q),.sl 1 (x.s.map OD)]
instance:g! nb ft:=⟨aC ft.eq_1⟩
def R7:=l4 @ft.eq_1
def qx(x:List nb):D:=.sl 2 (x.map ft)
instance:g! (List nb) qx:=⟨Fr.s _⟩
def yV:=l4 @qx.eq_1
def da(x:Int):D:=.v (e! b! x)
instance:g! Int da:=⟨aC da.eq_1⟩
def aO4:=l4 @da.eq_1
structure ej where
 a:Int
 g:Int
def Zg(x:ej):D:=.agg [.v (e! b! x.a),.v (e! b! x.g)]
instance:g! ej Zg:=⟨aC Zg.eq_1⟩
def V7:=l4 @Zg.eq_1
structure ia where
 n:Int
 To:Int
def fm(x:ia):D:=.agg [.v (e! b! x.n),.v (e! b! x.To)]
instance:g! ia fm:=⟨aC fm.eq_1⟩
def UN:=l4 @fm.eq_1
structure te where
 ab:ia
 Lo:Int
 Hi:Int
 N:Int
def Qv(x:te):D:=.agg [.v (e! b! x.ab.n),.v (e! b! x.ab.To),.v (e! b! x.Lo),.v (e! b! x.Hi),.v (e! b! x.N)]
instance:g! te Qv:=⟨aC Qv.eq_1⟩
def aq7:=l4 @Qv.eq_1
def SE(x:List te):D:=.sl 5 (x.map Qv)
instance:g! (List te) SE:=⟨Fr.s _⟩
def aZ:=l4 @SE.eq_1
structure po where
 q:ByteArray
 af:ej
 Value:ej
 Rows:(List te)
def xj(x:po):D:=.agg [.v (.string x.q),.v (e! b! x.af.a),.v (e! b! x.af.g),.v (e! b! x.Value.a),.v (e! b! x.Value.g),.sl 5 (x.Rows.map Qv)]
instance:g! po xj:=⟨aC xj.eq_1⟩
def VY:=l4 @xj.eq_1
def ux(x:List po):D:=.sl 6 (x.map xj)
instance:g! (List po) ux:=⟨Fr.s _⟩
def uT:=l4 @ux.eq_1
structure mu where
 q:ByteArray
 ao:ej
def rf(x:mu):D:=.agg [.v (.string x.q),.v (e! b! x.ao.a),.v (e! b! x.ao.g)]
instance:g! mu rf:=⟨aC rf.eq_1⟩
def TY:=l4 @rf.eq_1
def sx(x:List mu):D:=.sl 3 (x.map rf)
instance:g! (List mu) sx:=⟨Fr.s _⟩
def rT:=l4 @sx.eq_1
structure fr where
 Op:Int
 N:Int
def Xi(x:fr):D:=.agg [.v (e! b! x.Op),.v (e! b! x.N)]
instance:g! fr Xi:=⟨aC Xi.eq_1⟩
def T7:=l4 @Xi.eq_1
def Pf(x:List fr):D:=.sl 2 (x.map Xi)
instance:g! (List fr) Pf:=⟨Fr.s _⟩
def AV:=l4 @Pf.eq_1
structure kv where
 q:ByteArray
 u:Int
 am:Int
 ay:Int
 ab:ia
 ak:(List fr)
 Value:(List fr)
 a4:ByteArray
def Yg(x:kv):D:=.agg [.v (.string x.q),.v (e! b! x.u),.v (e! b! x.am),.v (e! b! x.ay),.v (e! b! x.ab.n),.v (e! b! x.ab.To),.sl 2 (x.ak.map Xi),.sl 2 (x.Value.map Xi),.v (.string x.a4)]
instance:g! kv Yg:=⟨aC Yg.eq_1⟩
def U7:=l4 @Yg.eq_1
def Vn(x:List kv):D:=.sl 9 (x.map Yg)
instance:g! (List kv) Vn:=⟨Fr.s _⟩
def BV:=l4 @Vn.eq_1
structure ek where
 q:ByteArray
 ac:Int
 w:(List mu)
 d:(List mu)
 f:(List kv)
def sf(x:ek):D:=.agg [.v (.string x.q),.v (e! b! x.ac),.sl 3 (x.w.map rf),.sl 3 (x.d.map rf),.sl 9 (x.f.map Yg)]
instance:g! ek sf:=⟨aC sf.eq_1⟩
def UY:=l4 @sf.eq_1
def tx(x:List ek):D:=.sl 5 (x.map sf)
instance:g! (List ek) tx:=⟨Fr.s _⟩
def sT:=l4 @tx.eq_1
structure cb where
 r:(List nb)
 Tables:(List po)
 e:(List ek)
def Qu(x:cb):D:=.agg [.sl 2 (x.r.map ft),.sl 6 (x.Tables.map xj),.sl 5 (x.e.map sf)]
instance:g! cb Qu:=⟨aC Qu.eq_1⟩
def aq8:=l4 @Qu.eq_1
def za(x:Bool):D:=.v (.bool x)
instance:g! Bool za:=⟨aC za.eq_1⟩
def aq6:=l4 @za.eq_1
def qa(x:List Int):D:=.sl 1 (x.map da)
instance:g! (List Int) qa:=⟨Fr.s _⟩
def Y7:=l4 @qa.eq_1
def Ud(x:List (List Int)):D:=.sl 1 (x.map qa)
instance:g! (List (List Int)) Ud:=⟨Fr.s _⟩
def DV:=l4 @Ud.eq_1
structure ll where
 Code:Int
 bf:Int
 bg:Int
 bh:Int
def QE(x:ll):D:=.agg [.v (e! b! x.Code),.v (e! b! x.bf),.v (e! b! x.bg),.v (e! b! x.bh)]
instance:g! ll QE:=⟨aC QE.eq_1⟩
def yQ:=l4 @QE.eq_1
def vR(x:List ej):D:=.sl 2 (x.map Zg)
instance:g! (List ej) vR:=⟨Fr.s _⟩
def CV:=l4 @vR.eq_1
structure pr where
 r:(List nb)
 Tables:(List po)
 w:(List ej)
 d:(List ej)
 az:(List ej)
 a9:Bool
def jt(x:pr):D:=.agg [.sl 2 (x.r.map ft),.sl 6 (x.Tables.map xj),.sl 2 (x.w.map Zg),.sl 2 (x.d.map Zg),.sl 2 (x.az.map Zg),.v (.bool x.a9)]
instance:g! pr jt:=⟨aC jt.eq_1⟩
def YN:=l4 @jt.eq_1
def tL(x:List (List fr)):D:=.sl 1 (x.map Pf)
instance:g! (List (List fr)) tL:=⟨Fr.s _⟩
def AQ:=l4 @tL.eq_1
def EV(x:Int):D:=.v (e! .u8 x)
instance:Fr EV:=⟨aC EV.eq_1⟩
def bp1:=l4 @EV.eq_1
def El(x:Int):D:=.pt (da x)
instance:Fr El:=⟨λx=>Fr.h (e:=da) x⟩
def W7:=l4 @El.eq_1
def px(x:ek):D:=.pt (sf x)
instance:Fr px:=⟨λx=>Fr.h (e:=sf) x⟩
def lT:=l4 @px.eq_1
def Uz(x:kv):D:=.pt (Yg x)
instance:Fr Uz:=⟨λx=>Fr.h (e:=Yg) x⟩
def xV:=l4 @Uz.eq_1
def ox(x:mu):D:=.pt (rf x)
instance:Fr ox:=⟨λx=>Fr.h (e:=rf) x⟩
def kT:=l4 @ox.eq_1
def Tx(x:ByteArray):D:=.pt (OD x)
instance:Fr Tx:=⟨λx=>Fr.h (e:=OD) x⟩
def X7:=l4 @Tx.eq_1
def BC(x:te):D:=.pt (Qv x)
instance:Fr BC:=⟨λx=>Fr.h (e:=Qv) x⟩
def ZY:=l4 @BC.eq_1
structure bz where
 a:Int
 g:Int
 N:Int
def Ea(x:bz):D:=.agg [.v (e! b! x.a),.v (e! b! x.g),.v (e! b! x.N)]
instance:g! bz Ea:=⟨aC Ea.eq_1⟩
def WY:=l4 @Ea.eq_1
def Ru(x:List bz):D:=.sl 3 (x.map Ea)
instance:g! (List bz) Ru:=⟨Fr.s _⟩
def vT:=l4 @Ru.eq_1
structure b8 where
 bk:Int
 bl:Int
 bm:Int
 w:(List bz)
def Pl(x:b8):D:=.agg [.v (e! b! x.bk),.v (e! b! x.bl),.v (e! b! x.bm),.sl 3 (x.w.map Ea)]
instance:g! b8 Pl:=⟨aC Pl.eq_1⟩
def wI:=l4 @Pl.eq_1
def kB(x:List b8):D:=.sl 4 (x.map Pl)
instance:g! (List b8) kB:=⟨Fr.s _⟩
def wG:=l4 @kB.eq_1
def jB(x:b8):D:=.pt (Pl x)
instance:Fr jB:=⟨λx=>Fr.h (e:=Pl) x⟩
def uG:=l4 @jB.eq_1
structure b6 where
 parent:(List Int)
 priority:(List Int)
 outcome:(List Int)
def jx(x:b6):D:=.agg [.sl 1 (x.parent.map da),.sl 1 (x.priority.map da),.sl 1 (x.outcome.map da)]
instance:g! b6 jx:=⟨aC jx.eq_1⟩
def tH:=l4 @jx.eq_1
def Gc(x:List Bool):D:=.sl 1 (x.map za)
instance:g! (List Bool) Gc:=⟨Fr.s _⟩
def cZ:=l4 @Gc.eq_1
def AI(x:List (List bz)):D:=.sl 1 (x.map Ru)
instance:g! (List (List bz)) AI:=⟨Fr.s _⟩
def cO:=l4 @AI.eq_1
structure ic where
 z:Int
 w:(List bz)
 d:(List bz)
 s:(List (List bz))
 av:(List ej)
 Tables:(List po)
def Nl(x:ic):D:=.agg [.v (e! b! x.z),.sl 3 (x.w.map Ea),.sl 3 (x.d.map Ea),.sl 1 (x.s.map Ru),.sl 2 (x.av.map Zg),.sl 6 (x.Tables.map xj)]
instance:g! ic Nl:=⟨aC Nl.eq_1⟩
def aq9:=l4 @Nl.eq_1
structure tk where
 nodes:(List fr)
 starts:(List Int)
 env:ic
def ya(x:tk):D:=.agg [.sl 2 (x.nodes.map Xi),.sl 1 (x.starts.map da),.v (e! b! x.env.z),.sl 3 (x.env.w.map Ea),.sl 3 (x.env.d.map Ea),.sl 1 (x.env.s.map Ru),.sl 2 (x.env.av.map Zg),.sl 6 (x.env.Tables.map xj)]
instance:g! tk ya:=⟨aC ya.eq_1⟩
def tG:=l4 @ya.eq_1
def Ml(x:Int):D:=.v (e! .u64 x)
instance:Fr Ml:=⟨aC Ml.eq_1⟩
def aO2:=l4 @Ml.eq_1
structure j2 where
 I0:Int
 I1:Int
 I2:Int
def ar0(x:j2):D:=.agg [.v (e! b! x.I0),.v (e! b! x.I1),.v (e! b! x.I2)]
instance:g! j2 ar0:=⟨aC ar0.eq_1⟩
def aO5:=l4 @ar0.eq_1
structure i6 where
 scope:ek
 tables:(List po)
 date:Int
 rules:(List Int)
 parents:(List Int)
 priorities:(List Int)
def gm(x:i6):D:=.agg [.v (.string x.scope.q),.v (e! b! x.scope.ac),.sl 3 (x.scope.w.map rf),.sl 3 (x.scope.d.map rf),.sl 9 (x.scope.f.map Yg),.sl 6 (x.tables.map xj),.v (e! b! x.date),.sl 1 (x.rules.map da),.sl 1 (x.parents.map da),.sl 1 (x.priorities.map da)]
instance:g! i6 gm:=⟨aC gm.eq_1⟩
def sG:=l4 @gm.eq_1
def vz(x:i6):D:=.pt (gm x)
instance:Fr vz:=⟨λx=>Fr.h (e:=gm) x⟩
def kE:=l4 @vz.eq_1
structure se where
 z:Int
 w:(List bz)
 s:(List (List bz))
def LM(x:se):D:=.agg [.v (e! b! x.z),.sl 3 (x.w.map Ea),.sl 1 (x.s.map Ru)]
instance:g! se LM:=⟨aC LM.eq_1⟩
def Q7:=l4 @LM.eq_1
structure ri where
 Code:Int
 ar:Int
 u:Int
 bn:Int
def Pv(x:ri):D:=.agg [.v (e! b! x.Code),.v (e! b! x.ar),.v (e! b! x.u),.v (e! b! x.bn)]
instance:g! ri Pv:=⟨aC Pv.eq_1⟩
def VN:=l4 @Pv.eq_1
structure b0 where
 scope:ek
 memberScope:ek
 defs:(List Bool)
 memberDefs:(List Bool)
def aq(x:b0):D:=.agg [.v (.string x.scope.q),.v (e! b! x.scope.ac),.sl 3 (x.scope.w.map rf),.sl 3 (x.scope.d.map rf),.sl 9 (x.scope.f.map Yg),.v (.string x.memberScope.q),.v (e! b! x.memberScope.ac),.sl 3 (x.memberScope.w.map rf),.sl 3 (x.memberScope.d.map rf),.sl 9 (x.memberScope.f.map Yg),.sl 1 (x.defs.map za),.sl 1 (x.memberDefs.map za)]
instance:g! b0 aq:=⟨aC aq.eq_1⟩
def xI:=l4 @aq.eq_1
structure wt where
 bd:(List bz)
 f:(List Int)
def bq(x:wt):D:=.agg [.sl 3 (x.bd.map Ea),.sl 1 (x.f.map da)]
instance:g! wt bq:=⟨aC bq.eq_1⟩
def yI:=l4 @bq.eq_1
def mB(x:List wt):D:=.sl 2 (x.map bq)
instance:g! (List wt) mB:=⟨Fr.s _⟩
def xG:=l4 @mB.eq_1
structure b7 where
 bd:(List bz)
 f:(List Int)
 s:(List wt)
def ZF(x:b7):D:=.agg [.sl 3 (x.bd.map Ea),.sl 1 (x.f.map da),.sl 2 (x.s.map bq)]
instance:g! b7 ZF:=⟨aC ZF.eq_1⟩
def vV:=l4 @ZF.eq_1
def Rv(x:b0):D:=.pt (aq x)
instance:Fr Rv:=⟨λx=>Fr.h (e:=aq) x⟩
def vG:=l4 @Rv.eq_1
def wV(x:ic):D:=.pt (Nl x)
instance:Fr wV:=⟨λx=>Fr.h (e:=Nl) x⟩
def YY:=l4 @wV.eq_1
structure j3 where
 I0:Int
 I1:Int
def ar1(x:j3):D:=.agg [.v (e! b! x.I0),.v (e! b! x.I1)]
instance:g! j3 ar1:=⟨aC ar1.eq_1⟩
def aO6:=l4 @ar1.eq_1
structure ve where
 a5:Int
 as:(List Int)
def PE(x:ve):D:=.agg [.v (e! b! x.a5),.sl 1 (x.as.map da)]
instance:g! ve PE:=⟨aC PE.eq_1⟩
def xQ:=l4 @PE.eq_1
structure ma where
 u:Int
 aw:Int
 bc:Int
 bb:Int
 a6:Int
 aj:Int
 ba:Int
 au:ve
def vf(x:ma):D:=.agg [.v (e! b! x.u),.v (e! b! x.aw),.v (e! b! x.bc),.v (e! b! x.bb),.v (e! b! x.a6),.v (e! b! x.aj),.v (e! b! x.ba),.v (e! b! x.au.a5),.sl 1 (x.au.as.map da)]
instance:g! ma vf:=⟨aC vf.eq_1⟩
def XN:=l4 @vf.eq_1
structure ka where
 Id:Int
 ar:Int
 ap:Int
 Value:bz
 ab:ia
 ah:Int
def Kd(x:ka):D:=.agg [.v (e! b! x.Id),.v (e! b! x.ar),.v (e! b! x.ap),.v (e! b! x.Value.a),.v (e! b! x.Value.g),.v (e! b! x.Value.N),.v (e! b! x.ab.n),.v (e! b! x.ab.To),.v (e! b! x.ah)]
instance:g! ka Kd:=⟨aC Kd.eq_1⟩
def S7:=l4 @Kd.eq_1
def Zj(x:List ka):D:=.sl 9 (x.map Kd)
instance:g! (List ka) Zj:=⟨Fr.s _⟩
def zV:=l4 @Zj.eq_1
structure ml where
 Id:Int
 ai:Int
 s:Int
 aa:(List ka)
def Fz(x:ml):D:=.agg [.v (e! b! x.Id),.v (e! b! x.ai),.v (e! b! x.s),.sl 9 (x.aa.map Kd)]
instance:g! ml Fz:=⟨aC Fz.eq_1⟩
def WN:=l4 @Fz.eq_1
structure ke where
 j:Int
 ae:Int
 Code:Int
def vI(x:ke):D:=.agg [.v (e! b! x.j),.v (e! b! x.ae),.v (e! b! x.Code)]
instance:g! ke vI:=⟨aC vI.eq_1⟩
def RY:=l4 @vI.eq_1
def RE(x:List ia):D:=.sl 2 (x.map fm)
instance:g! (List ia) RE:=⟨Fr.s _⟩
def fK:=l4 @RE.eq_1
structure j4 where
 j:Int
 ah:Int
 bo:Int
def Tq(x:j4):D:=.agg [.v (e! b! x.j),.v (e! b! x.ah),.v (e! b! x.bo)]
instance:g! j4 Tq:=⟨aC Tq.eq_1⟩
def xC:=l4 @Tq.eq_1
def Dd(x:List ke):D:=.sl 3 (x.map vI)
instance:g! (List ke) Dd:=⟨Fr.s _⟩
def oT:=l4 @Dd.eq_1
structure hO where
 z:Int
 j:Int
 a:Int
 ae:Int
def fb(x:hO):D:=.agg [.v (e! b! x.z),.v (e! b! x.j),.v (e! b! x.a),.v (e! b! x.ae)]
instance:g! hO fb:=⟨aC fb.eq_1⟩
def iT:=l4 @fb.eq_1
def Ga(x:List hO):D:=.sl 4 (x.map fb)
instance:g! (List hO) Ga:=⟨Fr.s _⟩
def aO:=l4 @Ga.eq_1
structure oe where
 Id:Int
 n:Int
 To:Int
 a0:Int
 a7:Int
 ax:Int
 ae:Int
def ef(x:oe):D:=.agg [.v (e! b! x.Id),.v (e! b! x.n),.v (e! b! x.To),.v (e! b! x.a0),.v (e! b! x.a7),.v (e! b! x.ax),.v (e! b! x.ae)]
instance:g! oe ef:=⟨aC ef.eq_1⟩
def uV:=l4 @ef.eq_1
def bp(x:List oe):D:=.sl 7 (x.map ef)
instance:g! (List oe) bp:=⟨Fr.s _⟩
def zQ:=l4 @bp.eq_1
structure na where
 ag:ml
 al:(List hO)
 an:(List oe)
 z:Int
 aq:Int
def nk(x:na):D:=.agg [.v (e! b! x.ag.Id),.v (e! b! x.ag.ai),.v (e! b! x.ag.s),.sl 9 (x.ag.aa.map Kd),.sl 4 (x.al.map fb),.sl 7 (x.an.map ef),.v (e! b! x.z),.v (e! b! x.aq)]
instance:g! na nk:=⟨aC nk.eq_1⟩
def gT:=l4 @nk.eq_1
structure ot where
 j:Int
 a8:Int
 a1:Int
 a3:Int
def Bb(x:ot):D:=.agg [.v (e! b! x.j),.v (e! b! x.a8),.v (e! b! x.a1),.v (e! b! x.a3)]
instance:g! ot Bb:=⟨aC Bb.eq_1⟩
def zI:=l4 @Bb.eq_1
def vb(x:List ot):D:=.sl 4 (x.map Bb)
instance:g! (List ot) vb:=⟨Fr.s _⟩
def yG:=l4 @vb.eq_1
structure vk where
 a:Int
 z:Int
 j:Int
 bi:Int
 bj:Int
 be:Int
 ax:Int
 ae:Int
 a2:ka
def sy(x:vk):D:=.agg [.v (e! b! x.a),.v (e! b! x.z),.v (e! b! x.j),.v (e! b! x.bi),.v (e! b! x.bj),.v (e! b! x.be),.v (e! b! x.ax),.v (e! b! x.ae),.v (e! b! x.a2.Id),.v (e! b! x.a2.ar),.v (e! b! x.a2.ap),.v (e! b! x.a2.Value.a),.v (e! b! x.a2.Value.g),.v (e! b! x.a2.Value.N),.v (e! b! x.a2.ab.n),.v (e! b! x.a2.ab.To),.v (e! b! x.a2.ah)]
instance:g! vk sy:=⟨aC sy.eq_1⟩
def SY:=l4 @sy.eq_1
def kx(x:vk):D:=.pt (sy x)
instance:Fr kx:=⟨λx=>Fr.h (e:=sy) x⟩
def jT:=l4 @kx.eq_1
structure b9 where
 To:Int
 ah:Int
def kh(x:b9):D:=.agg [.v (e! b! x.To),.v (e! b! x.ah)]
instance:g! b9 kh:=⟨aC kh.eq_1⟩
def zC:=l4 @kh.eq_1
def ZN(x:List vk):D:=.sl 17 (x.map sy)
instance:g! (List vk) ZN:=⟨Fr.s _⟩
def pT:=l4 @ZN.eq_1
def ze:=(ak (ak (ak (ak (ak (ak (ak @aO3 @Z7) (ak @R7 @yV)) (ak (ak @aO4 @V7) (ak @UN @aq7))) (ak (ak (ak @aZ @VY) (ak @uT @TY)) (ak (ak @rT @T7) (ak @AV @U7)))) (ak (ak (ak (ak @BV @UY) (ak @sT @aq8)) (ak (ak @aq6 @Y7) (ak @DV @yQ))) (ak (ak (ak @CV @YN) (ak @AQ @bp1)) (ak (ak @W7 @lT) (ak @xV @kT))))) (ak (ak (ak (ak (ak @X7 @ZY) (ak @WY @vT)) (ak (ak @wI @wG) (ak @uG @tH))) (ak (ak (ak @cZ @cO) (ak @aq9 @tG)) (ak (ak @aO2 @aO5) (ak @sG @kE)))) (ak (ak (ak (ak @Q7 @VN) (ak @xI @yI)) (ak (ak @xG @vV) (ak @vG @YY))) (ak (ak (ak @aO6 @xQ) (ak @XN @S7)) (ak (ak @zV @WN) (ak @RY @fK)))))) (ak (ak (ak (ak @xC @oT) (ak @iT @aO)) (ak (ak @uV @zQ) (ak @gT @zI))) (ak (ak (ak @yG @SY) (ak @jT @zC)) @pT)))
def zz:type_of% (ak @zx @ze):=ak @zx @ze
def zg:type_of% (ak @zq @ze):=ak @zq @ze
def tz{N:Nat}{s S:St}(ρ:Iv) (h:lH (Sq ρ s.m 9) s.t S.t/\RJ ρ s.m ρ S.m:=by first|(simp only[zg];done)|(simp only[zg, *];done)) (hk:RD ρ N=a38:=by rfl) (a:(ρ.filterMap (·.1)).Nodup:=by decide):f' N s S:=f'.q ρ hk a h
def ez{rs:List RV}{o:D}{s:St}(h:JV (Tb s rs) s.m o:=by simp only[zz,zr];exact fq (by first|(simp only[zg];done)|(simp only[zg, *];done)|(simp only[zg, *,List.drop_zero,Nat.zero_add,List.length_map];done))):cC rs o .ret s:=er h
noncomputable section
abbrev q6(a b c:Type):=a->Option (Ex a b c)
def il(c:ek):q6 Int Unit Bool:=λa=>ite (a<a00 c.w) ((c! c.w a).bind λb=>ite (80<(b.q.size:Int)) (M (l? a39))<|M (i! (aa b! (a+1))))<|M (i? ())
def bl(c:ek):q6 Int Unit Bool:=λa=>ite (a<a00 c.d) ((c! c.d a).bind λb=>ite (80<(b.q.size:Int)) (M (l? a39))<|M (i! (aa b! (a+1))))<|M (i? ())
def Zk(d:ek):q6 Int Unit Bool:=λb=>ite (b<a00 d.f) ((c! d.f b).bind λa=>b? (ite (¬80<(a.q.size:Int)) (ite (¬80<(a.a4.size:Int)) (ite (¬50<(a00 a.ak:Int)) (M (s6 (50<(a00 a.Value:Int))))<|M a38)<|M a38)<|M a38) λc=>ite c (M (l? a39))<|M (i! (aa b! (b+1))))<|M (i? ())
def sj(b:ek):Option Bool:=b? (ite (¬80<(b.q.size:Int)) (ite (¬14<(a00 b.w:Int)) (ite (¬14<(a00 b.d:Int)) (M (s6 (60<(a00 b.f:Int))))<|M a38)<|M a38)<|M a38) λa=>ite a (M a39)<|(ca (il b) 0).bind λy=>match y with |.inr v=>M v |.inl _=>(ca (bl b) 0).bind λy=>match y with |.inr v=>M v |.inl _=>(ca (Zk b) 0).bind λy=>match y with |.inr v=>M v |.inl _=>M a38
def fk(e:cb) (d:Int):q6 Int Unit (Ex Int Unit Bool):=λa=>(c! e.r d).bind λb=>ite (a<a00 b.s) ((c! b.s a).bind λc=>ite (80<(c.size:Int)) (M (l? (l? a39)))<|M (i! (aa b! (a+1))))<|M (i? ())
def cn(d:cb):q6 Int Unit Bool:=λa=>ite (a<a00 d.r) (b? ((c! d.r a).bind λb=>ite (¬80<(b.q.size:Int)) (M (s6 (20<(a00 b.s:Int))))<|M a38) λc=>ite c (M (l? a39))<|(ca (fk d a) 0).bind λy=>match y with |.inr v=>M v |.inl _=>M (i! (aa b! (a+1))))<|M (i? ())
def bn(e:cb):q6 (Int×Int) Unit Bool:=λ(c,a)=>ite (a<a00 e.Tables) ((c! e.Tables a).bind λb=>b? (ite (¬80<(b.q.size:Int)) (M (s6 (150<(aa b! (c+(a00 b.Rows:Int))))))<|M a38) λd=>ite d (M (l? a39))<|M (i! (aa b! (c+(a00 b.Rows:Int)),aa b! (a+1))))<|M (i? ())
def Zm(g:cb):q6 (Int×Int) Unit Bool:=λ(c,a)=>ite (a<a00 g.e) ((c! g.e a).bind λb=>b? (if¬60<(aa b! (c+(a00 b.f:Int)))then(sj b).bind λe=>M (!e)else M a38) λd=>ite d (M (l? a39))<|M (i! (aa b! (c+(a00 b.f:Int)),aa b! (a+1))))<|M (i? ())
def Eu(b:cb):Option Bool:=b? (ite (¬9<(a00 b.r:Int)) (ite (¬9<(a00 b.Tables:Int)) (M (s6 (5<(a00 b.e:Int))))<|M a38)<|M a38) λa=>ite a (M a39)<|(ca (cn b) 0).bind λy=>match y with |.inr v=>M v |.inl _=>(ca (bn b) (0,0)).bind λy=>match y with |.inr v=>M v |.inl _=>(ca (Zm b) (0,0)).bind λy=>match y with |.inr v=>M v |.inl _=>M a38
def nu(b:Int):Option Bool:=b? (ite (97<=b) (M (s6 (b<=122)))<|M a39) λa=>M a
def Vx(b:Int):Option Bool:=b? (ite (48<=b) (M (s6 (b<=57)))<|M a39) λa=>M a
def Qe(f:ByteArray):q6 Int Int Unit:=λe=>b? (ite (e<(f.size:Int)) ((CA f e).bind λa=>(nu a).bind λc=>ite (c=a39) ((Vx a).bind λd=>ite (d=a39) (M (a==95))<|M a38)<|M a38)<|M a39) λb=>ite b (M (i! (aa b! (e+1))))<|M (i? e)
def qo(b:ByteArray):Option Int:=(ca (Qe b) 0).bind λy=>match y with |.inr _=>s5 |.inl a=>M a
def ug(b:ByteArray):Option Bool:=b? (ite (b=(n? #[105,102])) (M a38)<|ite (b=(n? #[116,104,101,110])) (M a38)<|ite (b=(n? #[101,108,115,101])) (M a38)<|ite (b=(n? #[111,114])) (M a38)<|ite (b=(n? #[97,110,100])) (M a38)<|ite (b=(n? #[110,111,116])) (M a38)<|ite (b=(n? #[116,114,117,101])) (M a38)<|ite (b=(n? #[102,97,108,115,101])) (M a38)<|ite (b=(n? #[116,111,100,97,121])) (M a38)<|ite (b=(n? #[115,104,97,114,101])) (M a38)<|ite (b=(n? #[100,105,118])) (M a38)<|ite (b=(n? #[114,111,117,110,100])) (M a38)<|ite (b=(n? #[109,105,110])) (M a38)<|ite (b=(n? #[109,97,120])) (M a38)<|ite (b=(n? #[112,108,117,115])) (M a38)<|ite (b=(n? #[109,111,110,116,104,115])) (M a38)<|ite (b=(n? #[100,97,121,115])) (M a38)<|ite (b=(n? #[121,101,97,114,115])) (M a38)<|ite (b=(n? #[121,101,97,114])) (M a38)<|ite (b=(n? #[109,111,110,116,104])) (M a38)<|ite (b=(n? #[116,97,98])) (M a38)<|ite (b=(n? #[98,97,110,100])) (M a38)<|ite (b=(n? #[99,111,117,110,116])) (M a38)<|ite (b=(n? #[115,117,109])) (M a38)<|ite (b=(n? #[97,108,108])) (M a38)<|ite (b=(n? #[97,110,121])) (M a38)<|ite (b=(n? #[109,111,115,116])) (M a38)<|ite (b=(n? #[101,110,117,109])) (M a38)<|ite (b=(n? #[116,97,98,108,101])) (M a38)<|ite (b=(n? #[114,111,119])) (M a38)<|ite (b=(n? #[115,99,111,112,101])) (M a38)<|ite (b=(n? #[109,101,109,98,101,114,115])) (M a38)<|ite (b=(n? #[105,110,112,117,116])) (M a38)<|ite (b=(n? #[100,101,102])) (M a38)<|ite (b=(n? #[114,117,108,101])) (M a38)<|ite (b=(n? #[111,102])) (M a38)<|ite (b=(n? #[111,118,101,114])) (M a38)<|ite (b=(n? #[112,114,105,111])) (M a38)<|ite (b=(n? #[102,114,111,109])) (M a38)<|ite (b=(n? #[116,111])) (M a38)<|ite (b=(n? #[101,110,100])) (M a38)<|ite (b=(n? #[119,104,101,110])) (M a38)<|ite (b=(n? #[105,115])) (M a38)<|ite (b=(n? #[115,114,99])) (M a38)<|ite (b=(n? #[98,111,111,108])) (M a38)<|ite (b=(n? #[105,110,116])) (M a38)<|ite (b=(n? #[109,111,110,101,121])) (M a38)<|ite (b=(n? #[114,97,116,101])) (M a38)<|ite (b=(n? #[100,97,116,101])) (M a38)<|ite (b=(n? #[100,111,119,110])) (M a38)<|ite (b=(n? #[117,112])) (M a38)<|ite (b=(n? #[122,101,114,111])) (M a38)<|ite (b=(n? #[97,119,97,121])) (M a38)<|ite (b=(n? #[104,97,108,102])) (M a38)<|M (s6 (b=(n? #[101,118,101,110])))) λa=>ite a (M a38)<|M a39
def kc(f:ByteArray):Option Bool:=b? (ite (¬f=(n? #[])) ((CA f 0).bind λb=>(nu b).bind λc=>ite c ((qo f).bind λd=>ite (d=(f.size:Int)) (ite ((f.size:Int)<=16) ((ug f).bind λe=>M (!e))<|M a39)<|M a39)<|M a39)<|M a39) λa=>M a
def Ee(d:List nb) (e:(nb->Option Bool)):q6 Int Unit Int:=λc=>ite (c<a00 d) ((c! d c).bind λa=>(e a).bind λb=>ite b (M (l? c))<|M (i! (aa b! (c+1))))<|M (i? ())
def Vc(a:List nb) (b:(nb->Option Bool)):Option Int:=(ca (Ee a b) 0).bind λy=>match y with |.inr v=>M v |.inl _=>M (-1)
def zb(b:List nb) (c:(nb->Option Bool)):Option Bool:=(Vc b c).bind λa=>M (s6 (0<=a))
def zi(a:nb) (b:ByteArray):Option Bool:=M (s6 (a.q=b))
def Tr(c:List nb) (d:ByteArray):Option Bool:=(zb c (λa=>zi a d)).bind λb=>M b
def af(c:List ByteArray) (d:ByteArray):q6 Int Unit Int:=λb=>ite (b<a00 c) ((c! c b).bind λa=>ite (d=a) (M (l? b))<|M (i! (aa b! (b+1))))<|M (i? ())
def ql(a:List ByteArray) (b:ByteArray):Option Int:=(ca (af a b) 0).bind λy=>match y with |.inr v=>M v |.inl _=>M (-1)
def Ze(b:List ByteArray) (c:ByteArray):Option Bool:=(ql b c).bind λa=>M (s6 (0<=a))
def jo(f:nb):q6 Int Unit (Int×Int):=λa=>ite (a<a00 f.s) ((c! f.s a).bind λb=>(kc b).bind λc=>ite (c=a39) (M (l? (2,aa b! (100+a))))<|(Jw f.s a).bind λd=>(Ze d b).bind λe=>ite e (M (l? (7,aa b! (100+a))))<|M (i! (aa b! (a+1))))<|M (i? ())
def iu(e:cb) (f:Int) (d:nb):Option (Int×Int):=(kc d.q).bind λa=>ite (a=a39) (M (2,0))<|(Jw e.r f).bind λb=>(Tr b d.q).bind λc=>ite c (M (7,0))<|ite ((a00 d.s:Int)=0) (M (5,0))<|ite (16<(a00 d.s:Int)) (M (4,116))<|(ca (jo d) 0).bind λy=>match y with |.inr v=>M v |.inl _=>M (0,0)
def rm(d:cb):q6 Int Unit ll:=λc=>ite (c<a00 d.r) ((c! d.r c).bind λb=>(iu d c b).bind λa=>ite (¬a.1=0) (M (l? (ll.mk a.1 1 c a.2)))<|M (i! (aa b! (c+1))))<|M (i? ())
def Xv(a:cb):Option ll:=ite (8<(a00 a.r:Int)) (M (ll.mk 4 1 8 0))<|(ca (rm a) 0).bind λy=>match y with |.inr v=>M v |.inl _=>M (ll.mk 0 0 0 0)
def od(c:ej) (d:List nb):Option Bool:=b? (ite (c.a=1) (M a38)<|ite (c.a=2) (M a38)<|ite (c.a=3) (M a38)<|ite (c.a=4) (M a38)<|M (c.a==5)) λa=>ite a (M (c.g==0))<|ite (c.a=6) (b? (ite (0<=c.g) (M (s6 (c.g<a00 d)))<|M a39) λb=>M b)<|M a39
def Xc(c:ej) (d:List nb):Option (Int×Int):=(od c d).bind λa=>ite (a=a39) (M (0,-1))<|ite (c.a=1) (M (0,1))<|ite (c.a=2) (M (-1000000000000,1000000000000))<|ite (c.a=3) (M (-1000000000000000,1000000000000000))<|ite (c.a=4) (M (-1000000000,1000000000))<|ite (c.a=5) (M (0,109572))<|(c! d c.g).bind λb=>M (0,aa b! ((a00 b.s:Int)-1))
def pe(b:ia):Option Bool:=b? (ite (0<=b.n) (ite (b.n<=b.To) (M (s6 (b.To<=109573)))<|M a39)<|M a39) λa=>M a
def Zb(d:List te) (e:(te->Option Bool)):q6 Int Unit (Int×Bool):=λc=>ite (c<a00 d) ((c! d c).bind λa=>(e a).bind λb=>ite b (M (l? (c,a38)))<|M (i! (aa b! (c+1))))<|M (i? ())
def Bc(a:List te) (b:(te->Option Bool)):Option (Int×Bool):=(ca (Zb a b) 0).bind λy=>match y with |.inr v=>M v |.inl _=>M (0,a39)
def Jd(c:ia):Option Bool:=b? ((pe c).bind λb=>ite b (M (s6 (c.n<c.To)))<|M a39) λa=>M a
def Hn(d e:ia):Option (ia×Bool):=b? ((Jd d).bind λb=>ite b ((Jd e).bind λc=>M (!c))<|M a38) λa=>ite a (M (ia.mk 0 0,a39))<|ite ((min d.To e.To)<=(max d.n e.n)) (M (ia.mk 0 0,a39))<|M (ia.mk (max d.n e.n) (min d.To e.To),a38)
def Ts(c d:te):Option Bool:=(Hn c.ab d.ab).bind λb=>b? (ite b.2 (M (s6 ((max c.Lo d.Lo)<(min c.Hi d.Hi))))<|M a39) λa=>M a
def bf(b c:te):Option Bool:=(Ts b c).bind λa=>M a
def dn(l:po) (d k:(Int×Int)):q6 Int Unit (Int×Int):=λb=>ite (b<a00 l.Rows) ((c! l.Rows b).bind λa=>b? ((pe a.ab).bind λh=>ite h (ite (¬a.ab.n=a.ab.To) (M (s6 (a.Hi<=a.Lo)))<|M a38)<|M a38) λe=>ite e (M (l? (b,3)))<|b? (ite (¬a.Lo<d.1) (ite (¬d.2<a.Lo) (ite (¬(aa b! (a.Hi-1))<d.1) (M (s6 (d.2<(aa b! (a.Hi-1)))))<|M a38)<|M a38)<|M a38) λf=>ite f (M (l? (b,3)))<|b? (ite (¬a.N<k.1) (M (s6 (k.2<a.N)))<|M a38) λg=>ite g (M (l? (b,3)))<|(Jw l.Rows b).bind λi=>(Bc i (λc=>bf c a)).bind λj=>ite j.2 (M (l? (b,11)))<|M (i! (aa b! (b+1))))<|M (i? ())
def Ss(f:po) (g:List nb):Option (Int×Int):=ite (64<(a00 f.Rows:Int)) (M (64,4))<|b? ((od f.af g).bind λb=>ite b ((od f.Value g).bind λc=>M (!c))<|M a38) λa=>ite a (M (-1,8))<|(Xc f.af g).bind λd=>(Xc f.Value g).bind λe=>(ca (dn f d e) 0).bind λy=>match y with |.inr v=>M v |.inl _=>M (0,0)
def Td(d:List po) (e:(po->Option Bool)):q6 Int Unit Int:=λc=>ite (c<a00 d) ((c! d c).bind λa=>(e a).bind λb=>ite b (M (l? c))<|M (i! (aa b! (c+1))))<|M (i? ())
def Ac(a:List po) (b:(po->Option Bool)):Option Int:=(ca (Td a b) 0).bind λy=>match y with |.inr v=>M v |.inl _=>M (-1)
def pb(b:List po) (c:(po->Option Bool)):Option Bool:=(Ac b c).bind λa=>M (s6 (0<=a))
def Rg(a:po) (b:ByteArray):Option Bool:=M (s6 (a.q=b))
def Bt(c:List po) (d:ByteArray):Option Bool:=(pb c (λa=>Rg a d)).bind λb=>M b
def zk(j:cb):q6 Int Unit ll:=λk=>ite (k<a00 j.Tables) ((c! j.Tables k).bind λc=>(Ss c j.r).bind λb=>b? ((kc c.q).bind λh=>ite (h=a39) (M (2,0))<|b? ((Tr j.r c.q).bind λi=>ite (i=a39) ((Jw j.Tables k).bind λf=>(Bt f c.q).bind λg=>M g)<|M a38) λd=>ite d (M (7,0))<|ite (¬b.2=0) (ite (¬b.1=(-1)) (M (b.2,aa b! (100+b.1)))<|M (b.2,0))<|M (0,0)) λ(a,e)=>ite (¬a=0) (M (l? (ll.mk a 2 k e)))<|M (i! (aa b! (k+1))))<|M (i? ())
def Ju(a:cb):Option ll:=ite (8<(a00 a.Tables:Int)) (M (ll.mk 4 2 8 0))<|(ca (zk a) 0).bind λy=>match y with |.inr v=>M v |.inl _=>M (ll.mk 0 0 0 0)
def ym(d:List mu):q6 (List ej×Int) (List ej) Unit:=λ(e,c)=>ite (c<a00 d) ((c! d c).bind λa=>(app 16 e ([a.ao])).bind λb=>M (i! (b,aa b! (c+1))))<|M (i? e)
def Ak(b:List mu):Option (List ej):=(ca (ym b) (([]:List ej),0)).bind λy=>match y with |.inr _=>s5 |.inl a=>M a
def Kg(i:cb) (j:Int):Option pr:=(c! i.e j).bind λa=>(Ak a.w).bind λe=>(Ak a.d).bind λf=>b? (b? (ite (0<=a.ac) (M (s6 (a.ac<a00 i.e)))<|M a39) λc=>ite c ((c! i.e a.ac).bind λg=>(Ak g.d).bind λh=>M (h,a38))<|M (([]:List ej),a39)) λ(d,b)=>M (pr.mk i.r i.Tables e f d b)
def cm(a:List (List Int)) (b:Int):Option (List Int):=ite (a00 a<=1048576/\(∀l∈a,a00 l<=1048576/\∀e∈l,0<=e/\e<a00 a)/\0<=b/\b<a00 a) (M (YO a b)) s5
def ab(a:List Int):Option (List Int):=ite (a00 a<=8796093022208) (M (a.mergeSort λx y=>s6 (x<=y))) s5
def Ma(a:List Int):Option (List Int):=ite (a00 a<=8796093022208) (M (Go.Lib.compact a)) s5
def qn(c:List Int):Option (List Int):=(ab c).bind λa=>(Ma a).bind λb=>M b
def rk(m:List fr):q6 (List Int×List Int×List Int×Int) (List Int×List Int×List Int) Unit:=λ(k,l,b,g)=>ite (g<a00 m) (b? ((c! m g).bind λa=>ite (a.Op=7) ((app 8 k ([a.N])).bind λj=>M (j,l,b))<|ite (a.Op=8) ((app 8 l ([a.N])).bind λh=>M (k,h,b))<|b? (ite (a.Op=36) (M a38)<|ite (a.Op=37) (M a38)<|ite (a.Op=38) (M a38)<|M (a.Op==39)) λc=>ite c ((app 8 b ([a.N])).bind λi=>M (k,l,i))<|M (k,l,b)) λ(d,e,f)=>M (i! (d,e,f,aa b! (g+1))))<|M (i? (k,l,b))
def Og(g:List fr):Option (List Int×List Int×List Int):=(ca (rk g) (([]:List Int),([]:List Int),([]:List Int),0)).bind λy=>match y with |.inr _=>s5 |.inl (a,b,c)=>(qn a).bind λd=>(qn b).bind λe=>(qn c).bind λf=>M (d,e,f)
def gh(h:Int) (f:(List Int×List Int×List Int)):q6 (List Int×Int) (List Int) Unit:=λ(b,c)=>ite (c<a00 f.2.1) (b? ((c! f.2.1 c).bind λe=>b? (ite (0<=e) (M (s6 (e<h)))<|M a39) λg=>ite g ((app 8 b ([e])).bind λd=>M d)<|M b) λa=>M (i! (a,aa b! (c+1))))<|M (i? b)
def fh(h:Int) (g:(List Int×List Int×List Int)):q6 (List Int×Int) (List Int) Unit:=λ(a,b)=>ite (b<a00 g.2.1) (b? ((c! g.2.1 b).bind λc=>b? (ite (0<=c) (M (s6 (c<h)))<|M a39) λd=>ite d ((app 8 a ([c])).bind λf=>M f)<|M a) λe=>M (i! (e,aa b! (b+1))))<|M (i? a)
def Df(e:kv) (f:Int):Option (List Int):=(Og e.ak).bind λc=>(Og e.Value).bind λd=>(ca (gh f c) (([]:List Int),0)).bind λy=>match y with |.inr _=>s5 |.inl a=>(ca (fh f d) (a,0)).bind λy=>match y with |.inr _=>s5 |.inl b=>M b
def lk(c:List Int):Option (List Int):=(ab c).bind λa=>(Ma a).bind λb=>M b
def jd(a:ek):Option (List (List Int)):=ite (a00 a.d<=1048576/\a.f.length<=1048576/\(∀r∈a.f,a00 r.ak<=1048576/\r.Value.length<=1048576)) ((p! a.d.length).mapM λ(d:Nat)=>((a.f.filter λ(r:kv)=>r.u==(d:Int)).mapM λr=>Df r a.d.length).bind λls=>M (Yd ls.flatten)) s5
def bd(f:ek) (e:Int):Option (List Int):=b? (ite (¬e<0) (M (s6 ((a00 f.d:Int)<=e)))<|M a38) λa=>ite a (M ([]))<|(jd f).bind λb=>(cm b e).bind λc=>M c
def Sd(d:List ek) (e:(ek->Option Bool)):q6 Int Unit Int:=λc=>ite (c<a00 d) ((c! d c).bind λa=>(e a).bind λb=>ite b (M (l? c))<|M (i! (aa b! (c+1))))<|M (i? ())
def zc(a:List ek) (b:(ek->Option Bool)):Option Int:=(ca (Sd a b) 0).bind λy=>match y with |.inr v=>M v |.inl _=>M (-1)
def ob(b:List ek) (c:(ek->Option Bool)):Option Bool:=(zc b c).bind λa=>M (s6 (0<=a))
def Te(a b:ek):Option Bool:=M (s6 (a.q=b.q))
def Ld(a b:mu):Option Bool:=M (s6 (a.q=b.q))
def Qd(d:List mu) (e:(mu->Option Bool)):q6 Int Unit Int:=λc=>ite (c<a00 d) ((c! d c).bind λa=>(e a).bind λb=>ite b (M (l? c))<|M (i! (aa b! (c+1))))<|M (i? ())
def xc(a:List mu) (b:(mu->Option Bool)):Option Int:=(ca (Qd a b) 0).bind λy=>match y with |.inr v=>M v |.inl _=>M (-1)
def Ra(b:List mu) (c:(mu->Option Bool)):Option Bool:=(xc b c).bind λa=>M (s6 (0<=a))
def ko(i:cb) (h:mu) (j c:List mu):Option Int:=(kc h.q).bind λd=>ite (d=a39) (M 2)<|b? ((Ra j (λa=>Ld a h)).bind λe=>ite (e=a39) ((Ra c (λa=>Ld a h)).bind λf=>M f)<|M a38) λb=>ite b (M 7)<|(od h.ao i.r).bind λg=>ite (g=a39) (M 8)<|M 0
def Fe(d:List kv) (e:(kv->Option Bool)):q6 Int Unit Int:=λc=>ite (c<a00 d) ((c! d c).bind λa=>(e a).bind λb=>ite b (M (l? c))<|M (i! (aa b! (c+1))))<|M (i? ())
def Wc(a:List kv) (b:(kv->Option Bool)):Option Int:=(ca (Fe a b) 0).bind λy=>match y with |.inr v=>M v |.inl _=>M (-1)
def Ab(b:List kv) (c:(kv->Option Bool)):Option Bool:=(Wc b c).bind λa=>M (s6 (0<=a))
def Uf(a b:kv):Option Bool:=M (s6 (a.q=b.q))
def w!(b a:ByteArray):Option Bool:=ite (a.size=1) (M (b.data.toList.contains (a.data.toList.headD 0))) s5
def Dk(d:ByteArray):q6 Int Unit Bool:=λa=>ite (a<(d.size:Int)) (b? ((CA d a).bind λb=>ite (¬b<32) (M (s6 (126<b)))<|M a38) λc=>ite c (M (l? a39))<|M (i! (aa b! (a+1))))<|M (i? ())
def iq(c:ByteArray):Option Bool:=b? (ite (¬64<(c.size:Int)) ((w! c (n? #[34])).bind λb=>M b)<|M a38) λa=>ite a (M a39)<|(ca (Dk c) 0).bind λy=>match y with |.inr v=>M v |.inl _=>M a38
def pn(d:Int):Option Int:=b? (ite (d=1) (M a38)<|ite (d=2) (M a38)<|ite (d=3) (M a38)<|ite (d=4) (M a38)<|ite (d=5) (M a38)<|ite (d=6) (M a38)<|ite (d=7) (M a38)<|ite (d=8) (M a38)<|ite (d=9) (M a38)<|ite (d=35) (M a38)<|ite (d=36) (M a38)<|ite (d=37) (M a38)<|ite (d=38) (M a38)<|M (d==39)) λa=>ite a (M 0)<|b? (ite (d=10) (M a38)<|ite (d=25) (M a38)<|ite (d=31) (M a38)<|ite (d=32) (M a38)<|ite (d=33) (M a38)<|M (d==34)) λb=>ite b (M 1)<|b? (ite (d=11) (M a38)<|ite (d=12) (M a38)<|ite (d=13) (M a38)<|ite (d=14) (M a38)<|ite (d=15) (M a38)<|ite (d=16) (M a38)<|ite (d=17) (M a38)<|ite (d=18) (M a38)<|ite (d=19) (M a38)<|ite (d=20) (M a38)<|ite (d=21) (M a38)<|ite (d=22) (M a38)<|ite (d=23) (M a38)<|ite (d=24) (M a38)<|ite (d=27) (M a38)<|ite (d=28) (M a38)<|ite (d=29) (M a38)<|M (d==30)) λc=>ite c (M 2)<|ite (d=26) (M 3)<|M (-1)
def im(m:List fr):q6 (List Int×List Int×Int) (List Int×List Int) (List Int×Int×Int):=λ(g,c,a)=>ite (a<a00 m) ((c! m a).bind λl=>(pn l.Op).bind λf=>ite (f<0) (M (l? ([],a,2)))<|ite ((a00 c:Int)<f) (M (l? ([],a,5)))<|(c! g a).bind λn=>(put g a a).bind λb=>b? (ite (0<f) ((c! c (aa b! ((a00 c:Int)-f))).bind λh=>(c! b a).bind λo=>(put b a h).bind λi=>M i)<|M b) λd=>(Jw c (aa b! ((a00 c:Int)-f))).bind λj=>(c! d a).bind λk=>(app 8 j ([k])).bind λe=>ite (12<(a00 e:Int)) (M (l? ([],a,16)))<|M (i! (d,e,aa b! (a+1))))<|M (i? (g,c))
def Zn(d:List fr):Option (List Int×Int×Int):=ite (48<(a00 d:Int)) (M ([],0,4))<|ite ((a00 d:Int)=0) (M ([],0,5))<|(kD 8 0 (a00 d:Int) (a00 d:Int)).bind λc=>(ca (im d) (c,([]:List Int),0)).bind λy=>match y with |.inr v=>M v |.inl (a,b)=>ite (1<(a00 b:Int)) (M ([],(a00 d:Int),4))<|M (a,0,0)
def Nr(b:Int):Option Bool:=b? (ite (b=1) (M a38)<|ite (b=2) (M a38)<|ite (b=3) (M a38)<|ite (b=4) (M a38)<|ite (b=5) (M a38)<|ite (b=6) (M a38)<|ite (b=7) (M a38)<|ite (b=8) (M a38)<|ite (b=14) (M a38)<|ite (b=15) (M a38)<|ite (b=16) (M a38)<|ite (b=33) (M a38)<|ite (b=34) (M a38)<|ite (b=36) (M a38)<|ite (b=37) (M a38)<|ite (b=38) (M a38)<|M (b==39)) λa=>ite a (M a38)<|M a39
def Ae(c d:Int) (e:pr):Option (ej×Int):=(Xc (ej.mk d 0) e.r).bind λa=>b? (ite (¬c<a.1) (M (s6 (a.2<c)))<|M a38) λb=>ite b (M (ej.mk 0 0,3))<|M (ej.mk d 0,0)
def fu(c:Int) (d:pr):Option (ej×Int):=ite (c<0) (M (ej.mk 0 0,3))<|b? (if¬(a00 d.r:Int)<=(aa b! (s? c 16))then(c! d.r (aa b! (s? c 16))).bind λb=>M (s6 ((a00 b.s:Int)<=(v? c 16)))else M a38) λa=>ite a (M (ej.mk 0 0,6))<|M (ej.mk 6 (aa b! (s? c 16)),0)
def Dc(d:Int) (e:List ej) (f:pr):Option (ej×Int):=b? (ite (¬d<0) (M (s6 ((a00 e:Int)<=d)))<|M a38) λb=>ite b (M (ej.mk 0 0,6))<|(c! e d).bind λa=>(od a f.r).bind λc=>ite (c=a39) (M (ej.mk 0 0,8))<|M (a,0)
def vi(b:Int):Option Bool:=b? (ite (0<=b) (M (s6 (b<=5)))<|M a39) λa=>M a
def uk(j:fr) (l:ej) (k:pr):Option (ej×Int):=b? (ite (j.Op=34) (b? (ite (¬j.N<0) ((vi (v? j.N 8)).bind λi=>M (!i))<|M a38) λg=>ite g (M (Sum.inr (ej.mk 0 0,3)))<|M (Sum.inl (aa b! (s? j.N 8))))<|M (Sum.inl j.N)) λz=>match z with |.inr v=>M v |.inl d=>b? (ite (¬d<0) (M (s6 ((a00 k.Tables:Int)<=d)))<|M a38) λh=>ite h (M (ej.mk 0 0,6))<|(c! k.Tables d).bind λa=>b? ((od a.af k.r).bind λe=>ite e ((od a.Value k.r).bind λf=>ite f (M (!((l.a==a.af.a)&&(l.g==a.af.g))))<|M a38)<|M a38) λb=>ite b (M (ej.mk 0 0,8))<|ite (j.Op=34) (b? (ite (a.af.a=3) (M (a.Value.a !=4))<|M a38) λc=>ite c (M (ej.mk 0 0,8))<|M (a.af,0))<|M (a.Value,0)
def Zh(b:Int):Option Bool:=b? (ite (¬b=2) (ite (¬b=3) (M (b==4))<|M a38)<|M a38) λa=>M a
def Pg(e:fr) (f:pr):Option (ej×Int):=ite (f.a9=a39) (M (ej.mk 0 0,6))<|ite (e.Op=35) (M (ej.mk 2 0,0))<|(Dc e.N f.az f).bind λa=>ite (¬a.2=0) (M (ej.mk 0 0,a.2))<|b? (ite (e.Op=36) (ite (¬a.1.a=2) (M (a.1.a==3))<|M a38)<|b? (ite (e.Op=37) (M a38)<|M (e.Op==38)) λd=>ite d (M (a.1.a==1))<|ite (e.Op=39) ((Zh a.1.a).bind λc=>ite (c=a39) (M (a.1.a==5))<|M a38)<|M a39) λb=>ite (b=a39) (M (ej.mk 0 0,8))<|M (a.1,0)
def Yn(f d e:Int):Option (ej×Bool):=ite (f=14) (b? (ite (e=4) (ite (¬d=3) (M (d==4))<|M a38)<|M a39) λb=>M (ej.mk d 0,b))<|ite (e=2) (b? (ite (¬d=2) (M (d==3))<|M a38) λc=>M (ej.mk d 0,c))<|b? (ite (f=15) (ite (d=3) (M (e==3))<|M a39)<|M a39) λa=>ite a (M (ej.mk 4 0,a38))<|M (ej.mk 0 0,a39)
def Ka(J:Int) (U:List ej):Option (ej×Bool):=ite (J=10) ((c! U 0).bind λx2=>(Zh x2.a).bind λx3=>M (x2,x3))<|ite (J=25) ((c! U 0).bind λx5=>M (ej.mk 1 0,x5.a==1))<|b? (ite (J=11) (M a38)<|M (J==12)) λj7=>ite j7 (b? ((c! U 0).bind λf=>(c! U 1).bind λg=>ite (f.a=g.a/\f.g=g.g) ((Zh f.a).bind λN=>M (f.a,f.g,N))<|M (f.a,f.g,a39)) λ(n,o,p)=>M (ej.mk n o,p))<|b? (ite (J=13) (M a38)<|ite (J=14) (M a38)<|M (J==15)) λq=>ite q ((c! U 0).bind λO=>(c! U 1).bind λP=>(Yn J O.a P.a).bind λh=>M (h.1,h.2))<|ite (J=16) (b? ((c! U 0).bind λc=>ite (c.a=3) ((c! U 1).bind λQ=>M (c.a,c.g,Q.a==3))<|M (c.a,c.g,a39)) λ(r,s,t)=>M (ej.mk r s,t))<|b? (ite (J=17) (M a38)<|M (J==18)) λu=>ite u (b? ((c! U 0).bind λa=>(c! U 1).bind λi=>ite (a.a=i.a/\a.g=i.g) ((Zh a.a).bind λR=>ite (R=a39) (M (a.a,a.g,a.a==5))<|M (a.a,a.g,a38))<|M (a.a,a.g,a39)) λ(v,w,x)=>M (ej.mk v w,x))<|b? (ite (J=19) (M a38)<|M (J==20)) λy=>ite y ((c! U 0).bind λj=>(c! U 1).bind λk=>M (ej.mk 1 0,(j.a==k.a)&&(j.g==k.g)))<|b? (ite (J=21) (M a38)<|M (J==22)) λz=>ite z (b? ((c! U 0).bind λe=>(c! U 1).bind λl=>ite (e.a=l.a/\e.g=l.g) ((Zh e.a).bind λS=>ite (S=a39) (M (e.a==5))<|M a38)<|M a39) λA=>M (ej.mk 1 0,A))<|b? (ite (J=23) (M a38)<|M (J==24)) λB=>ite B (b? ((c! U 0).bind λT=>ite (T.a=1) ((c! U 1).bind λj8=>M (j8.a==1))<|M a39) λC=>M (ej.mk 1 0,C))<|ite (J=26) (b? ((c! U 1).bind λb=>(c! U 0).bind λV=>ite (V.a=1) ((c! U 2).bind λm=>M (b.a,b.g,(b.a==m.a)&&(b.g==m.g)))<|M (b.a,b.g,a39)) λ(D,E,F)=>M (ej.mk D E,F))<|b? (ite (J=27) (M a38)<|M (J==28)) λG=>ite G (b? ((c! U 0).bind λd=>ite (d.a=5) ((c! U 1).bind λW=>M (d.a,d.g,W.a==2))<|M (d.a,d.g,a39)) λ(H,I,j9)=>M (ej.mk H I,j9))<|b? (ite (J=29) (M a38)<|M (J==30)) λK=>ite K (b? ((c! U 0).bind λX=>ite (X.a=5) ((c! U 1).bind λY=>M (Y.a==5))<|M a39) λL=>M (ej.mk 2 0,L))<|b? (ite (J=31) (M a38)<|M (J==32)) λj6=>ite j6 ((c! U 0).bind λZ=>M (ej.mk 2 0,Z.a==5))<|M (ej.mk 0 0,a39)
def wa(q:fr) (s:List ej) (r:pr):Option (ej×Int):=b? (ite (q.Op=1) ((Ae q.N 1 r).bind λm=>M (Sum.inr (m.1,m.2)))<|ite (q.Op=2) ((Ae q.N 2 r).bind λn=>M (Sum.inr (n.1,n.2)))<|ite (q.Op=3) ((Ae q.N 3 r).bind λo=>M (Sum.inr (o.1,o.2)))<|ite (q.Op=4) ((Ae q.N 4 r).bind λp=>M (Sum.inr (p.1,p.2)))<|ite (q.Op=5) ((Ae q.N 5 r).bind λa=>M (Sum.inr (a.1,a.2)))<|ite (q.Op=6) ((fu q.N r).bind λb=>M (Sum.inr (b.1,b.2)))<|ite (q.Op=7) ((Dc q.N r.w r).bind λc=>M (Sum.inr (c.1,c.2)))<|ite (q.Op=8) ((Dc q.N r.d r).bind λd=>M (Sum.inr (d.1,d.2)))<|ite (q.Op=9) (M (Sum.inr (ej.mk 5 0,0)))<|b? (ite (q.Op=33) (M a38)<|M (q.Op==34)) λh=>ite h ((c! s 0).bind λk=>(uk q k r).bind λe=>M (Sum.inr (e.1,e.2)))<|b? (ite (q.Op=35) (M a38)<|ite (q.Op=36) (M a38)<|ite (q.Op=37) (M a38)<|ite (q.Op=38) (M a38)<|M (q.Op==39)) λi=>ite i ((Pg q r).bind λf=>M (Sum.inr (f.1,f.2)))<|b? (ite (q.Op=14) (M a38)<|ite (q.Op=15) (M a38)<|M (q.Op==16)) λj=>ite j ((vi q.N).bind λl=>ite (l=a39) (M (Sum.inr (ej.mk 0 0,3)))<|M (Sum.inl ()))<|M (Sum.inl ())) λz=>match z with |.inr v=>M v |.inl _=>(Ka q.Op s).bind λg=>ite (g.2=a39) (M (ej.mk 0 0,8))<|M (g.1,0)
def Mr(k:List fr) (l:pr):q6 (List ej×Int) (List ej) (ej×Int×Int):=λ(b,c)=>ite (c<a00 k) ((c! k c).bind λe=>b? (ite (¬e.N=0) ((Nr e.Op).bind λj=>M (!j))<|M a39) λi=>ite i (M (l? (ej.mk 0 0,c,2)))<|(pn e.Op).bind λd=>(KG b (aa b! ((a00 b:Int)-d))).bind λf=>(wa e f l).bind λa=>ite (¬a.2=0) (M (l? (ej.mk 0 0,c,a.2)))<|(Jw b (aa b! ((a00 b:Int)-d))).bind λg=>(app 16 g ([a.1])).bind λh=>M (i! (h,aa b! (c+1))))<|M (i? b)
def vy(d:List fr) (e:pr):Option (ej×Int×Int):=(Zn d).bind λb=>ite (¬b.2.2=0) (M (ej.mk 0 0,b.2.1,b.2.2))<|(ca (Mr d e) (([]:List ej),0)).bind λy=>match y with |.inr v=>M v |.inl a=>(c! a 0).bind λc=>M (c,0,0)
def Mq(c:List fr) (d:pr) (b:ej):Option Int:=(vy c d).bind λa=>ite (¬a.2.2=0) (M a.2.2)<|ite (¬(a.1.a=b.a/\a.1.g=b.g)) (M 8)<|M 0
def mo(e:kv) (c:List kv):q6 (Int×Int) Int Unit:=λ(a,b)=>ite (b<a00 c) (b? ((c! c b).bind λf=>ite (f.u=e.u) (M (aa b! (a+1)))<|M a) λd=>M (i! (d,aa b! (b+1))))<|M (i? a)
def ju(r:ek) (s:Int) (t:pr):Option Int:=(c! r.f s).bind λa=>(Jw r.f s).bind λp=>(ca (mo a p) (0,0)).bind λy=>match y with |.inr _=>s5 |.inl d=>(kc a.q).bind λi=>ite (i=a39) (M 2)<|(Jw r.f s).bind λj=>(Ab j (λc=>Uf c a)).bind λk=>ite k (M 7)<|b? (ite (¬a.u<0) (M (s6 ((a00 r.d:Int)<=a.u)))<|M a38) λe=>ite e (M 6)<|b? (ite (¬a.am=(-1)) (ite (¬a.am<0) (ite (¬s<=a.am) ((c! r.f a.am).bind λl=>M (l.u !=a.u))<|M a38)<|M a38)<|M a39) λf=>ite f (M 9)<|b? (ite (¬a.ay<0) (M (s6 (9<a.ay)))<|M a38) λg=>ite g (M 3)<|b? (ite (¬a.ab.n<0) (ite (¬a.ab.To<=a.ab.n) (M (s6 (109573<a.ab.To)))<|M a38)<|M a38) λh=>ite h (M 3)<|ite (8<=d) (M 4)<|(iq a.a4).bind λm=>ite (m=a39) (M 2)<|b? (ite (0<(a00 a.ak:Int)) ((Mq a.ak t (ej.mk 1 0)).bind λb=>ite (¬b=0) (M (Sum.inr b))<|M (Sum.inl ()))<|M (Sum.inl ())) λz=>match z with |.inr v=>M v |.inl _=>(c! r.d a.u).bind λn=>(Mq a.Value t n.ao).bind λo=>M o
def dj(c:List Int) (d:Int):q6 Int Unit Int:=λb=>ite (b<a00 c) ((c! c b).bind λa=>ite (d=a) (M (l? b))<|M (i! (aa b! (b+1))))<|M (i? ())
def Qs(a:List Int) (b:Int):Option Int:=(ca (dj a b) 0).bind λy=>match y with |.inr v=>M v |.inl _=>M (-1)
def cg(b:List Int) (c:Int):Option Bool:=(Qs b c).bind λa=>M (s6 (0<=a))
def xm(f:cb) (c:ek):q6 Int Unit (Int×Int):=λa=>ite (a<a00 c.w) ((c! c.w a).bind λd=>(Jw c.w a).bind λe=>(ko f d e ([])).bind λb=>ite (¬b=0) (M (l? (b,aa b! (100+a))))<|M (i! (aa b! (a+1))))<|M (i? ())
def vm(f:cb) (c:ek):q6 Int Unit (Int×Int):=λa=>ite (a<a00 c.d) ((c! c.d a).bind λd=>(Jw c.d a).bind λe=>(ko f d c.w e).bind λb=>ite (¬b=0) (M (l? (b,aa b! (200+a))))<|M (i! (aa b! (a+1))))<|M (i? ())
def um(d:ek) (c:pr):q6 Int Unit (Int×Int):=λa=>ite (a<a00 d.f) ((ju d a c).bind λb=>ite (¬b=0) (M (l? (b,aa b! (300+a))))<|M (i! (aa b! (a+1))))<|M (i? ())
def tm(d:ek):q6 Int Unit (Int×Int):=λa=>ite (a<a00 d.d) ((bd d a).bind λb=>(cg b a).bind λc=>ite c (M (l? (9,aa b! (200+a))))<|M (i! (aa b! (a+1))))<|M (i? ())
def Sr(l:cb) (m:Int):Option (Int×Int):=(c! l.e m).bind λa=>(Jw l.e m).bind λf=>b? ((Tr l.r a.q).bind λh=>ite (h=a39) ((Bt l.Tables a.q).bind λi=>ite (i=a39) ((ob f (λb=>Te b a)).bind λj=>M j)<|M a38)<|M a38) λg=>(kc a.q).bind λk=>ite (k=a39) (M (2,0))<|ite g (M (7,0))<|b? (ite (¬a.ac=(-1)) (ite (¬a.ac<0) (ite (¬m<=a.ac) ((c! f a.ac).bind λd=>M (d.ac !=(-1)))<|M a38)<|M a38)<|M a39) λc=>ite c (M (6,0))<|ite (12<(a00 a.w:Int)) (M (4,112))<|ite (12<(a00 a.d:Int)) (M (4,212))<|(ca (xm l a) 0).bind λy=>match y with |.inr v=>M v |.inl _=>(ca (vm l a) 0).bind λy=>match y with |.inr v=>M v |.inl _=>(Kg l m).bind λe=>(ca (um a e) 0).bind λy=>match y with |.inr v=>M v |.inl _=>(ca (tm a) 0).bind λy=>match y with |.inr v=>M v |.inl _=>M (0,0)
def xk(c:cb):q6 Int Unit ll:=λb=>ite (b<a00 c.e) ((Sr c b).bind λa=>ite (¬a.1=0) (M (l? (ll.mk a.1 3 b a.2)))<|M (i! (aa b! (b+1))))<|M (i? ())
def Iu(a:cb):Option ll:=ite (4<(a00 a.e:Int)) (M (ll.mk 4 3 4 0))<|(ca (xk a) 0).bind λy=>match y with |.inr v=>M v |.inl _=>M (ll.mk 0 0 0 0)
def Ep(d:cb):Option ll:=(Xv d).bind λa=>ite (¬a.Code=0) (M a)<|(Ju d).bind λb=>ite (¬b.Code=0) (M b)<|(Iu d).bind λc=>M c
def mg(q:List kv) (r:(kv->Option Bool)):q6 (List Int×List Int×List Int×Int) (List Int×List Int) Unit:=λ(p,h,i,a)=>ite (a<a00 q) (b? ((c! q a).bind λd=>b? (b? (ite (0<=d.am) (M (s6 (d.am<a)))<|M a39) λo=>ite o ((c! i d.am).bind λj=>M j)<|M (-1)) λc=>(c! i a).bind λs=>(put i a c).bind λb=>(r d).bind λk=>ite k ((c! b a).bind λt=>(put b a (a00 p:Int)).bind λl=>(app 8 p ([a])).bind λm=>(app 8 h ([c])).bind λn=>M (m,n,l))<|M (p,h,b)) λ(e,f,g)=>M (i! (e,f,g,aa b! (a+1))))<|M (i? (p,h))
def Jg(d:List kv) (e:(kv->Option Bool)):Option (List Int×List Int):=(kD 8 0 (a00 d:Int) (a00 d:Int)).bind λc=>(ca (mg d e) (([]:List Int),([]:List Int),c,0)).bind λy=>match y with |.inr _=>s5 |.inl (a,b)=>M (a,b)
def fc(c:ia) (d:Int):Option Bool:=b? ((pe c).bind λb=>ite b (ite (c.n<=d) (M (s6 (d<c.To)))<|M a39)<|M a39) λa=>M a
def rv(b:List fr):Option (List Int×Int):=(Zn b).bind λa=>M (a.1,a.2.2)
def Ig(c:kv) (d e:Int):Option Bool:=b? (ite (c.u=d) ((fc c.ab e).bind λb=>M b)<|M a39) λa=>M a
def zj(h:ek) (b:(List Int×List Int)):q6 (List Int×Int) (List Int) Unit:=λ(g,a)=>ite (a<a00 b.1) ((c! b.1 a).bind λc=>(c! h.f c).bind λd=>(app 8 g ([d.ay])).bind λe=>M (i! (e,aa b! (a+1))))<|M (i? g)
def Wn(d:ek) (e g:Int):Option (List Int×List Int×List Int):=(Jg d.f (λa=>Ig a e g)).bind λc=>(ca (zj d c) (([]:List Int),0)).bind λy=>match y with |.inr _=>s5 |.inl b=>M (c.1,c.2,b)
def pk(f:tk):q6 (List Int×Int×Int) (List Int) Unit:=λ(b,d,a)=>ite (0<=a) ((c! b a).bind λg=>(put b a d).bind λe=>(c! f.starts d).bind λc=>M (i! (e,aa b! (c-1),aa b! (a-1))))<|M (i? b)
def Qf(e:tk) (f:Int):Option (List Int):=(c! e.nodes f).bind λd=>(pn d.Op).bind λb=>(kD 8 0 b b).bind λc=>(ca (pk e) (c,aa b! (f-1),aa b! ((a00 c:Int)-1))).bind λy=>match y with |.inr _=>s5 |.inl a=>M a
def dq(g:fr):Option Bool:=b? ((pn g.Op).bind λe=>ite (¬e<0) (ite (¬g.N=0) ((Nr g.Op).bind λf=>M (!f))<|M a39)<|M a38) λc=>ite c (M a39)<|b? (ite (g.Op=14) (M a38)<|ite (g.Op=15) (M a38)<|M (g.Op==16)) λd=>ite d (b? (ite (0<=g.N) (M (s6 (g.N<=5)))<|M a39) λa=>M a)<|ite (g.Op=34) (b? (ite (0<=g.N) (M (s6 ((v? g.N 8)<=5)))<|M a39) λb=>M b)<|ite (g.Op=6) (M (s6 (0<=g.N)))<|M a38
def uy(g:fr) (h:ic):Option Bool:=ite (g.Op=7) (b? (ite (0<=g.N) (M (s6 (g.N<a00 h.w)))<|M a39) λd=>M d)<|ite (g.Op=8) (b? (ite (0<=g.N) (ite (g.N<a00 h.d) ((c! h.d g.N).bind λf=>M (f.a !=0))<|M a39)<|M a39) λe=>M e)<|ite (g.Op=33) (b? (ite (0<=g.N) (M (s6 (g.N<a00 h.Tables)))<|M a39) λa=>M a)<|ite (g.Op=34) (M (s6 ((aa b! (s? g.N 8))<(a00 h.Tables:Int))))<|b? (ite (g.Op=36) (M a38)<|ite (g.Op=37) (M a38)<|ite (g.Op=38) (M a38)<|M (g.Op==39)) λb=>ite b (b? (ite (0<=g.N) (M (s6 (g.N<a00 h.av)))<|M a39) λc=>M c)<|M a38
def Vb(h:bz):Option Bool:=b? (ite (¬h.a=6) (M (h.g !=0))<|M a39) λe=>ite e (M a39)<|ite (h.a=1) (b? (ite (¬h.N=0) (M (h.N==1))<|M a38) λf=>M f)<|ite (h.a=2) (b? (ite ((-1000000000000)<=h.N) (M (s6 (h.N<=1000000000000)))<|M a39) λg=>M g)<|ite (h.a=3) (b? (ite ((-1000000000000000)<=h.N) (M (s6 (h.N<=1000000000000000)))<|M a39) λa=>M a)<|ite (h.a=4) (b? (ite ((-1000000000)<=h.N) (M (s6 (h.N<=1000000000)))<|M a39) λb=>M b)<|ite (h.a=5) (b? (ite (0<=h.N) (M (s6 (h.N<=109572)))<|M a39) λc=>M c)<|ite (h.a=6) (b? (ite (0<=h.g) (ite (h.g<8) (ite (0<=h.N) (M (s6 (h.N<16)))<|M a39)<|M a39)<|M a39) λd=>M d)<|M a39
def Mc(d:List bz):q6 Int Unit Bool:=λc=>ite (c<a00 d) ((c! d c).bind λa=>(Vb a).bind λb=>ite (b=a39) (M (l? a39))<|M (i! (aa b! (c+1))))<|M (i? ())
def qg(a:List bz):Option Bool:=(ca (Mc a) 0).bind λy=>match y with |.inr v=>M v |.inl _=>M a38
def tt(c:bz) (d:ej):Option Bool:=b? ((Vb c).bind λb=>ite b (ite (c.a=d.a) (M (c.g==d.g))<|M a39)<|M a39) λa=>M a
def Tj(b:Int):Option Bool:=b? (ite (¬b=2) (ite (¬b=3) (M (b==4))<|M a38)<|M a38) λa=>M a
def Sc(e:Int) (d:ej):Option Bool:=ite (¬d.g=0) (M a39)<|ite (e=36) (b? (ite (¬d.a=2) (M (d.a==3))<|M a38) λa=>M a)<|ite (e=39) (b? ((Tj d.a).bind λc=>ite (c=a39) (M (d.a==5))<|M a38) λb=>M b)<|M (d.a==1)
def Pa(c b:Int):Option Bool:=ite (c=10) ((Tj b).bind λa=>M a)<|ite (c=25) (M (b==1))<|M (b==5)
def qe(b c:bz):Option Bool:=b? (ite (b.a=c.a) (M (b.g==c.g))<|M a39) λa=>M a
def Aa(v:Int) (u w:bz):Option Bool:=b? (ite (v=11) (M a38)<|M (v==12)) λq=>ite q (b? ((qe u w).bind λs=>ite s ((Tj u.a).bind λt=>M t)<|M a39) λr=>M r)<|ite (v=13) (b? (ite (w.a=2) (ite (¬u.a=2) (M (u.a==3))<|M a38)<|M a39) λa=>M a)<|ite (v=14) (b? (ite (w.a=4) (ite (¬u.a=3) (M (u.a==4))<|M a38)<|M a39) λb=>M b)<|ite (v=15) (ite (w.a=2) (b? (ite (¬u.a=2) (M (u.a==3))<|M a38) λc=>M c)<|b? (ite (u.a=3) (M (w.a==3))<|M a39) λd=>M d)<|ite (v=16) (b? (ite (u.a=3) (M (w.a==3))<|M a39) λe=>M e)<|b? (ite (v=17) (M a38)<|ite (v=18) (M a38)<|ite (v=21) (M a38)<|M (v==22)) λf=>ite f (b? ((qe u w).bind λn=>ite n ((Tj u.a).bind λo=>ite (o=a39) (M (u.a==5))<|M a38)<|M a39) λg=>M g)<|b? (ite (v=19) (M a38)<|M (v==20)) λh=>ite h ((qe u w).bind λp=>M p)<|b? (ite (v=23) (M a38)<|M (v==24)) λi=>ite i (b? (ite (u.a=1) (M (w.a==1))<|M a39) λj=>M j)<|b? (ite (v=27) (M a38)<|M (v==28)) λk=>ite k (b? (ite (u.a=5) (M (w.a==2))<|M a39) λl=>M l)<|b? (ite (u.a=5) (M (w.a==5))<|M a39) λm=>M m
def ea(y:fr) (z:List bz) (A:ic):Option Bool:=ite (y.Op=7) ((c! A.w y.N).bind λt=>(Vb t).bind λu=>M u)<|ite (y.Op=8) ((c! A.d y.N).bind λv=>(Vb v).bind λw=>M w)<|ite (y.Op=33) ((c! A.Tables y.N).bind λs=>b? ((c! z 0).bind λx=>(tt x s.af).bind λf=>ite f (ite (1<=s.Value.a) (M (s6 (s.Value.a<=6)))<|M a39)<|M a39) λb=>M b)<|ite (y.Op=34) ((c! A.Tables (aa b! (s? y.N 8))).bind λa=>b? ((c! z 0).bind λg=>ite (g.a=3) (ite (a.af.a=3/\a.af.g=0) (M ((a.Value.a==4)&&(a.Value.g==0)))<|M a39)<|M a39) λc=>M c)<|b? (ite (y.Op=36) (M a38)<|ite (y.Op=37) (M a38)<|ite (y.Op=38) (M a38)<|M (y.Op==39)) λd=>ite d ((c! A.av y.N).bind λh=>(Sc y.Op h).bind λi=>M i)<|ite ((a00 z:Int)=1) ((c! z 0).bind λj=>(Pa y.Op j.a).bind λk=>M k)<|ite ((a00 z:Int)=2) ((c! z 0).bind λl=>(c! z 1).bind λm=>(Aa y.Op l m).bind λn=>M n)<|ite ((a00 z:Int)=3) (b? ((c! z 0).bind λo=>ite (o.a=1) ((c! z 1).bind λp=>(c! z 2).bind λq=>(qe p q).bind λr=>M r)<|M a39) λe=>M e)<|M a38
def Bd(p:fr) (q:ic) (o:ej):q6 (Int×Int×Int×Int) (Int×Int×Int) (bz×Int):=λ(d,e,c,b)=>ite (b<a00 q.s) (b? ((c! q.s b).bind λf=>b? (ite (¬(a00 f:Int)<=p.N) ((c! f p.N).bind λl=>M (l.a==0))<|M a38) λg=>ite g (M (Sum.inr (l? (bz.mk 0 0 0,6))))<|(c! f p.N).bind λa=>(tt a o).bind λm=>ite (m=a39) (M (Sum.inr (l? (bz.mk 0 0 0,8))))<|ite (p.Op=36) ((Vb (bz.mk d e (aa b! (c+a.N)))).bind λn=>ite (n=a39) (M (Sum.inr (l? (bz.mk 0 0 0,3))))<|M (Sum.inl (d,e,aa b! (c+a.N))))<|ite (p.Op=37) (M (Sum.inl (d,e,min c a.N)))<|ite (p.Op=38) (M (Sum.inl (d,e,max c a.N)))<|ite (p.Op=39) (b? (ite (¬b=0) (M (s6 (c<a.N)))<|M a38) λh=>ite h (M (Sum.inl (a.a,a.g,a.N)))<|M (Sum.inl (d,e,c)))<|M (Sum.inl (d,e,c))) λz=>match z with |.inr v=>M v |.inl (i,j,k)=>M (i! (i,j,k,aa b! (b+1))))<|M (i? (d,e,c))
def Rf(h:fr) (i:ic):Option (bz×Int):=(c! i.av h.N).bind λd=>b? (ite (h.Op=37) (M 1)<|M 0) λe=>b? (ite (h.Op=39) (M ((a00 i.s:Int)==0))<|M a39) λf=>ite f (M (bz.mk 0 0 0,6))<|(ca (Bd h i d) (d.a,d.g,e,0)).bind λy=>match y with |.inr v=>M v |.inl (a,b,c)=>M (bz.mk a b c,0)
def Wg(c:te) (e d:Int):Option Bool:=b? ((fc c.ab e).bind λb=>ite b (ite (c.Lo<=d) (M (s6 (d<c.Hi)))<|M a39)<|M a39) λa=>M a
def Kw(c:po) (d e:Int):Option (Int×Bool):=(Bc c.Rows (λa=>Wg a d e)).bind λb=>M (b.1,b.2)
def Bf(a b:Int):Option (Int×Int):=ite (0<=a/\a<18446744073709551616/\0<=b/\b<18446744073709551616) (M (a*b / 18446744073709551616,a*b % 18446744073709551616)) s5
def Tg(a b c:Int):Option (Int×Int):=ite (0<=a/\a<c/\0<=b/\b<18446744073709551616/\c<18446744073709551616) (M ((a*18446744073709551616+b) / c,(a*18446744073709551616+b) % c)) s5
def Al(e d:Int):Option (Int×Int×Bool):=b? (ite (d<0) (M (aa .u64 (-(aa .u64 d))))<|M (aa .u64 d)) λc=>(Bf (aa .u64 e) c).bind λb=>ite (1000000<=b.1) (M (0,0,a39))<|(Tg b.1 b.2 1000000).bind λa=>ite (1000000000000000<a.1) (M (0,0,a39))<|ite (d<0) (M (aa b! (-(aa b! a.1)),aa b! (-(aa b! a.2)),a38))<|M (aa b! a.1,aa b! a.2,a38)
def pj(b:Int):Option Bool:=b? (ite (0<=b) (M (s6 (b<=5)))<|M a39) λa=>M a
def wg(b c:Int):Option Bool:=b? (ite (¬c<b) (M (s6 (b<(aa b! (-c)))))<|M a38) λa=>M a
def Cf(a:Int):Option Int:=ite (a<0) (M (aa .u64 (-(aa .u64 a))))<|M (aa .u64 a)
def Vf(f e g:Int) (c:Bool) (a:Int):Option Int:=ite (e=0) (M f)<|b? (ite (a=0) (M c)<|ite (a=1) (M (!c))<|ite (a=3) (M a38)<|ite (a=4) (M (s6 ((aa .u64 (g-e))<=e)))<|ite (a=5) (ite (¬(aa .u64 (g-e))<e) (ite (e=(aa .u64 (g-e))) (M ((v? f 2)==1))<|M a39)<|M a38)<|M a39) λd=>b? (ite d (M (aa .u64 (f+1)))<|M f) λb=>M b
def Dt(a:Int) (b:Bool):Option Int:=ite b (M (aa b! (-(aa b! a))))<|M (aa b! a)
def vg(l k m:Int):Option (Int×Int):=(pj m).bind λh=>ite (h=a39) (M (0,1))<|ite (k=0) (M (0,12))<|b? ((wg l 4611686018427387904).bind λi=>ite (i=a39) ((wg k 4611686018427387904).bind λj=>M j)<|M a38) λg=>ite g (M (0,3))<|(Cf l).bind λf=>(Cf k).bind λa=>(quo .u64 f a).bind λb=>(rem .u64 f a).bind λc=>(Vf b c a (!((s6 (l<0))==(s6 (k<0)))) m).bind λd=>(Dt d (!((s6 (l<0))==(s6 (k<0))))).bind λe=>M (e,0)
def Us(f e g:Int):Option (Int×Int):=b? (ite (¬(aa b! (f+(aa b! (s? e 1000000))))<(-2000000000000000)) (M (s6 (2000000000000000<(aa b! (f+(aa b! (s? e 1000000)))))))<|M a38) λd=>ite d (M (0,3))<|b? (ite (1<(aa b! (f+(aa b! (s? e 1000000))))) (M (aa b! ((v? (aa b! (f+(aa b! (s? e 1000000)))) 2)+2)))<|ite ((aa b! (f+(aa b! (s? e 1000000))))<(-1)) (M (aa b! ((v? (aa b! (f+(aa b! (s? e 1000000)))) 2)-2)))<|M (v? (aa b! (f+(aa b! (s? e 1000000)))) 2)) λb=>(vg (aa b! ((aa b! (b*1000000))+(v? e 1000000))) 1000000 g).bind λa=>ite (¬a.2=0) (M (0,a.2))<|b? (ite (¬(aa b! ((aa b! ((aa b! (f+(aa b! (s? e 1000000))))-b))+a.1))<(-1000000000000000)) (M (s6 (1000000000000000<(aa b! ((aa b! ((aa b! (f+(aa b! (s? e 1000000))))-b))+a.1)))))<|M a38) λc=>ite c (M (0,3))<|M (aa b! ((aa b! ((aa b! (f+(aa b! (s? e 1000000))))-b))+a.1),0)
def Gg(j:po) (l k:Int):q6 (Int×Int×Int) (Int×Int) (Int×Int):=λ(b,c,d)=>ite (d<a00 j.Rows) (b? ((c! j.Rows d).bind λa=>b? ((fc a.ab l).bind λi=>ite i (M (s6 ((min a.Hi k)<=(max a.Lo 0))))<|M a38) λf=>ite f (M (Sum.inl (b,c)))<|(Al (aa b! ((min a.Hi k)-(max a.Lo 0))) a.N).bind λe=>ite (e.2.2=a39) (M (Sum.inr (l? (0,3))))<|M (Sum.inl (aa b! (b+e.1),aa b! (c+e.2.1)))) λz=>match z with |.inr v=>M v |.inl (g,h)=>M (i! (g,h,aa b! (d+1))))<|M (i? (b,c))
def xl(h:po) (j i d:Int):Option (Int×Int):=b? (ite (¬d<0) (M (s6 (5<d)))<|M a38) λe=>ite e (M (0,1))<|b? (ite (h.af.a=3/\h.af.g=0) (M (!((h.Value.a==4)&&(h.Value.g==0))))<|M a38) λf=>ite f (M (0,8))<|b? (ite (¬i<(-1000000000000000)) (M (s6 (1000000000000000<i)))<|M a38) λg=>ite g (M (0,3))<|(ca (Gg h j i) (0,0,0)).bind λy=>match y with |.inr v=>M v |.inl (b,c)=>(Us b c d).bind λa=>M (a.1,a.2)
def mj(a:Bool):Option bz:=ite a (M (bz.mk 1 0 1))<|M (bz.mk 1 0 0)
def qy(b:Int):Option Bool:=b? (ite ((v? b 4)=0) (ite ((v? b 100)=0) (M ((v? b 400)==0))<|M a38)<|M a39) λa=>M a
def xe(f e:Int):Option Int:=b? (ite (¬e<1) (M (s6 (12<e)))<|M a38) λa=>ite a (M 0)<|b? (ite (e=2) ((qy f).bind λc=>M c)<|M a39) λb=>ite b (M 29)<|(c! mL (aa b! (e-1))).bind λd=>M d
def Kr(a:Int):Option Int:=M (aa b! ((aa b! ((aa b! (s? a 4))-(aa b! (s? a 100))))+(aa b! (s? a 400))))
def gk(c:Int):Option Int:=(Kr (aa b! (c-1))).bind λa=>(Kr 1899).bind λb=>M (aa b! ((aa b! ((aa b! ((aa b! (c-1900))*365))+a))-b))
def yp(b:Int):Option Bool:=b? (ite (0<=b) (M (s6 (b<=109572)))<|M a39) λa=>M a
def Kq(c:Int):q6 Int Int Unit:=λa=>(gk (aa b! (a+1))).bind λb=>ite (b<=c) (M (i! (aa b! (a+1))))<|M (i? a)
def Jq(d:Int):q6 (Int×Int) Unit (Int×Int×Int):=λ(c,a)=>ite (a<12) ((xe d (aa b! (a+1))).bind λb=>ite (c<b) (M (l? (d,aa b! (a+1),aa b! (c+1))))<|M (i! (aa b! (c-b),aa b! (a+1))))<|M (i? ())
def mn(d:Int):Option (Int×Int×Int):=(yp d).bind λb=>ite (b=a39) (M (0,0,0))<|(ca (Kq d) (aa b! (1900+(aa b! (s? d 366))))).bind λy=>match y with |.inr _=>s5 |.inl a=>(gk a).bind λc=>(ca (Jq a) (aa b! (d-c),0)).bind λy=>match y with |.inr v=>M v |.inl _=>M (0,0,0)
def qk(d:Int) (c:bz):Option bz:=ite (d=10) (M (bz.mk c.a 0 (aa b! (-c.N))))<|ite (d=25) ((mj (c.N==0)).bind λb=>M b)<|(mn c.N).bind λa=>ite (d=31) (M (bz.mk 2 0 a.1))<|M (bz.mk 2 0 a.2.1)
def Yv(o p n h:Int):Option (Int×Int):=(pj h).bind λj=>ite (j=a39) (M (0,1))<|ite (n=0) (M (0,12))<|b? ((wg o 1000000000000000).bind λk=>ite (k=a39) ((wg p 1000000000).bind λl=>ite (l=a39) ((wg n 1000000000).bind λm=>M m)<|M a38)<|M a38) λi=>ite i (M (0,3))<|(Cf o).bind λe=>(Cf p).bind λf=>(Bf e f).bind λa=>(Cf n).bind λb=>ite (b<=a.1) (M (0,3))<|(Tg a.1 a.2 b).bind λc=>ite (1000000000000000<c.1) (M (0,3))<|(Vf c.1 c.2 b (!((!((s6 (o<0))==(s6 (p<0))))==(s6 (n<0)))) h).bind λd=>ite (1000000000000000<d) (M (0,3))<|(Dt d (!((!((s6 (o<0))==(s6 (p<0))))==(s6 (n<0))))).bind λg=>M (g,0)
def Uu(b c d:Int):Option (Int×Int):=(Yv b c 1000000 d).bind λa=>M (a.1,a.2)
def Vv(c d:Int):Option (Int×Int):=(Bf (aa .u64 (max c (aa b! (-c)))) (aa .u64 (max d (aa b! (-d))))).bind λa=>b? (ite (a.1=0) (M (s6 (1000000000000000<a.2)))<|M a38) λb=>ite b (M (0,3))<|ite (¬(s6 (c<0))=(s6 (d<0))) (M (aa b! (-(aa b! a.2)),0))<|M (aa b! a.2,0)
def so(b:Int):Option Bool:=b? (ite (0<=b) (M (s6 (b<=5)))<|M a39) λa=>M a
def zm(b c:Int):Option Bool:=b? (ite (¬c<b) (M (s6 (b<(aa b! (-c)))))<|M a38) λa=>M a
def wF(g h i:Int):Option (Int×Int):=(so i).bind λd=>ite (d=a39) (M (0,1))<|b? ((zm g 1000000000).bind λe=>ite (e=a39) ((zm h 1000000000).bind λf=>M f)<|M a38) λc=>ite c (M (0,3))<|(vg (aa b! (g*h)) 1000000 i).bind λa=>ite (¬a.2=0) (M (0,a.2))<|(zm a.1 1000000000).bind λb=>ite b (M (0,3))<|M (a.1,0)
def ou(g f h:Int):Option (Int×Int):=(pj h).bind λd=>ite (d=a39) (M (0,1))<|ite (f<1) (M (0,12))<|b? ((wg g 1000000000000000).bind λe=>ite (e=a39) (M (s6 (1000000000000000<f)))<|M a38) λc=>ite c (M (0,3))<|(vg g f h).bind λa=>ite (¬a.2=0) (M (0,a.2))<|(wg (aa b! (a.1*f)) 1000000000000000).bind λb=>ite b (M (0,3))<|M (aa b! (a.1*f),0)
def ru(f d e:Int) (b:Bool) (a:Int):Option Bool:=ite (d=0) (M a39)<|ite (a=0) (M b)<|ite (a=1) (M (!b))<|ite (a=3) (M a38)<|ite (a=4) (M (s6 ((aa .u64 (e-d))<=d)))<|ite (a=5) (b? (ite (¬(aa .u64 (e-d))<d) (ite (d=(aa .u64 (e-d))) (M ((v? f 2)==1))<|M a39)<|M a38) λc=>M c)<|M a39
def Wr(k j l:Int):Option (Int×Int):=(so l).bind λg=>ite (g=a39) (M (0,1))<|ite (j=0) (M (0,12))<|b? ((zm k 1000000000000000).bind λh=>ite (h=a39) ((zm j 1000000000000000).bind λi=>M i)<|M a38) λf=>ite f (M (0,3))<|(Bf (aa .u64 (max k (aa b! (-k)))) 1000000).bind λe=>ite ((aa .u64 (max j (aa b! (-j))))<=e.1) (M (0,3))<|(Tg e.1 e.2 (aa .u64 (max j (aa b! (-j))))).bind λa=>ite (1000000000<a.1) (M (0,3))<|b? ((ru a.1 a.2 (aa .u64 (max j (aa b! (-j)))) (!((s6 (k<0))==(s6 (j<0)))) l).bind λd=>ite d (M (aa b! ((aa b! a.1)+1)))<|M (aa b! a.1)) λb=>ite (1000000000<b) (M (0,3))<|b? (ite (¬(s6 (k<0))=(s6 (j<0))) (M (aa b! (-b)))<|M b) λc=>M (c,0)
def Wb(l:fr) (k m:bz):Option (bz×Int):=b? (ite (l.Op=13) ((Vv k.N m.N).bind λg=>M (k.a,g.1,g.2))<|b? (ite (l.Op=14) (M (k.a==3))<|M a39) λj=>ite j ((Uu k.N m.N l.N).bind λh=>M (k.a,h.1,h.2))<|ite (l.Op=14) ((wF k.N m.N l.N).bind λi=>M (k.a,i.1,i.2))<|ite (l.Op=16) ((ou k.N m.N l.N).bind λa=>M (k.a,a.1,a.2))<|ite (m.a=2) ((vg k.N m.N l.N).bind λb=>M (k.a,b.1,b.2))<|(Wr k.N m.N l.N).bind λc=>M (4,c.1,c.2)) λ(d,e,f)=>M (bz.mk d 0 e,f)
def me(d e:Int):q6 (Int×Int) Int Unit:=λ(b,a)=>ite (a<(aa b! (e-1))) ((xe d (aa b! (a+1))).bind λc=>M (i! (aa b! (b+c),aa b! (a+1))))<|M (i? b)
def Yl(e f g:Int):Option (Int×Int):=b? (ite (¬e<1900) (ite (¬2199<e) (ite (¬f<1) (ite (¬12<f) (ite (¬g<1) ((xe e f).bind λc=>M (s6 (c<g)))<|M a38)<|M a38)<|M a38)<|M a38)<|M a38) λb=>ite b (M (0,3))<|(gk e).bind λd=>(ca (me e f) (d,0)).bind λy=>match y with |.inr _=>s5 |.inl a=>M (aa b! ((aa b! (a+g))-1),0)
def qf(h g:Int):Option (Int×Int):=b? ((yp h).bind λf=>ite f (ite (¬g<(-3600)) (M (s6 (3600<g)))<|M a38)<|M a38) λd=>ite d (M (0,3))<|(mn h).bind λa=>b? (ite (¬(aa b! ((aa b! ((aa b! ((aa b! ((aa b! (a.1-1900))*12))+a.2.1))-1))+g))<0) (M (s6 (3599<(aa b! ((aa b! ((aa b! ((aa b! ((aa b! (a.1-1900))*12))+a.2.1))-1))+g)))))<|M a38) λe=>ite e (M (0,3))<|(xe (aa b! (1900+(aa b! (s? (aa b! ((aa b! ((aa b! ((aa b! ((aa b! (a.1-1900))*12))+a.2.1))-1))+g)) 12)))) (aa b! ((v? (aa b! ((aa b! ((aa b! ((aa b! ((aa b! (a.1-1900))*12))+a.2.1))-1))+g)) 12)+1))).bind λc=>(Yl (aa b! (1900+(aa b! (s? (aa b! ((aa b! ((aa b! ((aa b! ((aa b! (a.1-1900))*12))+a.2.1))-1))+g)) 12)))) (aa b! ((v? (aa b! ((aa b! ((aa b! ((aa b! ((aa b! (a.1-1900))*12))+a.2.1))-1))+g)) 12)+1)) (min a.2.2 c)).bind λb=>M (b.1,b.2)
def lg(i j:Int):Option Int:=b? ((yp i).bind λg=>ite g ((yp j).bind λh=>ite h (M (s6 (j<i)))<|M a38)<|M a38) λf=>ite f (M 0)<|(mn i).bind λc=>(mn j).bind λd=>b? ((qf i (aa b! (12*(aa b! (d.1-c.1))))).bind λe=>b? (ite (e.2=0) (M (s6 (j<e.1)))<|M a38) λa=>ite a (M (aa b! ((aa b! (d.1-c.1))-1)))<|M (aa b! (d.1-c.1))) λb=>M (max b 0)
def Na(u:fr) (v w:bz):Option (bz×Int):=b? (ite (u.Op=11) (M a38)<|M (u.Op==27)) λs=>ite s (M (bz.mk v.a 0 (aa b! (v.N+w.N)),0))<|ite (u.Op=12) (M (bz.mk v.a 0 (aa b! (v.N-w.N)),0))<|b? (ite (u.Op=13) (M a38)<|ite (u.Op=14) (M a38)<|ite (u.Op=15) (M a38)<|M (u.Op==16)) λt=>ite t ((Wb u v w).bind λe=>M (e.1,e.2))<|b? (ite (u.Op=17) (M a38)<|M (u.Op==18)) λg=>ite g (ite ((u.Op==17)=(s6 (w.N<v.N))) (M (w,0))<|M (v,0))<|ite (u.Op=19) ((mj (v.N==w.N)).bind λn=>M (n,0))<|ite (u.Op=20) ((mj (v.N !=w.N)).bind λo=>M (o,0))<|ite (u.Op=21) ((mj (s6 (v.N<w.N))).bind λp=>M (p,0))<|ite (u.Op=22) ((mj (s6 (v.N<=w.N))).bind λq=>M (q,0))<|ite (u.Op=23) (b? (ite (v.N=1) ((mj (w.N==1)).bind λa=>M (a.a,a.g,a.N))<|(mj a39).bind λb=>M (b.a,b.g,b.N)) λ(h,i,j)=>M (bz.mk h i j,0))<|ite (u.Op=24) (b? (if¬v.N=1 then(mj (w.N==1)).bind λc=>M (c.a,c.g,c.N)else(mj a38).bind λd=>M (d.a,d.g,d.N)) λ(k,l,m)=>M (bz.mk k l m,0))<|ite (u.Op=28) ((qf v.N w.N).bind λf=>M (bz.mk 5 0 f.1,f.2))<|ite (u.Op=29) (M (bz.mk 2 0 (aa b! (w.N-v.N)),0))<|(lg v.N w.N).bind λr=>M (bz.mk 2 0 r,0)
def sa(u:fr) (v:List bz) (x:ic):Option (bz×Int):=b? (ite (u.Op=1) (M a38)<|ite (u.Op=2) (M a38)<|ite (u.Op=3) (M a38)<|ite (u.Op=4) (M a38)<|M (u.Op==5)) λs=>ite s (M (bz.mk u.Op 0 u.N,0))<|ite (u.Op=6) (M (bz.mk 6 (aa b! (s? u.N 16)) (v? u.N 16),0))<|ite (u.Op=7) ((c! x.w u.N).bind λt=>M (t,0))<|ite (u.Op=8) ((c! x.d u.N).bind λg=>M (g,0))<|ite (u.Op=9) (M (bz.mk 5 0 x.z,0))<|ite (u.Op=35) (M (bz.mk 2 0 (a00 x.s:Int),0))<|b? (ite (u.Op=36) (M a38)<|ite (u.Op=37) (M a38)<|ite (u.Op=38) (M a38)<|M (u.Op==39)) λf=>ite f ((Rf u x).bind λb=>M (b.1,b.2))<|ite (u.Op=33) ((c! x.Tables u.N).bind λa=>(c! v 0).bind λh=>(Kw a x.z h.N).bind λc=>ite (c.2=a39) (M (bz.mk 0 0 0,6))<|(c! a.Rows c.1).bind λi=>M (bz.mk a.Value.a a.Value.g i.N,0))<|ite (u.Op=34) ((c! x.Tables (aa b! (s? u.N 8))).bind λj=>(c! v 0).bind λk=>(xl j x.z k.N (v? u.N 8)).bind λd=>M (bz.mk 3 0 d.1,d.2))<|ite ((a00 v:Int)=1) ((c! v 0).bind λl=>(qk u.Op l).bind λm=>M (m,0))<|if(a00 v:Int)=2 then(c! v 0).bind λn=>(c! v 1).bind λo=>(Na u n o).bind λe=>M (e.1,e.2)else(c! v 0).bind λp=>ite (p.N=1) ((c! v 1).bind λq=>M (q,0))<|(c! v 2).bind λr=>M (r,0)
def og(j:fr) (k:List bz) (l:ic):Option (bz×Int):=b? ((dq j).bind λf=>ite f ((pn j.Op).bind λg=>M ((a00 k:Int) !=g))<|M a38) λe=>ite e (M (bz.mk 0 0 0,2))<|(uy j l).bind λh=>ite (h=a39) (M (bz.mk 0 0 0,6))<|b? ((qg k).bind λi=>ite i ((ea j k l).bind λc=>M (!c))<|M a38) λb=>ite b (M (bz.mk 0 0 0,8))<|(sa j k l).bind λa=>ite (¬a.2=0) (M (bz.mk 0 0 0,a.2))<|(Vb a.1).bind λd=>ite (d=a39) (M (bz.mk 0 0 0,3))<|M (a.1,0)
def qb(h:tk) (g:List Int) (c:(tk->Int->Option (bz×Int))):q6 (List bz×Int) (List bz) (bz×Int):=λ(d,a)=>ite (a<a00 g) ((c! g a).bind λe=>(c h e).bind λb=>ite (¬b.2=0) (M (l? (bz.mk 0 0 0,b.2)))<|(c! d a).bind λi=>(put d a b.1).bind λf=>M (i! (f,aa b! (a+1))))<|M (i? d)
def ib(a:(tk->Int->Option (bz×Int))) (b:(tk->fr->(List Int)->Option (bz×Int))) (R512:(tk->Int->Option (bz×Int))) (j:tk) (k:Int):Option (bz×Int):=(c! j.nodes k).bind λc=>(Qf j k).bind λe=>b? (ite (c.Op=23) (M a38)<|ite (c.Op=24) (M a38)<|M (c.Op==26)) λh=>ite h ((b j c e).bind λg=>M (g.1,g.2))<|(kD 24 (bz.mk 0 0 0) (a00 e:Int) (a00 e:Int)).bind λi=>(ca (qb j e a) (i,0)).bind λy=>match y with |.inr v=>M v |.inl f=>(og c f j.env).bind λd=>M (d.1,d.2)
def Gd(a:(tk->Int->Option (bz×Int))) (R455:(tk->fr->(List Int)->Option (bz×Int))) (b:(tk->Int->Option (bz×Int))) (l:tk) (m:fr) (n:List Int):Option (bz×Int):=ite (¬m.N=0) (M (bz.mk 0 0 0,2))<|(c! n 0).bind λj=>(b l j).bind λe=>ite (¬e.2=0) (M (bz.mk 0 0 0,e.2))<|b? (ite (m.Op=26) (M (e.1.N==1))<|M a39) λi=>ite i ((c! n 1).bind λk=>(a l k).bind λh=>M (h.1,h.2))<|ite (m.Op=26) ((c! n 2).bind λf=>(a l f).bind λc=>M (c.1,c.2))<|if(m.Op==23)=(e.1.N==0)then M (e.1,0)else(c! n 1).bind λg=>(b l g).bind λd=>M (d.1,d.2)
def jc(a:(tk->Int->Option (bz×Int))) (R455:(tk->fr->(List Int)->Option (bz×Int))) (R512:(tk->Int->Option (bz×Int))) (e:tk) (f:Int):Option (bz×Int):=(a e f).bind λb=>ite (¬b.2=0) (M (bz.mk 0 0 0,b.2))<|b? (ite (b.1.a=1) ((Vb b.1).bind λd=>M (!d))<|M a38) λc=>ite c (M (bz.mk 0 0 0,8))<|M (b.1,0)
def ba:Nat->(tk->Int->Option (bz×Int))×(tk->fr->(List Int)->Option (bz×Int))×(tk->Int->Option (bz×Int)) |0=>(λ_ _=>s5,λ_ _ _=>s5,λ_ _=>s5) |n+1=>(ib (ba n).1 (ba n).2.1 (ba n).2.2,Gd (ba n).1 (ba n).2.1 (ba n).2.2,jc (ba n).1 (ba n).2.1 (ba n).2.2)
def Aj(a:tk) (b:Int):Option (bz×Int):=(ba eg).1 a b
def wz(a:tk) (b:fr) (c:List Int):Option (bz×Int):=(ba eg).2.1 a b c
def Tv(a:tk) (b:Int):Option (bz×Int):=(ba eg).2.2 a b
def Ql(c:List fr) (d:ic):Option (bz×Int):=(rv c).bind λa=>ite (¬a.2=0) (M (bz.mk 0 0 0,a.2))<|(Aj (tk.mk c a.1 d) (aa b! ((a00 c:Int)-1))).bind λb=>M (b.1,b.2)
def Ri(f g:List Int):q6 Int Unit Int:=λa=>ite (a<a00 f) ((c! f a).bind λc=>b? (ite (¬c<(-1)) (M (s6 (a<=c)))<|M a38) λe=>ite e (M (l? 9))<|b? ((c! g a).bind λd=>ite (¬d<0) (M (s6 (9<d)))<|M a38) λb=>ite b (M (l? 3))<|M (i! (aa b! (a+1))))<|M (i? ())
def Xm(a b:List Int):Option Int:=ite (¬(a00 a:Int)=a00 b) (M 2)<|ite (8<(a00 a:Int)) (M 4)<|(ca (Ri a b) 0).bind λy=>match y with |.inr v=>M v |.inl _=>M 0
def Qi(f:List Int) (g:Int):q6 (List Int×Int) (List Int) Unit:=λ(e,d)=>ite (d<a00 f) (b? ((c! f d).bind λb=>ite (b=g) ((app 8 e ([d])).bind λc=>M c)<|M e) λa=>M (i! (a,aa b! (d+1))))<|M (i? e)
def Wm(b:List Int) (c:Int):Option (List Int):=(ca (Qi b c) (([]:List Int),0)).bind λy=>match y with |.inr _=>s5 |.inl a=>M a
def Kl(r:b6) (n:List Int):q6 (List Int×Int) (List Int) Unit:=λ(q,f)=>ite (f<a00 n) (b? ((c! n f).bind λb=>(c! r.outcome b).bind λo=>ite (o=(-1)) (M q)<|b? (b? (ite (0<(a00 q:Int)) ((c! r.priority b).bind λp=>(c! q 0).bind λg=>(c! r.priority g).bind λh=>M (s6 (h<p)))<|M a39) λc=>ite c ((Jw q 0).bind λi=>M i)<|M q) λa=>b? (ite (¬(a00 a:Int)=0) ((c! r.priority b).bind λj=>(c! a 0).bind λk=>(c! r.priority k).bind λl=>M (j==l))<|M a38) λd=>ite d ((app 8 a ([b])).bind λm=>M m)<|M a) λe=>M (i! (e,aa b! (f+1))))<|M (i? q)
def Rp(c:b6) (d:Int):Option (List Int):=(Wm c.parent d).bind λb=>(ca (Kl c b) (([]:List Int),0)).bind λy=>match y with |.inr _=>s5 |.inl a=>M a
def pc(d:b6) (e:Int):Option Int:=(Rp d e).bind λa=>ite ((a00 a:Int)=0) (M (-1))<|ite ((a00 a:Int)=1) ((c! a 0).bind λb=>(c! d.outcome b).bind λc=>M c)<|M (-2)
def Si(j k:List Int) (l:List Bool):q6 (List Int×Int) (List Int) Unit:=λ(i,a)=>ite (0<=a) (b? ((pc (b6.mk j k i) a).bind λg=>(c! i a).bind λm=>(put i a g).bind λb=>b? ((c! b a).bind λh=>ite (h=(-1)) ((c! l a).bind λe=>M e)<|M a39) λc=>ite c ((c! b a).bind λn=>(put b a a).bind λf=>M f)<|M b) λd=>M (i! (d,aa b! (a-1))))<|M (i? i)
def Ym(c d:List Int) (e:List Bool):Option (List Int):=(kD 8 0 (a00 c:Int) (a00 c:Int)).bind λb=>(ca (Si c d e) (b,aa b! ((a00 c:Int)-1))).bind λy=>match y with |.inr _=>s5 |.inl a=>M a
def Hq(e f:List Int) (g:List Bool):Option Int:=b? ((Xm e f).bind λb=>ite (b=0) (M ((a00 g:Int) !=a00 e))<|M a38) λa=>ite a (M (-1))<|(Ym e f g).bind λc=>(pc (b6.mk e f c) (-1)).bind λd=>M d
def My(b:Int):Option Bool:=b? (ite (97<=b) (M (s6 (b<=122)))<|M a39) λa=>M a
def vB(b:Int):Option Bool:=b? (ite (48<=b) (M (s6 (b<=57)))<|M a39) λa=>M a
def qA(d:Int):Option Bool:=b? ((My d).bind λb=>ite (b=a39) ((vB d).bind λc=>ite (c=a39) (M (d==95))<|M a38)<|M a38) λa=>M a
def Ei  : Option (List ByteArray):=M ([n? #[105,102],n? #[116,104,101,110],n? #[101,108,115,101],n? #[111,114],n? #[97,110,100],n? #[110,111,116],n? #[116,114,117,101],n? #[102,97,108,115,101],n? #[116,111,100,97,121],n? #[115,104,97,114,101],n? #[100,105,118],n? #[114,111,117,110,100],n? #[109,105,110],n? #[109,97,120],n? #[112,108,117,115],n? #[109,111,110,116,104,115],n? #[100,97,121,115],n? #[121,101,97,114,115],n? #[121,101,97,114],n? #[109,111,110,116,104],n? #[116,97,98],n? #[98,97,110,100],n? #[99,111,117,110,116],n? #[115,117,109],n? #[97,108,108],n? #[97,110,121],n? #[109,111,115,116],n? #[101,110,117,109],n? #[116,97,98,108,101],n? #[114,111,119],n? #[115,99,111,112,101],n? #[109,101,109,98,101,114,115],n? #[105,110,112,117,116],n? #[100,101,102],n? #[114,117,108,101],n? #[111,102],n? #[111,118,101,114],n? #[112,114,105,111],n? #[102,114,111,109],n? #[116,111],n? #[101,110,100],n? #[119,104,101,110],n? #[105,115],n? #[115,114,99],n? #[98,111,111,108],n? #[105,110,116],n? #[109,111,110,101,121],n? #[114,97,116,101],n? #[100,97,116,101],n? #[100,111,119,110],n? #[117,112],n? #[122,101,114,111],n? #[97,119,97,121],n? #[104,97,108,102],n? #[101,118,101,110]])
def qh(d:ByteArray):q6 Int Unit Bool:=λa=>ite (a<(d.size:Int)) ((CA d a).bind λc=>(qA c).bind λb=>ite (b=a39) (M (l? a39))<|M (i! (aa b! (a+1))))<|M (i? ())
def ph(d:ByteArray) (b:List ByteArray):q6 Int Unit Bool:=λa=>ite (a<a00 b) ((c! b a).bind λc=>ite (c=d) (M (l? a39))<|M (i! (aa b! (a+1))))<|M (i? ())
def Mb(e:ByteArray):Option Bool:=b? (ite (¬(e.size:Int)=0) (if¬16<(e.size:Int)then(CA e 0).bind λc=>(My c).bind λd=>M (!d)else M a38)<|M a38) λb=>ite b (M a39)<|(ca (qh e) 0).bind λy=>match y with |.inr v=>M v |.inl _=>(Ei).bind λa=>(ca (ph e a) 0).bind λy=>match y with |.inr v=>M v |.inl _=>M a38
def Uc(f:cb) (g h:Int) (a:ByteArray):q6 Int Unit Bool:=λe=>ite (e<a00 f.r) (b? (ite (¬1<g) (ite (e<h) ((c! f.r e).bind λc=>M (s6 (c.q=a)))<|M a39)<|(c! f.r e).bind λd=>M (s6 (d.q=a))) λb=>ite b (M (l? a38))<|M (i! (aa b! (e+1))))<|M (i? ())
def Cb(f:cb) (g h:Int) (e:ByteArray):q6 Int Unit Bool:=λa=>ite (a<a00 f.Tables) (b? (ite (¬2<g) (ite (g=2) (ite (a<h) ((c! f.Tables a).bind λc=>M (s6 (c.q=e)))<|M a39)<|M a39)<|(c! f.Tables a).bind λd=>M (s6 (d.q=e))) λb=>ite b (M (l? a38))<|M (i! (aa b! (a+1))))<|M (i? ())
def Ob(f:cb) (g h:Int) (d:ByteArray):q6 Int Unit Bool:=λa=>ite (a<a00 f.e) (b? (ite (g=3) (ite (a<h) ((c! f.e a).bind λc=>M (s6 (c.q=d)))<|M a39)<|M a39) λb=>ite b (M (l? a38))<|M (i! (aa b! (a+1))))<|M (i? ())
def ld(b:cb) (c d:Int) (a:ByteArray):Option Bool:=(ca (Uc b c d a) 0).bind λy=>match y with |.inr v=>M v |.inl _=>(ca (Cb b c d a) 0).bind λy=>match y with |.inr v=>M v |.inl _=>(ca (Ob b c d a) 0).bind λy=>match y with |.inr v=>M v |.inl _=>M a39
def Qk(f:Int) (e:nb) (d:Int) (b:ByteArray):q6 Int Unit (Ex (Int×Int) Unit ll):=λa=>ite (a<d) ((c! e.s a).bind λc=>ite (c=b) (M (l? (l? (ll.mk 7 1 f (aa b! (100+d))))))<|M (i! (aa b! (a+1))))<|M (i? ())
def Rk(e:Int) (c:nb):q6 (Int×Int) Unit ll:=λ(f,a)=>ite (a<a00 c.s) ((c! c.s a).bind λb=>(Mb b).bind λd=>ite (d=a39) (M (l? (ll.mk 2 1 e (aa b! (100+a)))))<|(ca (Qk e c a b) 0).bind λy=>match y with |.inr v=>M v |.inl _=>M (i! (aa b! (100+a),aa b! (a+1))))<|M (i? ())
def yq(e:cb) (d:Int):Option ll:=(c! e.r d).bind λa=>(Mb a.q).bind λb=>ite (b=a39) (M (ll.mk 2 1 d 0))<|(ld e 1 d a.q).bind λc=>ite c (M (ll.mk 7 1 d 0))<|ite ((a00 a.s:Int)=0) (M (ll.mk 5 1 d 0))<|ite (16<(a00 a.s:Int)) (M (ll.mk 4 1 d 116))<|(ca (Rk d a) (0,0)).bind λy=>match y with |.inr v=>M v |.inl _=>M (ll.mk 0 0 0 0)
def Ec(c:ej) (d:List nb):Option Bool:=ite (c.a=6) (b? (ite (0<=c.g) (M (s6 (c.g<a00 d)))<|M a39) λa=>M a)<|b? (ite (1<=c.a) (ite (c.a<=5) (M (c.g==0))<|M a39)<|M a39) λb=>M b
def Xf(b:ia):Option Bool:=b? (ite (0<=b.n) (ite (b.n<=b.To) (M (s6 (b.To<=109573)))<|M a39)<|M a39) λa=>M a
def Fp(c:ej) (d:List nb):Option (Int×Int):=(Ec c d).bind λa=>ite (a=a39) (M (0,-1))<|ite (c.a=1) (M (0,1))<|ite (c.a=2) (M (-1000000000000,1000000000000))<|ite (c.a=3) (M (-1000000000000000,1000000000000000))<|ite (c.a=4) (M (-1000000000,1000000000))<|ite (c.a=5) (M (0,109572))<|(c! d c.g).bind λb=>M (0,aa b! ((a00 b.s:Int)-1))
def ew(c:Int) (d:ej) (e:List nb):Option Bool:=(Fp d e).bind λa=>b? (ite (a.1<=c) (M (s6 (c<=a.2)))<|M a39) λb=>M b
def Ny(g:te) (h:po) (i:List nb):Option Bool:=b? ((Xf g.ab).bind λd=>ite d (ite (¬g.ab.n=g.ab.To) (M (s6 (g.Hi<=g.Lo)))<|M a38)<|M a38) λc=>ite c (M a38)<|b? ((ew g.Lo h.af i).bind λe=>ite e ((ew (aa b! (g.Hi-1)) h.af i).bind λf=>ite f ((ew g.N h.Value i).bind λb=>M (!b))<|M a38)<|M a38) λa=>M a
def Ku(d e:ia):Option (ia×Bool):=b? ((Xf d).bind λb=>ite b ((Xf e).bind λc=>M (!c))<|M a38) λa=>ite a (M (ia.mk 0 0,a39))<|ite ((min d.To e.To)<=(max d.n e.n)) (M (ia.mk 0 0,a39))<|M (ia.mk (max d.n e.n) (min d.To e.To),a38)
def Ds(c d:te):Option Bool:=(Ku c.ab d.ab).bind λb=>b? (ite b.2 (M (s6 ((max c.Lo d.Lo)<(min c.Hi d.Hi))))<|M a39) λa=>M a
def Bm(f:po) (d:Int) (e:te):q6 Int Unit (Ex Int Unit (Int×Int)):=λa=>ite (a<d) ((c! f.Rows a).bind λb=>(Ds b e).bind λc=>ite c (M (l? (l? (d,11))))<|M (i! (aa b! (a+1))))<|M (i? ())
def Dm(d:po) (e:List nb):q6 Int Unit (Int×Int):=λa=>ite (a<a00 d.Rows) ((c! d.Rows a).bind λc=>(Ny c d e).bind λb=>ite b (M (l? (a,3)))<|(ca (Bm d a c) 0).bind λy=>match y with |.inr v=>M v |.inl _=>M (i! (aa b! (a+1))))<|M (i? ())
def Cs(d:po) (e:List nb):Option (Int×Int):=ite (64<(a00 d.Rows:Int)) (M (64,4))<|b? ((Ec d.af e).bind λb=>ite b ((Ec d.Value e).bind λc=>M (!c))<|M a38) λa=>ite a (M (-1,8))<|(ca (Dm d e) 0).bind λy=>match y with |.inr v=>M v |.inl _=>M (0,0)
def Oo(g:cb) (f:Int):Option ll:=(c! g.Tables f).bind λb=>(Mb b.q).bind λd=>ite (d=a39) (M (ll.mk 2 2 f 0))<|(ld g 2 f b.q).bind λe=>ite e (M (ll.mk 7 2 f 0))<|(Cs b g.r).bind λa=>ite (a.2=0) (M (ll.mk 0 0 0 0))<|b? (ite (0<=a.1) (M (aa b! (100+a.1)))<|M 0) λc=>M (ll.mk a.2 2 f c)
def Mm(d:List mu) (e:Int) (f:ByteArray):q6 Int Unit Bool:=λc=>b? (ite (c<e) (M (s6 (c<a00 d)))<|M a39) λa=>ite a ((c! d c).bind λb=>ite (b.q=f) (M (l? a38))<|M (i! (aa b! (c+1))))<|M (i? ())
def Sk(a:List mu) (b:Int) (c:ByteArray):Option Bool:=(ca (Mm a b c) 0).bind λy=>match y with |.inr v=>M v |.inl _=>M a39
def Gj(h:cb) (i:Int) (b:ek):q6 Int Unit ll:=λg=>ite (g<a00 b.w) (b? ((c! b.w g).bind λc=>(Mb c.q).bind λd=>ite (d=a39) (M 2)<|(Sk b.w g c.q).bind λe=>ite e (M 7)<|(Ec c.ao h.r).bind λf=>ite (f=a39) (M 8)<|M 0) λa=>ite (¬a=0) (M (l? (ll.mk a 3 i (aa b! (100+g)))))<|M (i! (aa b! (g+1))))<|M (i? ())
def Fj(j:cb) (k:Int) (d:ek):q6 Int Unit ll:=λa=>ite (a<a00 d.d) (b? ((c! d.d a).bind λb=>(Mb b.q).bind λf=>ite (f=a39) (M 2)<|b? ((Sk d.w (a00 d.w:Int) b.q).bind λg=>ite (g=a39) ((Sk d.d a b.q).bind λh=>M h)<|M a38) λe=>ite e (M 7)<|(Ec b.ao j.r).bind λi=>ite (i=a39) (M 8)<|M 0) λc=>ite (¬c=0) (M (l? (ll.mk c 3 k (aa b! (200+a)))))<|M (i! (aa b! (a+1))))<|M (i? ())
def Ko(b:cb) (c:Int):Option ll:=(c! b.e c).bind λa=>(ca (Gj b c a) 0).bind λy=>match y with |.inr v=>M v |.inl _=>(ca (Fj b c a) 0).bind λy=>match y with |.inr v=>M v |.inl _=>M (ll.mk 0 0 0 0)
def Dz(d:List mu):q6 (List ej×Int) (List ej) Unit:=λ(e,c)=>ite (c<a00 d) ((c! d c).bind λa=>(app 16 e ([a.ao])).bind λb=>M (i! (b,aa b! (c+1))))<|M (i? e)
def Mo(b:List mu):Option (List ej):=(ca (Dz b) (([]:List ej),0)).bind λy=>match y with |.inr _=>s5 |.inl a=>M a
def xq(j:cb) (k:Int):Option pr:=b? (ite (¬k<0) (M (s6 ((a00 j.e:Int)<=k)))<|M a38) λf=>ite f (M (pr.mk ([]) ([]) ([]) ([]) ([]) a39))<|(c! j.e k).bind λa=>(Mo a.w).bind λh=>(Mo a.d).bind λi=>b? (b? (ite (0<=a.ac) (M (s6 (a.ac<a00 j.e)))<|M a39) λg=>ite g ((c! j.e a.ac).bind λd=>(Mo d.d).bind λe=>M (e,a38))<|M (([]:List ej),a39)) λ(b,c)=>M (pr.mk j.r j.Tables h i b c)
def Tk(d:ByteArray):q6 Int Unit Bool:=λc=>ite (c<(d.size:Int)) (b? ((CA d c).bind λa=>ite (¬a<32) (ite (¬126<a) (M (a==34))<|M a38)<|M a38) λb=>ite b (M (l? a39))<|M (i! (aa b! (c+1))))<|M (i? ())
def Aq(a:ByteArray):Option Bool:=(ca (Tk a) 0).bind λy=>match y with |.inr v=>M v |.inl _=>M (s6 ((a.size:Int)<=64))
def kp(d:Int):Option Int:=b? (ite (1<=d) (ite (¬d<=9) (ite (35<=d) (M (s6 (d<=39)))<|M a39)<|M a38)<|ite (35<=d) (M (s6 (d<=39)))<|M a39) λc=>ite c (M 0)<|b? (ite (d=10) (M a38)<|ite (d=25) (M a38)<|ite (d=31) (M a38)<|ite (d=32) (M a38)<|ite (d=33) (M a38)<|M (d==34)) λa=>ite a (M 1)<|ite (d=26) (M 3)<|b? (ite (11<=d) (M (s6 (d<=30)))<|M a39) λb=>ite b (M 2)<|M (-1)
def Kk(l:List fr):q6 (List Int×List Int×Int) (List Int×List Int) (List Int×Int×Int):=λ(j,a,b)=>ite (b<a00 l) ((c! l b).bind λk=>(kp k.Op).bind λe=>ite (e<0) (M (l? ([],b,2)))<|ite ((a00 a:Int)<e) (M (l? ([],b,5)))<|b? (ite (0<e) ((c! a (aa b! ((a00 a:Int)-e))).bind λg=>(Jw a (aa b! ((a00 a:Int)-e))).bind λh=>M (h,g))<|M (a,b)) λ(f,c)=>(app 8 f ([c])).bind λd=>(app 8 j ([c])).bind λi=>ite (12<(a00 d:Int)) (M (l? ([],b,16)))<|M (i! (i,d,aa b! (b+1))))<|M (i? (j,a))
def qj(c:List fr):Option (List Int×Int×Int):=ite (48<(a00 c:Int)) (M ([],0,4))<|ite ((a00 c:Int)=0) (M ([],0,5))<|(ca (Kk c) (([]:List Int),([]:List Int),0)).bind λy=>match y with |.inr v=>M v |.inl (a,b)=>ite (1<(a00 b:Int)) (M ([],(a00 c:Int),4))<|M (a,0,0)
def Pq(c:Int):Option Bool:=b? (ite (1<=c) (ite (¬c<=8) (ite (36<=c) (M (s6 (c<=39)))<|M a39)<|M a38)<|ite (36<=c) (M (s6 (c<=39)))<|M a39) λb=>ite b (M a38)<|b? (ite (¬c=14) (ite (¬c=15) (ite (¬c=16) (ite (¬c=33) (M (c==34))<|M a38)<|M a38)<|M a38)<|M a38) λa=>M a
def Nb(a:Int):Option ej:=M (ej.mk a 0)
def yb(h:fr) (i:pr):Option Bool:=b? (ite (h.Op=1) (M a38)<|ite (h.Op=2) (M a38)<|ite (h.Op=3) (M a38)<|ite (h.Op=4) (M a38)<|M (h.Op==5)) λf=>ite f ((Nb h.Op).bind λg=>(Fp g i.r).bind λe=>b? (ite (e.1<=h.N) (M (s6 (h.N<=e.2)))<|M a39) λa=>M a)<|b? (ite (h.Op=14) (M a38)<|ite (h.Op=15) (M a38)<|M (h.Op==16)) λb=>ite b (b? (ite (0<=h.N) (M (s6 (h.N<=5)))<|M a39) λc=>M c)<|ite (h.Op=34) (b? (ite (0<=h.N) (M (s6 ((v? h.N 8)<=5)))<|M a39) λd=>M d)<|ite (h.Op=6) (M (s6 (0<=h.N)))<|M a38
def Oc(h:fr) (i:pr):Option Bool:=ite (h.Op=6) (b? (if(aa b! (s? h.N 16))<(a00 i.r:Int)then(c! i.r (aa b! (s? h.N 16))).bind λg=>M (s6 ((v? h.N 16)<(a00 g.s:Int)))else M a39) λe=>M e)<|ite (h.Op=7) (b? (ite (0<=h.N) (M (s6 (h.N<a00 i.w)))<|M a39) λf=>M f)<|ite (h.Op=8) (b? (ite (0<=h.N) (M (s6 (h.N<a00 i.d)))<|M a39) λa=>M a)<|ite (h.Op=33) (b? (ite (0<=h.N) (M (s6 (h.N<a00 i.Tables)))<|M a39) λb=>M b)<|ite (h.Op=34) (M (s6 ((aa b! (s? h.N 8))<(a00 i.Tables:Int))))<|ite (h.Op=35) (M i.a9)<|b? (ite (h.Op=36) (M a38)<|ite (h.Op=37) (M a38)<|ite (h.Op=38) (M a38)<|M (h.Op==39)) λc=>ite c (b? (ite i.a9 (ite (0<=h.N) (M (s6 (h.N<a00 i.az)))<|M a39)<|M a39) λd=>M d)<|M a38
def Am(b:Int):Option Bool:=b? (ite (¬b=2) (ite (¬b=3) (M (b==4))<|M a38)<|M a38) λa=>M a
def vn(c:Int):Option Bool:=b? ((Am c).bind λb=>ite (b=a39) (M (c==5))<|M a38) λa=>M a
def tn(n:fr) (o:pr):Option (ej×Bool):=b? (ite (n.Op=6) (M (6,aa b! (s? n.N 16)))<|ite (n.Op=7) ((c! o.w n.N).bind λj=>M (j.a,j.g))<|ite (n.Op=8) ((c! o.d n.N).bind λk=>M (k.a,k.g))<|ite (n.Op=9) ((Nb 5).bind λl=>M (l.a,l.g))<|ite (n.Op=35) ((Nb 2).bind λm=>M (m.a,m.g))<|b? (ite (n.Op=36) (M a38)<|ite (n.Op=37) (M a38)<|ite (n.Op=38) (M a38)<|M (n.Op==39)) λf=>ite f ((c! o.az n.N).bind λd=>M (d.a,d.g))<|(Nb n.Op).bind λe=>M (e.a,e.g)) λ(a,c)=>(Ec (ej.mk a c) o.r).bind λb=>b? (ite (n.Op=36) (ite b (ite (¬a=2) (M (a==3))<|M a38)<|M a39)<|b? (ite (n.Op=37) (M a38)<|M (n.Op==38)) λg=>ite g (ite b (M (a==1))<|M a39)<|ite (n.Op=39) (ite b ((vn a).bind λi=>M i)<|M a39)<|M b) λh=>M (ej.mk a c,h)
def Kp(m:fr) (l:ej) (n:pr):Option (ej×Bool):=ite (m.Op=10) ((Am l.a).bind λj=>M (l,j))<|ite (m.Op=25) (M (l,l.a==1))<|b? (ite (m.Op=31) (M a38)<|M (m.Op==32)) λi=>ite i ((Nb 2).bind λk=>M (k,l.a==5))<|ite (m.Op=33) ((c! n.Tables m.N).bind λd=>b? ((Ec d.af n.r).bind λg=>ite g ((Ec d.Value n.r).bind λh=>ite h (M ((l.a==d.af.a)&&(l.g==d.af.g)))<|M a39)<|M a39) λe=>M (d.Value,e))<|(c! n.Tables (aa b! (s? m.N 8))).bind λa=>b? (ite (l.a=3) ((Nb 3).bind λb=>ite (a.af.a=b.a/\a.af.g=b.g) ((Nb 4).bind λc=>M ((a.Value.a==c.a)&&(a.Value.g==c.g)))<|M a39)<|M a39) λf=>M (l,f)
def Lz(q o p:Int):Option (ej×Bool):=ite (q=13) (b? ((Nb o).bind λb=>ite (p=2) (ite (¬o=2) (M (b.a,b.g,o==3))<|M (b.a,b.g,a38))<|M (b.a,b.g,a39)) λ(l,m,n)=>M (ej.mk l m,n))<|ite (q=14) (b? ((Nb o).bind λc=>ite (p=4) (ite (¬o=3) (M (c.a,c.g,o==4))<|M (c.a,c.g,a38))<|M (c.a,c.g,a39)) λ(d,e,f)=>M (ej.mk d e,f))<|b? (ite (o=3) (M (p==3))<|M a39) λg=>ite g ((Nb 4).bind λk=>M (k,a38))<|b? ((Nb o).bind λa=>ite (p=2) (ite (¬o=2) (M (a.a,a.g,o==3))<|M (a.a,a.g,a38))<|M (a.a,a.g,a39)) λ(h,i,j)=>M (ej.mk h i,j)
def Ip(A:Int) (z B:ej):Option (ej×Bool):=b? (ite (A=11) (M a38)<|M (A==12)) λv=>ite v (b? (ite (z.a=B.a/\z.g=B.g) ((Am z.a).bind λy=>M y)<|M a39) λw=>M (z,w))<|b? (ite (A=13) (M a38)<|ite (A=14) (M a38)<|M (A==15)) λx=>ite x ((Lz A z.a B.a).bind λc=>M (c.1,c.2))<|ite (A=16) (b? (ite (z.a=3) (M (B.a==3))<|M a39) λd=>M (z,d))<|b? (ite (A=17) (M a38)<|M (A==18)) λe=>ite e (b? (ite (z.a=B.a/\z.g=B.g) ((vn z.a).bind λs=>M s)<|M a39) λf=>M (z,f))<|b? (ite (A=19) (M a38)<|M (A==20)) λg=>ite g ((Nb 1).bind λt=>M (t,(z.a==B.a)&&(z.g==B.g)))<|b? (ite (A=21) (M a38)<|M (A==22)) λh=>ite h (b? ((Nb 1).bind λa=>ite (z.a=B.a/\z.g=B.g) ((vn z.a).bind λu=>M (a.a,a.g,u))<|M (a.a,a.g,a39)) λ(i,j,k)=>M (ej.mk i j,k))<|b? (ite (A=23) (M a38)<|M (A==24)) λl=>ite l (b? (ite (z.a=1) (M (B.a==1))<|M a39) λm=>M (z,m))<|b? (ite (A=27) (M a38)<|M (A==28)) λn=>ite n (b? (ite (z.a=5) (M (B.a==2))<|M a39) λo=>M (z,o))<|b? ((Nb 2).bind λb=>ite (z.a=5) (M (b.a,b.g,B.a==5))<|M (b.a,b.g,a39)) λ(p,q,r)=>M (ej.mk p q,r)
def gb(r:fr) (q:List ej) (s:pr):Option (ej×Int):=b? (ite (¬r.N=0) ((Pq r.Op).bind λn=>M (!n))<|M a39) λm=>ite m (M (ej.mk 0 0,2))<|(yb r s).bind λo=>ite (o=a39) (M (ej.mk 0 0,3))<|(Oc r s).bind λp=>ite (p=a39) (M (ej.mk 0 0,6))<|b? (ite ((a00 q:Int)=0) ((tn r s).bind λb=>M (b.1.a,b.1.g,b.2))<|ite ((a00 q:Int)=1) ((c! q 0).bind λi=>(Kp r i s).bind λc=>M (c.1.a,c.1.g,c.2))<|if(a00 q:Int)=2 then(c! q 0).bind λj=>(c! q 1).bind λk=>(Ip r.Op j k).bind λd=>M (d.1.a,d.1.g,d.2)else(c! q 1).bind λa=>(c! q 0).bind λl=>ite (l.a=1) ((c! q 2).bind λe=>M (a.a,a.g,(a.a==e.a)&&(a.g==e.g)))<|M (a.a,a.g,a39)) λ(f,g,h)=>ite (h=a39) (M (ej.mk 0 0,8))<|M (ej.mk f g,0)
def qq(i:List fr) (j:pr):q6 (List ej×Int) (List ej) (ej×Int×Int):=λ(a,b)=>ite (b<a00 i) ((c! i b).bind λf=>(kp f.Op).bind λg=>(KG a (aa b! ((a00 a:Int)-g))).bind λh=>(gb f h j).bind λe=>ite (¬e.2=0) (M (l? (ej.mk 0 0,b,e.2)))<|(Jw a (aa b! ((a00 a:Int)-g))).bind λc=>(app 16 c ([e.1])).bind λd=>M (i! (d,aa b! (b+1))))<|M (i? a)
def gw(d:List fr) (e:pr):Option (ej×Int×Int):=(qj d).bind λb=>ite (¬b.2.2=0) (M (ej.mk 0 0,b.2.1,b.2.2))<|(ca (qq d e) (([]:List ej),0)).bind λy=>match y with |.inr v=>M v |.inl a=>(c! a 0).bind λc=>M (c,0,0)
def Sl(c:List fr) (d:pr) (b:ej):Option Int:=(gw c d).bind λa=>ite (¬a.2.2=0) (M a.2.2)<|ite (¬(a.1.a=b.a/\a.1.g=b.g)) (M 8)<|M 0
def Uk(g:Int) (f:ek) (d:kv):q6 (Int×Int) Int Int:=λ(b,c)=>ite (c<g) (b? ((c! f.f c).bind λe=>ite (e.q=d.q) (M (Sum.inr (l? 7)))<|ite (e.u=d.u) (M (Sum.inl (aa b! (b+1))))<|M (Sum.inl b)) λz=>match z with |.inr v=>M v |.inl a=>M (i! (a,aa b! (c+1))))<|M (i? b)
def Bq(p:cb) (r o:Int):Option Int:=(c! p.e r).bind λb=>(c! b.f o).bind λa=>(Mb a.q).bind λn=>ite (n=a39) (M 2)<|(ca (Uk o b a) (0,0)).bind λy=>match y with |.inr v=>M v |.inl e=>b? (ite (¬a.u<0) (M (s6 ((a00 b.d:Int)<=a.u)))<|M a38) λf=>ite f (M 6)<|b? (ite (¬a.am=(-1)) (ite (¬a.am<0) (ite (¬o<=a.am) ((c! b.f a.am).bind λi=>M (i.u !=a.u))<|M a38)<|M a38)<|M a39) λg=>ite g (M 9)<|b? (ite (¬a.ay<0) (ite (¬9<a.ay) ((Xf a.ab).bind λj=>ite j (M (a.ab.n==a.ab.To))<|M a38)<|M a38)<|M a38) λh=>ite h (M 3)<|ite (8<=e) (M 4)<|(Aq a.a4).bind λk=>ite (k=a39) (M 2)<|(xq p r).bind λc=>b? (ite (0<(a00 a.ak:Int)) ((Sl a.ak c (ej.mk 1 0)).bind λd=>ite (¬d=0) (M (Sum.inr d))<|M (Sum.inl ()))<|M (Sum.inl ())) λz=>match z with |.inr v=>M v |.inl _=>(c! b.d a.u).bind λl=>(Sl a.Value c l.ao).bind λm=>M m
def aE(k:List Int) (m:Int):q6 (List Int×Bool×Int) (List Int×Bool) Unit:=λ(l,n,a)=>ite (a<a00 k) (b? (b? (ite (n=a39) ((c! k a).bind λi=>M (s6 (m<=i)))<|M a39) λh=>ite h (b? ((c! k a).bind λj=>ite (m<j) ((app 8 l ([m])).bind λe=>M e)<|M l) λb=>M (b,a38))<|M (l,n)) λ(c,d)=>(c! k a).bind λf=>(app 8 c ([f])).bind λg=>M (i! (g,d,aa b! (a+1))))<|M (i? (l,n))
def Ag(f:List Int) (e:Int):Option (List Int):=(ca (aE f e) (([]:List Int),a39,0)).bind λy=>match y with |.inr _=>s5 |.inl (a,b)=>b? (ite (b=a39) ((app 8 a ([e])).bind λd=>M d)<|M a) λc=>M c
def Py(c:ek) (b:Int):Option Bool:=b? (ite (0<=b) (M (s6 (b<a00 c.d)))<|M a39) λa=>M a
def rq(k:List Int) (m:Int):q6 (List Int×Bool×Int) (List Int×Bool) Unit:=λ(l,n,a)=>ite (a<a00 k) (b? (b? (ite (n=a39) ((c! k a).bind λi=>M (s6 (m<=i)))<|M a39) λh=>ite h (b? ((c! k a).bind λj=>ite (m<j) ((app 8 l ([m])).bind λe=>M e)<|M l) λb=>M (b,a38))<|M (l,n)) λ(c,d)=>(c! k a).bind λf=>(app 8 c ([f])).bind λg=>M (i! (g,d,aa b! (a+1))))<|M (i? (l,n))
def Jp(f:List Int) (e:Int):Option (List Int):=(ca (rq f e) (([]:List Int),a39,0)).bind λy=>match y with |.inr _=>s5 |.inl (a,b)=>b? (ite (b=a39) ((app 8 a ([e])).bind λd=>M d)<|M a) λc=>M c
def Ej(o:List fr):q6 (List Int×List Int×List Int×Int) (List Int×List Int×List Int) Unit:=λ(m,n,g,h)=>ite (h<a00 o) (b? ((c! o h).bind λa=>b? (ite (a.Op=7) ((Jp m a.N).bind λl=>M l)<|M m) λk=>b? (ite (a.Op=8) ((Jp n a.N).bind λi=>M i)<|M n) λb=>b? (ite (36<=a.Op) (M (s6 (a.Op<=39)))<|M a39) λc=>ite c ((Jp g a.N).bind λj=>M (k,b,j))<|M (k,b,g)) λ(d,e,f)=>M (i! (d,e,f,aa b! (h+1))))<|M (i? (m,n,g))
def Yf(d:List fr):Option (List Int×List Int×List Int):=(ca (Ej d) (([]:List Int),([]:List Int),([]:List Int),0)).bind λy=>match y with |.inr _=>s5 |.inl (a,b,c)=>M (a,b,c)
def Mt(h:ek) (g:(List Int×List Int×List Int)):q6 (List Int×Int) (List Int) Unit:=λ(a,b)=>ite (b<a00 g.2.1) (b? ((c! g.2.1 b).bind λc=>(Py h c).bind λe=>ite e ((Ag a c).bind λf=>M f)<|M a) λd=>M (i! (d,aa b! (b+1))))<|M (i? a)
def Lt(h:ek) (g:(List Int×List Int×List Int)):q6 (List Int×Int) (List Int) Unit:=λ(a,b)=>ite (b<a00 g.2.1) (b? ((c! g.2.1 b).bind λc=>(Py h c).bind λe=>ite e ((Ag a c).bind λf=>M f)<|M a) λd=>M (i! (d,aa b! (b+1))))<|M (i? a)
def Io(i:ek) (j:Int):q6 (List Int×Int) (List Int) Unit:=λ(d,e)=>ite (e<a00 i.f) (b? ((c! i.f e).bind λf=>ite (¬f.u=j) (M d)<|(Yf f.ak).bind λg=>(Yf f.Value).bind λh=>(ca (Mt i g) (d,0)).bind λy=>match y with |.inr _=>s5 |.inl a=>(ca (Lt i h) (a,0)).bind λy=>match y with |.inr _=>s5 |.inl b=>M b) λc=>M (i! (c,aa b! (e+1))))<|M (i? d)
def Np(c:ek) (d:Int):Option (List Int):=(Py c d).bind λb=>ite (b=a39) (M ([]))<|(ca (Io c d) (([]:List Int),0)).bind λy=>match y with |.inr _=>s5 |.inl a=>M a
def Ii(e:List Int):q6 (List Int×Int) (List Int) Unit:=λ(b,a)=>ite (a<a00 e) ((c! e a).bind λc=>(Ag b c).bind λd=>M (i! (d,aa b! (a+1))))<|M (i? b)
def Ji(g:ek) (f:List Int):q6 (List Int×Int) (List Int) Unit:=λ(c,b)=>ite (b<a00 f) ((c! f b).bind λd=>(Np g d).bind λe=>(ca (Ii e) (c,0)).bind λy=>match y with |.inr _=>s5 |.inl a=>M (i! (a,aa b! (b+1))))<|M (i? c)
def Ki(e:ek):q6 (List Int×Int) (List Int) Unit:=λ(c,b)=>ite (b<a00 e.d) ((ca (Ji e c) (c,0)).bind λy=>match y with |.inr _=>s5 |.inl a=>M (i! (a,aa b! (b+1))))<|M (i? c)
def Zf(c:ek) (d:Int):Option (List Int):=(Np c d).bind λb=>(ca (Ki c) (b,0)).bind λy=>match y with |.inr _=>s5 |.inl a=>M a
def Mi(e:cb) (d:Int) (c:ek):q6 Int Unit ll:=λa=>ite (a<a00 c.f) ((Bq e d a).bind λb=>ite (¬b=0) (M (l? (ll.mk b 3 d (aa b! (300+a)))))<|M (i! (aa b! (a+1))))<|M (i? ())
def Hj(e b:Int) (c:List Int):q6 Int Unit (Ex Int Unit ll):=λa=>ite (a<a00 c) ((c! c a).bind λd=>ite (d=b) (M (l? (l? (ll.mk 9 3 e (aa b! (200+b))))))<|M (i! (aa b! (a+1))))<|M (i? ())
def Li(e:Int) (c:ek):q6 Int Unit ll:=λa=>ite (a<a00 c.d) ((Zf c a).bind λb=>(ca (Hj e a b) 0).bind λy=>match y with |.inr v=>M v |.inl _=>M (i! (aa b! (a+1))))<|M (i? ())
def No(h:cb) (g:Int):Option ll:=(c! h.e g).bind λa=>(Mb a.q).bind λd=>ite (d=a39) (M (ll.mk 2 3 g 0))<|(ld h 3 g a.q).bind λe=>ite e (M (ll.mk 7 3 g 0))<|b? (ite (¬a.ac=(-1)) (ite (¬a.ac<0) (ite (¬g<=a.ac) ((c! h.e a.ac).bind λf=>M (f.ac !=(-1)))<|M a38)<|M a38)<|M a39) λc=>ite c (M (ll.mk 6 3 g 0))<|ite (12<(a00 a.w:Int)) (M (ll.mk 4 3 g 112))<|ite (12<(a00 a.d:Int)) (M (ll.mk 4 3 g 212))<|(Ko h g).bind λb=>ite (¬b.Code=0) (M b)<|(ca (Mi h g a) 0).bind λy=>match y with |.inr v=>M v |.inl _=>(ca (Li g a) 0).bind λy=>match y with |.inr v=>M v |.inl _=>M (ll.mk 0 0 0 0)
def Lm(c:cb):q6 Int Unit ll:=λb=>ite (b<a00 c.r) ((yq c b).bind λa=>ite (¬a.Code=0) (M (l? a))<|M (i! (aa b! (b+1))))<|M (i? ())
def Km(c:cb):q6 Int Unit ll:=λb=>ite (b<a00 c.Tables) ((Oo c b).bind λa=>ite (¬a.Code=0) (M (l? a))<|M (i! (aa b! (b+1))))<|M (i? ())
def Jm(c:cb):q6 Int Unit ll:=λa=>ite (a<a00 c.e) ((No c a).bind λb=>ite (¬b.Code=0) (M (l? b))<|M (i! (aa b! (a+1))))<|M (i? ())
def Js(a:cb):Option ll:=ite (8<(a00 a.r:Int)) (M (ll.mk 4 1 8 0))<|(ca (Lm a) 0).bind λy=>match y with |.inr v=>M v |.inl _=>ite (8<(a00 a.Tables:Int)) (M (ll.mk 4 2 8 0))<|(ca (Km a) 0).bind λy=>match y with |.inr v=>M v |.inl _=>ite (4<(a00 a.e:Int)) (M (ll.mk 4 3 4 0))<|(ca (Jm a) 0).bind λy=>match y with |.inr v=>M v |.inl _=>M (ll.mk 0 0 0 0)
def yg(c:ia) (d:Int):Option Bool:=b? ((Xf c).bind λb=>ite b (ite (c.n<=d) (M (s6 (d<c.To)))<|M a39)<|M a39) λa=>M a
def Ho(i:ek) (j k:Int):q6 (List Int×Int) (List Int) Unit:=λ(h,g)=>ite (g<a00 i.f) (b? (b? ((c! i.f g).bind λb=>ite (b.u=j) ((yg b.ab k).bind λd=>M d)<|M a39) λc=>ite c ((app 8 h ([g])).bind λe=>M e)<|M h) λa=>M (i! (a,aa b! (g+1))))<|M (i? h)
def Au(b:ek) (c d:Int):Option (List Int):=(ca (Ho b c d) (([]:List Int),0)).bind λy=>match y with |.inr _=>s5 |.inl a=>M a
def fw(f:(List Int×Int×Int)):q6 (List Int×Int×Int) (List Int) Unit:=λ(c,b,a)=>ite (0<=a) ((c! c a).bind λg=>(put c a b).bind λd=>(c! f.1 b).bind λe=>M (i! (d,aa b! (e-1),aa b! (a-1))))<|M (i? c)
def ts(h:List fr) (g:Int):Option (List Int):=(qj h).bind λc=>b? (ite (c.2.2=0) (ite (¬g<0) (M (s6 ((a00 h:Int)<=g)))<|M a38)<|M a38) λd=>ite d (M ([]))<|(c! h g).bind λe=>(kp e.Op).bind λb=>(kD 8 0 b b).bind λf=>(ca (fw c) (f,aa b! (g-1),aa b! (b-1))).bind λy=>match y with |.inr _=>s5 |.inl a=>M a
def pq(f:List Int) (g:Int):q6 (List Int×Int) (List Int) Unit:=λ(d,e)=>ite (e<a00 f) (b? ((c! f e).bind λa=>ite (a<g) ((app 8 d ([a])).bind λc=>M c)<|M d) λb=>M (i! (b,aa b! (e+1))))<|M (i? d)
def oq(f:List Int) (g:Int):q6 (List Int×Int) (List Int) Unit:=λ(a,b)=>ite (b<a00 f) (b? ((c! f b).bind λc=>ite (g<c) ((app 8 a ([c])).bind λe=>M e)<|M a) λd=>M (i! (d,aa b! (b+1))))<|M (i? a)
def Gt(e:List Int) (d:Int):Option (List Int):=(ca (pq e d) (([]:List Int),0)).bind λy=>match y with |.inr _=>s5 |.inl a=>(app 8 a ([d])).bind λc=>(ca (oq e d) (c,0)).bind λy=>match y with |.inr _=>s5 |.inl b=>M b
def Hs(c:List Int) (d:Int):q6 Int Unit Int:=λb=>ite (b<a00 c) ((c! c b).bind λa=>ite (a=d) (M (l? b))<|M (i! (aa b! (b+1))))<|M (i? ())
def Cv(a:List Int) (b:Int):Option Int:=(ca (Hs a b) 0).bind λy=>match y with |.inr v=>M v |.inl _=>M (-1)
def Rl(e:ek) (g:List Int):q6 (Int×Int) Unit Int:=λ(h,a)=>b? (ite (0<=a) (M (s6 (a<h)))<|M a39) λc=>ite c ((Cv g a).bind λb=>ite (0<=b) (M (l? b))<|(c! e.f a).bind λd=>M (i! (a,d.am)))<|M (i? ())
def uw(b:ek) (d:List Int) (c:Int):Option Int:=(c! b.f c).bind λa=>(ca (Rl b d) (c,a.am)).bind λy=>match y with |.inr v=>M v |.inl _=>M (-1)
def wq(i:ek) (b:List Int):q6 (List Int×List Int×Int) (List Int×List Int) Unit:=λ(j,d,a)=>ite (a<a00 b) ((c! b a).bind λe=>(uw i b e).bind λf=>(app 8 j ([f])).bind λg=>(c! i.f e).bind λh=>(app 8 d ([h.ay])).bind λc=>M (i! (g,c,aa b! (a+1))))<|M (i? (j,d))
def tw(d:ek) (e f:Int):Option (List Int×List Int×List Int):=(Au d e f).bind λc=>(ca (wq d c) (([]:List Int),([]:List Int),0)).bind λy=>match y with |.inr _=>s5 |.inl (a,b)=>M (c,a,b)
def Kz(b:List fr):Option (List Int×Int):=(qj b).bind λa=>M (a.1,a.2.2)
def It(a:Int):Option (Int×Int):=ite (a=1) (M (0,1))<|ite (a=2) (M (-1000000000000,1000000000000))<|ite (a=3) (M (-1000000000000000,1000000000000000))<|ite (a=4) (M (-1000000000,1000000000))<|ite (a=5) (M (0,109572))<|ite (a=6) (M (0,15))<|M (0,-1)
def Lb(d:bz):Option Bool:=(It d.a).bind λa=>b? (ite (¬d.N<a.1) (M (s6 (a.2<d.N)))<|M a38) λb=>ite b (M a39)<|ite (d.a=6) (b? (ite (0<=d.g) (M (s6 (d.g<8)))<|M a39) λc=>M c)<|M (d.g==0)
def zu(c:Int):Option Bool:=b? (ite (1<=c) (ite (¬c<=8) (ite (36<=c) (M (s6 (c<=39)))<|M a39)<|M a38)<|ite (36<=c) (M (s6 (c<=39)))<|M a39) λb=>ite b (M a38)<|b? (ite (¬c=14) (ite (¬c=15) (ite (¬c=16) (ite (¬c=33) (M (c==34))<|M a38)<|M a38)<|M a38)<|M a38) λa=>M a
def nw(g:fr) (h:Int):Option Bool:=b? ((kp g.Op).bind λe=>ite (e=h) (ite (¬g.N=0) ((zu g.Op).bind λf=>M (!f))<|M a39)<|M a38) λc=>ite c (M a39)<|b? (ite (g.Op=14) (M a38)<|ite (g.Op=15) (M a38)<|M (g.Op==16)) λd=>ite d (b? (ite (0<=g.N) (M (s6 (g.N<=5)))<|M a39) λa=>M a)<|ite (g.Op=34) (b? (ite (0<=g.N) (M (s6 ((v? g.N 8)<=5)))<|M a39) λb=>M b)<|ite (g.Op=6) (M (s6 (0<=g.N)))<|M a38
def Oy(g:fr) (h:ic):Option Bool:=ite (g.Op=7) (b? (ite (0<=g.N) (M (s6 (g.N<a00 h.w)))<|M a39) λd=>M d)<|ite (g.Op=8) (b? (ite (0<=g.N) (ite (g.N<a00 h.d) ((c! h.d g.N).bind λf=>M (f.a !=0))<|M a39)<|M a39) λe=>M e)<|ite (g.Op=33) (b? (ite (0<=g.N) (M (s6 (g.N<a00 h.Tables)))<|M a39) λa=>M a)<|ite (g.Op=34) (M (s6 ((aa b! (s? g.N 8))<(a00 h.Tables:Int))))<|b? (ite (g.Op=36) (M a38)<|ite (g.Op=37) (M a38)<|ite (g.Op=38) (M a38)<|M (g.Op==39)) λb=>ite b (b? (ite (0<=g.N) (M (s6 (g.N<a00 h.av)))<|M a39) λc=>M c)<|M a38
def xu(d:Int) (c:ej):Option Bool:=ite (¬c.g=0) (M a39)<|ite (d=36) (b? (ite (¬c.a=2) (M (c.a==3))<|M a38) λa=>M a)<|ite (d=39) (b? (ite (2<=c.a) (M (s6 (c.a<=5)))<|M a39) λb=>M b)<|M (c.a==1)
def TC(c:bz) (d:ej):Option Bool:=b? ((Lb c).bind λb=>ite b (ite (c.a=d.a) (M (c.g==d.g))<|M a39)<|M a39) λa=>M a
def Xu(e c d:Int) (b:Bool):Option Int:=ite (e=36) (M (aa b! (c+d)))<|ite (e=37) (M (aa b! (c*d)))<|ite (e=38) (ite (c<d) (M d)<|M c)<|b? (ite (b=a39) (M (s6 (c<d)))<|M a38) λa=>ite a (M d)<|M c
def Tc(b c:Int):Option (bz×Int):=(Lb (bz.mk b 0 c)).bind λa=>ite (a=a39) (M (bz.mk 0 0 0,3))<|M (bz.mk b 0 c,0)
def Kt(k:fr) (l:ic) (j:ej):q6 (Int×Int) Int (bz×Int):=λ(i,d)=>ite (d<a00 l.s) ((c! l.s d).bind λh=>b? (ite (¬(a00 h:Int)<=k.N) ((c! h k.N).bind λf=>M (f.a==0))<|M a38) λe=>ite e (M (l? (bz.mk 0 0 0,6)))<|(c! h k.N).bind λa=>(TC a j).bind λg=>ite (g=a39) (M (l? (bz.mk 0 0 0,8)))<|(Xu k.Op i a.N (d==0)).bind λb=>(Tc j.a b).bind λc=>ite (¬c.2=0) (M (l? (bz.mk 0 0 0,c.2)))<|M (i! (b,aa b! (d+1))))<|M (i? i)
def Qq(g:fr) (h:ic):Option (bz×Int):=(c! h.av g.N).bind λd=>(xu g.Op d).bind λf=>ite (f=a39) (M (bz.mk 0 0 0,8))<|b? (ite (g.Op=37) (M 1)<|M 0) λe=>(ca (Kt g h d) (e,0)).bind λy=>match y with |.inr v=>M v |.inl b=>b? (ite (g.Op=39) (M ((a00 h.s:Int)==0))<|M a39) λc=>ite c (M (bz.mk 0 0 0,6))<|(Tc d.a b).bind λa=>M (a.1,a.2)
def ig(i:fr) (j:ic):Option (bz×Int):=ite (i.Op=7) ((c! j.w i.N).bind λe=>(Lb e).bind λg=>ite (g=a39) (M (bz.mk 0 0 0,8))<|M (e,0))<|ite (i.Op=8) ((c! j.d i.N).bind λf=>(Lb f).bind λh=>ite (h=a39) (M (bz.mk 0 0 0,8))<|M (f,0))<|ite (i.Op=9) ((Tc 5 j.z).bind λa=>M (a.1,a.2))<|ite (i.Op=35) ((Tc 2 (a00 j.s:Int)).bind λb=>M (b.1,b.2))<|ite (i.Op=6) ((Lb (bz.mk 6 (aa b! (s? i.N 16)) (v? i.N 16))).bind λd=>ite (d=a39) (M (bz.mk 0 0 0,3))<|M (bz.mk 6 (aa b! (s? i.N 16)) (v? i.N 16),0))<|(Tc i.Op i.N).bind λc=>M (c.1,c.2)
def Lp(b:Int):Option Bool:=b? (ite (¬b=2) (ite (¬b=3) (M (b==4))<|M a38)<|M a38) λa=>M a
def Fi(b:Bool):Option (bz×Int):=b? (ite b (M 1)<|M 0) λa=>M (bz.mk 1 0 a,0)
def Et(b:Int):Option Bool:=b? (ite ((v? b 4)=0) (ite ((v? b 100)=0) (M ((v? b 400)==0))<|M a38)<|M a39) λa=>M a
def Kc(e d:Int):Option Int:=ite (d=2) ((Et e).bind λc=>ite c (M 29)<|M 28)<|b? (ite (d=4) (M a38)<|ite (d=6) (M a38)<|ite (d=9) (M a38)<|M (d==11)) λb=>ite b (M 30)<|b? (ite (d=1) (M a38)<|ite (d=3) (M a38)<|ite (d=5) (M a38)<|ite (d=7) (M a38)<|ite (d=8) (M a38)<|ite (d=10) (M a38)<|M (d==12)) λa=>ite a (M 31)<|M 0
def Wf(b:Int):Option Int:=(Et b).bind λa=>ite a (M 366)<|M 365
def gp(b:Int):Option Bool:=b? (ite (0<=b) (M (s6 (b<=109572)))<|M a39) λa=>M a
def wo  : (Int×Int)->Option (Ex (Int×Int) (Int×Int) Unit):=λ(b,a)=>(Wf a).bind λc=>ite (c<=b) ((Wf a).bind λd=>M (i! (aa b! (b-d),aa b! (a+1))))<|M (i? (b,a))
def vo(c:Int):q6 (Int×Int) (Int×Int) Unit:=λ(b,a)=>(Kc c a).bind λd=>ite (d<=b) ((Kc c a).bind λe=>M (i! (aa b! (b-e),aa b! (a+1))))<|M (i? (b,a))
def Yr(f:Int):Option (Int×Int×Int):=(gp f).bind λe=>ite (e=a39) (M (0,0,0))<|(ca wo (f,1900)).bind λy=>match y with |.inr _=>s5 |.inl (b,a)=>(ca (vo a) (b,1)).bind λy=>match y with |.inr _=>s5 |.inl (c,d)=>M (a,d,aa b! (c+1))
def uu(c:te) (e d:Int):Option Bool:=b? ((yg c.ab e).bind λb=>ite b (ite (c.Lo<=d) (M (s6 (d<c.Hi)))<|M a39)<|M a39) λa=>M a
def sq(d:po) (e f:Int):q6 Int Unit (Int×Bool):=λc=>ite (c<a00 d.Rows) ((c! d.Rows c).bind λa=>(uu a e f).bind λb=>ite b (M (l? (c,a38)))<|M (i! (aa b! (c+1))))<|M (i? ())
def Ht(a:po) (b c:Int):Option (Int×Bool):=(ca (sq a b c) 0).bind λy=>match y with |.inr v=>M v |.inl _=>M (0,a39)
def Jt(e:po) (h:Int) (f:bz):Option (bz×Int):=b? (ite (f.a=e.af.a) (ite (f.g=e.af.g) (ite (¬e.Value.a<1) (M (s6 (6<e.Value.a)))<|M a38)<|M a38)<|M a38) λc=>ite c (M (bz.mk 0 0 0,8))<|(Ht e h f.N).bind λa=>ite (a.2=a39) (M (bz.mk 0 0 0,6))<|(c! e.Rows a.1).bind λb=>(Lb (bz.mk e.Value.a e.Value.g b.N)).bind λd=>ite (d=a39) (M (bz.mk 0 0 0,3))<|M (bz.mk e.Value.a e.Value.g b.N,0)
def Xr(b:Int):Option Bool:=b? (ite (0<=b) (M (s6 (b<=5)))<|M a39) λa=>M a
def Md(b c:Int):Option Bool:=b? (ite (¬c<b) (M (s6 (b<(aa b! (-c)))))<|M a38) λa=>M a
def Mk(d e:Int):Option (Int×Int×Bool):=b? (ite (e<0) (M (aa .u64 ((aa .u64 (aa b! (-(aa b! (e+1)))))+1)))<|M (aa .u64 e)) λa=>b? (ite (0<(aa b! (aa .u64 (s? a 1000000)))) ((quo b! 1000000000000000 (aa b! (aa .u64 (s? a 1000000)))).bind λc=>M (s6 (c<d)))<|M a39) λb=>ite b (M (0,0,a39))<|ite (1000000000000000<(aa b! ((aa b! ((aa b! (d*(aa b! (aa .u64 (s? a 1000000)))))+(aa b! ((aa b! (s? d 1000000))*(aa b! (v? a 1000000))))))+(aa b! (s? (aa b! ((v? d 1000000)*(aa b! (v? a 1000000)))) 1000000))))) (M (0,0,a39))<|ite (e<0) (M (aa b! (-(aa b! ((aa b! ((aa b! (d*(aa b! (aa .u64 (s? a 1000000)))))+(aa b! ((aa b! (s? d 1000000))*(aa b! (v? a 1000000))))))+(aa b! (s? (aa b! ((v? d 1000000)*(aa b! (v? a 1000000)))) 1000000))))),aa b! (-(v? (aa b! ((v? d 1000000)*(aa b! (v? a 1000000)))) 1000000)),a38))<|M (aa b! ((aa b! ((aa b! (d*(aa b! (aa .u64 (s? a 1000000)))))+(aa b! ((aa b! (s? d 1000000))*(aa b! (v? a 1000000))))))+(aa b! (s? (aa b! ((v? d 1000000)*(aa b! (v? a 1000000)))) 1000000))),v? (aa b! ((v? d 1000000)*(aa b! (v? a 1000000)))) 1000000,a38)
def di(g f h:Int) (a:Bool) (c:Int):Option Int:=b? (ite (c=0) (ite a (M (a38,s6 (0<f)))<|M (a39,a39))<|ite (c=1) (ite (a=a39) (M (a,s6 (0<f)))<|M (a,a39))<|ite (c=3) (M (a,s6 (0<f)))<|ite (c=4) (M (a,s6 ((aa b! (h-f))<=f)))<|ite (c=5) (ite (¬(aa b! (h-f))<f) (ite (f=(aa b! (h-f))) (M (a,(v? g 2)==1))<|M (a,a39))<|M (a,a38))<|M (a,a39)) λ(d,e)=>b? (ite e (M (aa b! (g+1)))<|M g) λb=>ite d (M (aa b! (-b)))<|M b
def Bo  : (Int×Int)->Option (Ex (Int×Int) (Int×Int) Unit):=λ(b,a)=>ite (a<0) (M (i! (aa b! (b-1),aa b! (a+1000000))))<|M (i? (b,a))
def Ao  : (Int×Int)->Option (Ex (Int×Int) (Int×Int) Unit):=λ(b,a)=>ite (1000000<=a) (M (i! (aa b! (b+1),aa b! (a-1000000))))<|M (i? (b,a))
def vu(h i g:Int):Option Int:=(ca Bo (h,i)).bind λy=>match y with |.inr _=>s5 |.inl (e,f)=>(ca Ao (e,f)).bind λy=>match y with |.inr _=>s5 |.inl (a,b)=>ite (0<=a) ((di a b 1000000 a39 g).bind λc=>M c)<|ite (b=0) (M a)<|(di (aa b! ((aa b! (-a))-1)) (aa b! (1000000-b)) 1000000 a38 g).bind λd=>M d
def kr(j:po) (l k:Int):q6 (Int×Int×Int) (Int×Int) (Int×Int):=λ(g,h,b)=>ite (b<a00 j.Rows) (b? ((c! j.Rows b).bind λa=>b? (if¬(min a.Hi k)<=(max a.Lo 0)then(yg a.ab l).bind λi=>M (!i)else M a38) λd=>ite d (M (Sum.inl (g,h)))<|(Mk (aa b! ((min a.Hi k)-(max a.Lo 0))) a.N).bind λc=>ite (c.2.2=a39) (M (Sum.inr (l? (0,3))))<|M (Sum.inl (aa b! (g+c.1),aa b! (h+c.2.1)))) λz=>match z with |.inr v=>M v |.inl (e,f)=>M (i! (e,f,aa b! (b+1))))<|M (i? (g,h))
def As(i:po) (k j e:Int):Option (Int×Int):=(Xr e).bind λg=>ite (g=a39) (M (0,1))<|b? (ite (i.af.a=3/\i.af.g=0) (M (!((i.Value.a==4)&&(i.Value.g==0))))<|M a38) λf=>ite f (M (0,8))<|(Md j 1000000000000000).bind λh=>ite h (M (0,3))<|(ca (kr i k j) (0,0,0)).bind λy=>match y with |.inr v=>M v |.inl (b,c)=>(vu b c e).bind λa=>(Md a 1000000000000000).bind λd=>ite d (M (0,3))<|M (a,0)
def Pk(c d b:Int):Option (bz×Int):=ite (¬b=0) (M (bz.mk 0 0 0,b))<|(Tc c d).bind λa=>M (a.1,a.2)
def Ce(o:fr) (n:bz) (p:ic):Option (bz×Int):=ite (o.Op=10) ((Lp n.a).bind λm=>ite (m=a39) (M (bz.mk 0 0 0,8))<|(Tc n.a (aa b! (0-n.N))).bind λj=>M (j.1,j.2))<|ite (o.Op=25) (ite (¬n.a=1) (M (bz.mk 0 0 0,8))<|(Fi (n.N==0)).bind λk=>M (k.1,k.2))<|b? (ite (o.Op=31) (M a38)<|M (o.Op==32)) λl=>ite l (ite (¬n.a=5) (M (bz.mk 0 0 0,8))<|(Yr n.N).bind λb=>ite (o.Op=31) ((Tc 2 b.1).bind λc=>M (c.1,c.2))<|(Tc 2 b.2.1).bind λd=>M (d.1,d.2))<|ite (o.Op=33) ((c! p.Tables o.N).bind λi=>(Jt i p.z n).bind λe=>M (e.1,e.2))<|(c! p.Tables (aa b! (s? o.N 8))).bind λa=>b? (ite (n.a=3) (ite (a.af.a=3) (ite (a.af.g=0) (ite (a.Value.a=4) (M (a.Value.g !=0))<|M a38)<|M a38)<|M a38)<|M a38) λh=>ite h (M (bz.mk 0 0 0,8))<|(As a p.z n.N (v? o.N 8)).bind λf=>(Pk 3 f.1 f.2).bind λg=>M (g.1,g.2)
def Nq(a:Int):Option Int:=ite (a<0) (M (aa b! (-a)))<|M a
def Hk(k j l:Int):Option (Int×Int):=(Xr l).bind λg=>ite (g=a39) (M (0,1))<|ite (j=0) (M (0,12))<|b? ((Md k 4611686018427387904).bind λh=>ite (h=a39) ((Md j 4611686018427387904).bind λi=>M i)<|M a38) λf=>ite f (M (0,3))<|(Nq k).bind λe=>(Nq j).bind λa=>(quo b! e a).bind λb=>(rem b! e a).bind λc=>(di b c a (!((s6 (k<0))==(s6 (j<0)))) l).bind λd=>M (d,0)
def bw(t u s m:Int):Option (Int×Int):=(Xr m).bind λo=>ite (o=a39) (M (0,1))<|ite (s=0) (M (0,12))<|b? ((Md t 1000000000000000).bind λp=>ite (p=a39) ((Md u 1000000000).bind λq=>ite (q=a39) ((Md s 1000000000).bind λr=>M r)<|M a38)<|M a38) λn=>ite n (M (0,3))<|(Nq t).bind λc=>(Nq u).bind λb=>(Nq s).bind λa=>b? (ite (0<b) ((quo b! c a).bind λg=>(quo b! 1000000000000000 b).bind λh=>M (s6 (h<g)))<|M a39) λf=>ite f (M (0,3))<|(rem b! c a).bind λd=>(quo b! c a).bind λi=>(quo b! (aa b! (d*b)) a).bind λj=>(rem b! (aa b! (d*b)) a).bind λk=>(di (aa b! ((aa b! (i*b))+j)) k a (!((!((s6 (t<0))==(s6 (u<0))))==(s6 (s<0)))) m).bind λe=>(Md e 1000000000000000).bind λl=>ite l (M (0,3))<|M (e,0)
def Ky(b c d:Int):Option (Int×Int):=(bw b c 1000000 d).bind λa=>M (a.1,a.2)
def Rq(i g h:Int):Option (bz×Int):=(It i).bind λe=>b? (ite (g<0) (M (aa b! (0-g)))<|M g) λc=>b? (ite (h<0) (M (aa b! (0-h)))<|M h) λb=>b? (ite (¬b=0) ((quo b! e.2 b).bind λf=>M (s6 (f<c)))<|M a39) λd=>ite d (M (bz.mk 0 0 0,3))<|(Tc i (aa b! (g*h))).bind λa=>M (a.1,a.2)
def xg(b c:Int):Option Bool:=b? (ite (¬c<b) (M (s6 (b<(aa b! (0-c)))))<|M a38) λa=>M a
def zv(d c:Int):Option (Int×Int):=(quo b! d c).bind λb=>(rem b! d c).bind λa=>ite (a<0) (M (aa b! (b-1),aa b! (a+c)))<|M (b,a)
def Oq(e f g a:Int):Option Int:=ite (f=0) (M e)<|b? (ite (¬a=1) (ite (a=2) (ite (¬e<0) (ite (a=3) (M (s6 (0<=e)))<|M a39)<|M a38)<|ite (a=3) (M (s6 (0<=e)))<|M a39)<|M a38) λc=>b? (b? (ite (¬a=4) (M (a==5))<|M a38) λd=>ite d (ite (f=(aa b! (g-f))) (ite (a=4) (ite (¬0<=e) (ite (a=5) (M ((v? e 2) !=0))<|M a39)<|M a38)<|ite (a=5) (M ((v? e 2) !=0))<|M a39)<|M (s6 ((aa b! (g-f))<f)))<|M c) λb=>ite b (M (aa b! (e+1)))<|M e
def RC(i j h:Int):Option (Int×Int):=b? (ite (¬h<0) (M (s6 (5<h)))<|M a38) λd=>ite d (M (0,1))<|b? ((xg i 1000000000).bind λf=>ite (f=a39) ((xg j 1000000000).bind λg=>M g)<|M a38) λe=>ite e (M (0,3))<|(zv (aa b! (i*j)) 1000000).bind λc=>(Oq c.1 c.2 1000000 h).bind λa=>(xg a 1000000000).bind λb=>ite b (M (0,3))<|M (a,0)
def mq(p o q:Int):Option (Int×Int):=b? (ite (¬q<0) (M (s6 (5<q)))<|M a38) λk=>ite k (M (0,1))<|ite (o=0) (M (0,12))<|b? ((xg p 1000000000000000).bind λm=>ite (m=a39) ((xg o 1000000000000000).bind λn=>M n)<|M a38) λl=>ite l (M (0,3))<|b? (ite (o<0) (M (aa b! (0-p),aa b! (0-o)))<|M (p,o)) λ(e,a)=>(zv e a).bind λb=>(xg b.1 1001).bind λf=>ite f (M (0,3))<|(quo b! (aa b! (b.2*1000)) a).bind λg=>(rem b! (aa b! (b.2*1000)) a).bind λc=>(quo b! (aa b! (c*1000)) a).bind λh=>(rem b! (aa b! (c*1000)) a).bind λi=>(Oq (aa b! ((aa b! ((aa b! (b.1*1000000))+(aa b! (g*1000))))+h)) i a q).bind λd=>(xg d 1000000000).bind λj=>ite j (M (0,3))<|M (d,0)
def su(j i k:Int):Option (Int×Int):=(Xr k).bind λf=>ite (f=a39) (M (0,1))<|ite (i<1) (M (0,12))<|b? ((Md j 1000000000000000).bind λg=>ite (g=a39) (M (s6 (1000000000000000<i)))<|M a38) λe=>ite e (M (0,3))<|(Nq j).bind λd=>(quo b! d i).bind λh=>(rem b! d i).bind λb=>(di h b i (s6 (j<0)) k).bind λa=>(Md (aa b! (a*i)) 1000000000000000).bind λc=>ite c (M (0,3))<|M (aa b! (a*i),0)
def Nd(w:fr) (u v:bz):Option (bz×Int):=b? (ite (w.Op=13) (ite (v.a=2) (ite (¬u.a=3) (M (a39,u.a==2))<|M (a38,a38))<|M (u.a==3,a39))<|M (u.a==3,a39)) λ(r,t)=>ite t ((Rq u.a u.N v.N).bind λs=>M (s.1,s.2))<|b? (ite (w.Op=14) (ite (v.a=4) (M r)<|M a39)<|M a39) λl=>ite l ((Ky u.N v.N w.N).bind λb=>(Pk u.a b.1 b.2).bind λc=>M (c.1,c.2))<|b? (ite (w.Op=14) (ite (v.a=4) (M (u.a==4))<|M a39)<|M a39) λm=>ite m ((RC u.N v.N w.N).bind λd=>(Pk u.a d.1 d.2).bind λe=>M (e.1,e.2))<|b? (ite (w.Op=15) (ite r (M (a38,v.a==3))<|M (a39,a39))<|M (r,a39)) λ(a,n)=>ite n ((mq u.N v.N w.N).bind λf=>(Pk 4 f.1 f.2).bind λg=>M (g.1,g.2))<|b? (ite (w.Op=15) (ite (v.a=2) (ite (a=a39) (M (a39,u.a==2))<|M (a38,a38))<|M (a,a39))<|M (a,a39)) λ(o,p)=>ite p ((Hk u.N v.N w.N).bind λh=>(Pk u.a h.1 h.2).bind λi=>M (i.1,i.2))<|b? (ite (w.Op=16) (ite o (M (v.a==3))<|M a39)<|M a39) λq=>ite q ((su u.N v.N w.N).bind λj=>(Pk u.a j.1 j.2).bind λk=>M (k.1,k.2))<|M (bz.mk 0 0 0,8)
def ud(d:Int):q6 (Int×Int) Int Unit:=λ(c,a)=>ite (a<d) ((Wf a).bind λb=>M (i! (aa b! (c+b),aa b! (a+1))))<|M (i? c)
def td(d e:Int):q6 (Int×Int) Int Unit:=λ(b,a)=>ite (a<e) ((Kc d a).bind λc=>M (i! (aa b! (b+c),aa b! (a+1))))<|M (i? b)
def fg(e g f:Int):Option (Int×Int):=b? (ite (¬e<1900) (ite (¬2199<e) (ite (¬f<1) ((Kc e g).bind λd=>M (s6 (d<f)))<|M a38)<|M a38)<|M a38) λc=>ite c (M (0,3))<|(ca (ud e) (aa b! (f-1),1900)).bind λy=>match y with |.inr _=>s5 |.inl a=>(ca (td e g) (a,1)).bind λy=>match y with |.inr _=>s5 |.inl b=>M (b,0)
def Ug(g f:Int):Option (Int×Int):=b? ((gp g).bind λd=>ite d (ite (¬f<(-3600)) (M (s6 (3600<f)))<|M a38)<|M a38) λc=>ite c (M (0,3))<|(Yr g).bind λa=>(Kc (aa b! (s? (aa b! ((aa b! ((aa b! ((aa b! (12*a.1))+a.2.1))-1))+f)) 12)) (aa b! ((v? (aa b! ((aa b! ((aa b! ((aa b! (12*a.1))+a.2.1))-1))+f)) 12)+1))).bind λe=>(fg (aa b! (s? (aa b! ((aa b! ((aa b! ((aa b! (12*a.1))+a.2.1))-1))+f)) 12)) (aa b! ((v? (aa b! ((aa b! ((aa b! ((aa b! (12*a.1))+a.2.1))-1))+f)) 12)+1)) (min a.2.2 e)).bind λb=>M (b.1,b.2)
def lf(d e:Int):q6 Int Empty Int:=λa=>(Ug d (aa b! (12*(aa b! (a+1))))).bind λb=>b? (ite (b.2=0) (M (s6 (e<b.1)))<|M a38) λc=>ite c (M (l? a))<|M (i! (aa b! (a+1)))
def Jk(e f:Int):Option Int:=b? ((gp e).bind λc=>ite c ((gp f).bind λd=>M (!d))<|M a38) λa=>ite a (M 0)<|(ca (lf e f) 0).bind λy=>match y with |.inr v=>M v |.inl b=>b.elim
def lp(j:Int) (i h:bz):Option (bz×Int):=ite (¬i.a=5) (M (bz.mk 0 0 0,8))<|b? (ite (¬j=27) (M (j==28))<|M a38) λg=>ite g (ite (¬h.a=2) (M (bz.mk 0 0 0,8))<|ite (j=27) ((Tc 5 (aa b! (i.N+h.N))).bind λd=>M (d.1,d.2))<|(Ug i.N h.N).bind λe=>(Pk 5 e.1 e.2).bind λf=>M (f.1,f.2))<|ite (¬h.a=5) (M (bz.mk 0 0 0,8))<|ite (j=29) ((Tc 2 (aa b! (h.N-i.N))).bind λa=>M (a.1,a.2))<|(Jk i.N h.N).bind λc=>(Tc 2 c).bind λb=>M (b.1,b.2)
def kd(v:Int) (t u:bz):Option (bz×Int):=b? (ite (t.a=u.a) (M (t.g !=u.g))<|M a38) λr=>ite r (M (bz.mk 0 0 0,8))<|ite (v=19) ((Fi (t.N==u.N)).bind λp=>M (p.1,p.2))<|ite (v=20) ((Fi (t.N !=u.N)).bind λq=>M (q.1,q.2))<|b? (ite (v=23) (M a38)<|M (v==24)) λs=>ite s (ite (¬t.a=1) (M (bz.mk 0 0 0,8))<|b? (ite (¬(aa b! (t.N+u.N))=2) (ite (v=24) ((Fi ((aa b! (t.N+u.N))==1)).bind λa=>M (a.1.a,a.1.g,a.1.N,a.2))<|(Fi a39).bind λb=>M (b.1.a,b.1.g,b.1.N,b.2))<|(Fi a38).bind λc=>M (c.1.a,c.1.g,c.1.N,c.2)) λ(h,i,j,k)=>M (bz.mk h i j,k))<|b? (ite (v=11) (M a38)<|M (v==12)) λl=>ite l ((Lp t.a).bind λn=>ite (n=a39) (M (bz.mk 0 0 0,8))<|ite (v=11) ((Tc t.a (aa b! (t.N+u.N))).bind λd=>M (d.1,d.2))<|(Tc t.a (aa b! (t.N-u.N))).bind λe=>M (e.1,e.2))<|b? ((Lp t.a).bind λo=>ite (o=a39) (M (t.a !=5))<|M a39) λm=>ite m (M (bz.mk 0 0 0,8))<|ite (v=21) ((Fi (s6 (t.N<u.N))).bind λf=>M (f.1,f.2))<|ite (v=22) ((Fi (s6 (t.N<=u.N))).bind λg=>M (g.1,g.2))<|ite ((v==17)=(s6 (t.N<u.N))) (M (t,0))<|M (u,0)
def Ib(e:fr) (f g:bz):Option (bz×Int):=b? (ite (13<=e.Op) (M (s6 (e.Op<=16)))<|M a39) λd=>ite d ((Nd e f g).bind λa=>M (a.1,a.2))<|ite (27<=e.Op) ((lp e.Op f g).bind λb=>M (b.1,b.2))<|(kd e.Op f g).bind λc=>M (c.1,c.2)
def Co(d:List bz):q6 Int Unit (bz×Int):=λa=>ite (a<a00 d) ((c! d a).bind λb=>(Lb b).bind λc=>ite (c=a39) (M (l? (bz.mk 0 0 0,8)))<|M (i! (aa b! (a+1))))<|M (i? ())
def Es(p:fr) (o:List bz) (q:ic):Option (bz×Int):=(nw p (a00 o:Int)).bind λm=>ite (m=a39) (M (bz.mk 0 0 0,2))<|(Oy p q).bind λn=>ite (n=a39) (M (bz.mk 0 0 0,6))<|(ca (Co o) 0).bind λy=>match y with |.inr v=>M v |.inl _=>ite ((a00 o:Int)=0) (b? (ite (36<=p.Op) (M (s6 (p.Op<=39)))<|M a39) λh=>ite h ((Qq p q).bind λc=>M (c.1,c.2))<|(ig p q).bind λd=>M (d.1,d.2))<|ite ((a00 o:Int)=1) ((c! o 0).bind λj=>(Ce p j q).bind λe=>M (e.1,e.2))<|if(a00 o:Int)=2 then(c! o 0).bind λk=>(c! o 1).bind λl=>(Ib p k l).bind λf=>M (f.1,f.2)else(c! o 0).bind λg=>(c! o 1).bind λa=>(c! o 2).bind λb=>b? (ite (g.a=1) (ite (a.a=b.a) (M (a.g !=b.g))<|M a38)<|M a38) λi=>ite i (M (bz.mk 0 0 0,8))<|ite (g.N=1) (M (a,0))<|M (b,0)
def Eo(h:List fr) (i:ic) (g:List Int) (b:((List fr)->Int->ic->Option (bz×Int))):q6 (List bz×Int) (List bz) (bz×Int):=λ(f,c)=>ite (c<a00 g) ((c! g c).bind λd=>(b h d i).bind λa=>ite (¬a.2=0) (M (l? (bz.mk 0 0 0,a.2)))<|(app 24 f ([a.1])).bind λe=>M (i! (e,aa b! (c+1))))<|M (i? f)
def yn(a:((List fr)->Int->ic->Option (bz×Int))) (b:((List fr)->Int->(List Int)->ic->Option (bz×Int))) (i:List fr) (j:Int) (k:ic):Option (bz×Int):=(ts i j).bind λf=>(c! i j).bind λd=>b? (ite (¬d.Op=23) (ite (¬d.Op=24) (M (d.Op==26))<|M a38)<|M a38) λh=>ite h ((b i j f k).bind λg=>M (g.1,g.2))<|(ca (Eo i k f a) (([]:List bz),0)).bind λy=>match y with |.inr v=>M v |.inl e=>(Es d e k).bind λc=>M (c.1,c.2)
def ow(a:((List fr)->Int->ic->Option (bz×Int))) (R458:((List fr)->Int->(List Int)->ic->Option (bz×Int))) (p:List fr) (r:Int) (q:List Int) (f:ic):Option (bz×Int):=(c! p r).bind λh=>ite (¬h.N=0) (M (bz.mk 0 0 0,2))<|(c! q 0).bind λn=>(a p n f).bind λc=>ite (¬c.2=0) (M (bz.mk 0 0 0,c.2))<|b? (ite (c.1.a=1) ((Lb c.1).bind λo=>M (!o))<|M a38) λm=>ite m (M (bz.mk 0 0 0,8))<|ite (h.Op=26) (ite (c.1.N=1) ((c! q 1).bind λi=>(a p i f).bind λd=>M (d.1,d.2))<|(c! q 2).bind λj=>(a p j f).bind λe=>M (e.1,e.2))<|if(h.Op==23)=(c.1.N==0)then M (c.1,0)else(c! q 1).bind λk=>(a p k f).bind λb=>ite (¬b.2=0) (M (bz.mk 0 0 0,b.2))<|b? (ite (b.1.a=1) ((Lb b.1).bind λl=>M (!l))<|M a38) λg=>ite g (M (bz.mk 0 0 0,8))<|M (b.1,0)
def Ha:Nat->((List fr)->Int->ic->Option (bz×Int))×((List fr)->Int->(List Int)->ic->Option (bz×Int)) |0=>(λ_ _ _=>s5,λ_ _ _ _=>s5) |n+1=>(yn (Ha n).1 (Ha n).2,ow (Ha n).1 (Ha n).2)
def xB(a:List fr) (b:Int) (c:ic):Option (bz×Int):=(Ha eg).1 a b c
def lP(b:List fr) (c:Int) (d:List Int) (a:ic):Option (bz×Int):=(Ha eg).2 b c d a
def Lx(c:List fr) (d:ic):Option (bz×Int):=(Kz c).bind λa=>ite (¬a.2=0) (M (bz.mk 0 0 0,a.2))<|(xB c (aa b! ((a00 c:Int)-1)) d).bind λb=>M (b.1,b.2)
def Fm(f g:List Int):q6 Int Unit Int:=λa=>ite (a<a00 f) (b? ((c! f a).bind λc=>ite (¬c<(-1)) (M (s6 (a<=c)))<|M a38) λe=>ite e (M (l? 9))<|b? ((c! g a).bind λd=>ite (¬d<0) (M (s6 (9<d)))<|M a38) λb=>ite b (M (l? 3))<|M (i! (aa b! (a+1))))<|M (i? ())
def Gs(a b:List Int):Option Int:=ite (¬(a00 a:Int)=a00 b) (M 2)<|ite (8<(a00 a:Int)) (M 4)<|(ca (Fm a b) 0).bind λy=>match y with |.inr v=>M v |.inl _=>M 0
def Em(f:List Int) (g:Int):q6 (List Int×Int) (List Int) Unit:=λ(e,d)=>ite (d<a00 f) (b? ((c! f d).bind λb=>ite (b=g) ((app 8 e ([d])).bind λc=>M c)<|M e) λa=>M (i! (a,aa b! (d+1))))<|M (i? e)
def Fs(b:List Int) (c:Int):Option (List Int):=(ca (Em b c) ([],0)).bind λy=>match y with |.inr _=>s5 |.inl a=>M a
def Fo(R347:((List Int)->(List Int)->(List Bool)->Int->Option Int)) (a:((List Int)->(List Int)->(List Bool)->Int->Option (List Int))) (b:((List Int)->(List Int)->(List Bool)->Int->Option Int)) (g h:List Int) (i:List Bool) (d:Int):Option Int:=(a g h i d).bind λc=>ite ((a00 c:Int)=0) (M (-1))<|ite (1<(a00 c:Int)) (M (-2))<|(c! c 0).bind λe=>(b g h i e).bind λf=>M f
def gy(s q:List Int) (t:List Bool) (n:List Int) (b:((List Int)->(List Int)->(List Bool)->Int->Option Int)):q6 (List Int×Int) (List Int) Unit:=λ(r,g)=>ite (g<a00 n) (b? ((c! n g).bind λc=>(b s q t c).bind λo=>ite (o=(-1)) (M r)<|b? (b? (ite (0<(a00 r:Int)) ((c! q c).bind λp=>(c! r 0).bind λh=>(c! q h).bind λi=>M (s6 (i<p)))<|M a39) λd=>ite d (M ([]))<|M r) λa=>b? (ite (¬(a00 a:Int)=0) ((c! q c).bind λj=>(c! a 0).bind λk=>(c! q k).bind λl=>M (j==l))<|M a38) λe=>ite e ((app 8 a ([c])).bind λm=>M m)<|M a) λf=>M (i! (f,aa b! (g+1))))<|M (i? r)
def qw(R347:((List Int)->(List Int)->(List Bool)->Int->Option Int)) (R348:((List Int)->(List Int)->(List Bool)->Int->Option (List Int))) (a:((List Int)->(List Int)->(List Bool)->Int->Option Int)) (e f:List Int) (g:List Bool) (c:Int):Option (List Int):=(Fs e c).bind λd=>(ca (gy e f g d a) ([],0)).bind λy=>match y with |.inr _=>s5 |.inl b=>M b
def vq(a:((List Int)->(List Int)->(List Bool)->Int->Option Int)) (R348:((List Int)->(List Int)->(List Bool)->Int->Option (List Int))) (R460:((List Int)->(List Int)->(List Bool)->Int->Option Int)) (g h:List Int) (f:List Bool) (b:Int):Option Int:=(a g h f b).bind λc=>b? (ite (c=(-1)) ((c! f b).bind λe=>M e)<|M a39) λd=>ite d (M b)<|M c
def ja:Nat->((List Int)->(List Int)->(List Bool)->Int->Option Int)×((List Int)->(List Int)->(List Bool)->Int->Option (List Int))×((List Int)->(List Int)->(List Bool)->Int->Option Int) |0=>(λ_ _ _ _=>s5,λ_ _ _ _=>s5,λ_ _ _ _=>s5) |n+1=>(Fo (ja n).1 (ja n).2.1 (ja n).2.2,qw (ja n).1 (ja n).2.1 (ja n).2.2,vq (ja n).1 (ja n).2.1 (ja n).2.2)
def sw(b c:List Int) (d:List Bool) (a:Int):Option Int:=(ja eg).1 b c d a
def oP(b c:List Int) (d:List Bool) (a:Int):Option (List Int):=(ja eg).2.1 b c d a
def cH(b c:List Int) (d:List Bool) (a:Int):Option Int:=(ja eg).2.2 b c d a
def pw(d e:List Int) (f:List Bool):Option Int:=b? ((Gs d e).bind λb=>ite (b=0) (M ((a00 f:Int) !=a00 d))<|M a38) λa=>ite a (M (-1))<|(sw d e f (-1)).bind λc=>M c
def Jf(i:cb) (h:List bz) (j:List mu):q6 Int Unit (Int×Int):=λa=>ite (a<a00 h) ((c! h a).bind λc=>(c! j a).bind λe=>b? (ite (c.a=e.ao.a) (M (c.g !=e.ao.g))<|M a38) λf=>ite f (M (l? (a,8)))<|(Xc e.ao i.r).bind λb=>b? (ite (¬c.N<b.1) (M (s6 (b.2<c.N)))<|M a38) λd=>ite d (M (l? (a,3)))<|M (i! (aa b! (a+1))))<|M (i? ())
def Hf(c:cb) (a:List bz) (b:List mu):Option (Int×Int):=ite ((a00 a:Int)<a00 b) (M ((a00 a:Int),5))<|if(a00 b:Int)<a00 a then M ((a00 b:Int),4)else(ca (Jf c a b) 0).bind λy=>match y with |.inr v=>M v |.inl _=>M (0,0)
def dh(d:cb) (f:Int):Option (List mu×Int):=(c! d.e f).bind λa=>b? (ite (¬a.ac<0) (M (s6 ((a00 d.e:Int)<=a.ac)))<|M a38) λb=>ite b (M ([],0))<|(c! d.e a.ac).bind λc=>M (c.w,8)
def si(f:cb) (e:se) (c:(List mu×Int)):q6 Int Unit (Int×Int×Int):=λa=>ite (a<a00 e.s) ((c! e.s a).bind λd=>(Hf f d c.1).bind λb=>ite (¬b.2=0) (M (l? (a,b.1,b.2)))<|M (i! (aa b! (a+1))))<|M (i? ())
def Xl(f:cb) (h:Int) (g:se):Option (Int×Int×Int):=b? (ite (¬h<0) (M (s6 ((a00 f.e:Int)<=h)))<|M a38) λc=>ite c (M (-1,-1,6))<|b? (ite (¬g.z<0) (M (s6 (109572<g.z)))<|M a38) λd=>ite d (M (-1,-1,3))<|(c! f.e h).bind λe=>(Hf f g.w e.w).bind λb=>ite (¬b.2=0) (M (-1,b.1,b.2))<|(dh f h).bind λa=>ite (a.2<a00 g.s) (M (a.2,-1,4))<|(ca (si f g a) 0).bind λy=>match y with |.inr v=>M v |.inl _=>M (0,0,0)
def tc(g:cb) (h:Int) (i:se) (d:Bool) (b:Int):Option ri:=(Ep g).bind λe=>ite (¬e.Code=0) (M (ri.mk 1 (-1) (-1) (-1)))<|b? (ite (¬h<0) (ite (¬(a00 g.e:Int)<=h) (ite d (ite (¬b<0) ((c! g.e h).bind λf=>M (s6 ((a00 f.d:Int)<=b)))<|M a38)<|M a39)<|M a38)<|M a38) λc=>ite c (M (ri.mk 6 (-1) (-1) (-1)))<|(Xl g h i).bind λa=>ite (¬a.2.2=0) (M (ri.mk a.2.2 a.1 (-1) (-1)))<|M (ri.mk 0 0 0 0)
def Jh(k:ek) (l:ic) (m j:Int) (g:(List Int×List Int×List Int)):q6 (List Bool×Int) (List Bool) (Int×ri):=λ(c,a)=>ite (a<a00 g.1) (b? ((c! g.1 a).bind λh=>(c! k.f h).bind λi=>if(a00 i.ak:Int)=0 then(c! c a).bind λn=>(put c a a38).bind λe=>M (Sum.inl e)else(Ql i.ak l).bind λb=>ite (¬b.2=0) (M (Sum.inr (l? (0,ri.mk b.2 m j h))))<|(c! c a).bind λo=>(put c a (b.1.N==1)).bind λf=>M (Sum.inl f)) λz=>match z with |.inr v=>M v |.inl d=>M (i! (d,aa b! (a+1))))<|M (i? c)
def Af(g:ek) (h:ic) (i e:Int):Option (Int×ri):=(Wn g e h.z).bind λb=>(kD 1 a39 (a00 b.1:Int) (a00 b.1:Int)).bind λf=>(ca (Jh g h i e b) (f,0)).bind λy=>match y with |.inr v=>M v |.inl c=>(Hq b.2.1 b.2.2 c).bind λa=>ite (a<0) (M (a,ri.mk 0 0 0 0))<|(c! b.1 a).bind λd=>M (d,ri.mk 0 0 0 0)
def Nf(a:ek):Option (List Int×Int):=(jd a).bind λx=>M (Fx x)
def Ic(q:ek) (o:ic) (p:Int) (m:List Bool) (l:(List Int×Int)):q6 (List bz×List Int×Int) (List bz×List Int) ((List Int×ri)×ic):=λ(b,e,h)=>ite (h<a00 l.1) (b? ((c! l.1 h).bind λc=>(c! m c).bind λn=>ite (n=a39) (M (Sum.inl (b,e)))<|(Af q (ic.mk o.z o.w b o.s o.av o.Tables) p c).bind λa=>ite (¬a.2.Code=0) (M (Sum.inr (l? (([],a.2),ic.mk o.z o.w b o.s o.av o.Tables))))<|ite (a.1=(-1)) (M (Sum.inr (l? (([],ri.mk 10 p c (-1)),ic.mk o.z o.w b o.s o.av o.Tables))))<|ite (a.1=(-2)) (M (Sum.inr (l? (([],ri.mk 11 p c (-1)),ic.mk o.z o.w b o.s o.av o.Tables))))<|(c! q.f a.1).bind λi=>(Ql i.Value (ic.mk o.z o.w b o.s o.av o.Tables)).bind λd=>ite (¬d.2=0) (M (Sum.inr (l? (([],ri.mk d.2 p c a.1),ic.mk o.z o.w b o.s o.av o.Tables))))<|(c! b c).bind λr=>(put b c d.1).bind λj=>(c! e c).bind λt=>(put e c a.1).bind λk=>M (Sum.inl (j,k))) λz=>match z with |.inr v=>M v |.inl (f,g)=>M (i! (f,g,aa b! (h+1))))<|M (i? (b,e))
def Da(g:ek) (h:ic) (i:Int) (c:List Bool):Option ((List Int×ri)×ic):=(kD 24 (bz.mk 0 0 0) (a00 g.d:Int) (a00 g.d:Int)).bind λd=>(kD 8 0 (a00 g.d:Int) (a00 g.d:Int)).bind λe=>(Nf g).bind λf=>(ca (Ic g h i c f) (d,e,0)).bind λy=>match y with |.inr v=>M v |.inl (a,b)=>M ((b,ri.mk 0 0 0 0),ic.mk h.z h.w a h.s h.av h.Tables)
def Ih(a:b0):q6 (List ej×Int) (List ej) Unit:=λ(f,e)=>ite (e<a00 a.memberScope.d) ((c! a.memberScope.d e).bind λb=>(app 16 f ([b.ao])).bind λc=>M (i! (c,aa b! (e+1))))<|M (i? f)
def Hh(j:cb) (i:se) (h:b0):q6 ((List (List bz))×List wt×Int) ((List (List bz))×List wt) (b7×ic×ri):=λ(g,c,b)=>ite (b<a00 i.s) ((c! i.s b).bind λd=>(Da h.memberScope (ic.mk i.z d ([]) ([]) ([]) j.Tables) b h.memberDefs).bind λa=>ite (¬a.1.2.Code=0) (M (l? (b7.mk ([]) ([]) ([]),ic.mk 0 ([]) ([]) ([]) ([]) ([]),a.1.2)))<|(app 24 g ([a.2.d])).bind λe=>(app 48 c ([wt.mk a.2.d a.1.1])).bind λf=>M (i! (e,f,aa b! (b+1))))<|M (i? (g,c))
def Qg(g:cb) (h:Int) (f:se) (b:b0):Option (b7×ic×ri):=(ca (Ih b) (([]:List ej),0)).bind λy=>match y with |.inr _=>s5 |.inl e=>(ca (Hh g f b) (([]:List (List bz)),([]:List wt),0)).bind λy=>match y with |.inr v=>M v |.inl (c,d)=>(Da b.scope (ic.mk f.z f.w ([]) c e g.Tables) (-1) b.defs).bind λa=>ite (¬a.1.2.Code=0) (M (b7.mk ([]) ([]) ([]),ic.mk 0 ([]) ([]) ([]) ([]) ([]),a.1.2))<|M (b7.mk a.2.d a.1.1 d,a.2,ri.mk 0 0 0 0)
def Pu(e:List Int):q6 (List Bool×Int) (List Bool) Unit:=λ(c,a)=>ite (a<a00 e) ((c! e a).bind λb=>(c! c b).bind λf=>(put c b a38).bind λd=>M (i! (d,aa b! (a+1))))<|M (i? c)
def ik(l:ek) (d:List Bool):q6 (List Int×Int) (List Int) Unit:=λ(b,c)=>ite (c<a00 l.f) (b? ((c! l.f c).bind λa=>b? (ite (¬a.u<0) (ite (¬(a00 l.d:Int)<=a.u) ((c! d a.u).bind λg=>M (!g))<|M a38)<|M a38) λe=>ite e (M b)<|(Og a.ak).bind λh=>(Og a.Value).bind λi=>(app 8 b h.2.2).bind λj=>(app 8 j i.2.2).bind λk=>M k) λf=>M (i! (f,aa b! (c+1))))<|M (i? b)
def lj(i:ek) (j:Int):Option (List Int):=b? (ite (¬j<0) (M (s6 ((a00 i.d:Int)<=j)))<|M a38) λe=>ite e (M ([]))<|(kD 1 a39 (a00 i.d:Int) (a00 i.d:Int)).bind λd=>(c! d j).bind λk=>(put d j a38).bind λf=>(jd i).bind λg=>(cm g j).bind λh=>(ca (Pu h) (f,0)).bind λy=>match y with |.inr _=>s5 |.inl a=>(ca (ik i a) (([]:List Int),0)).bind λy=>match y with |.inr _=>s5 |.inl b=>(lk b).bind λc=>M c
def Pt(a:ma):Option Bool:=M (s6 ((a00 a.au.as:Int)<=70))
def wv(b:Int):Option Bool:=b? (ite (0<=b) (M (s6 (b<=3599)))<|M a39) λa=>M a
def FD(c:Int):Option Int:=(wv c).bind λa=>ite (a=a39) (M 0)<|(xe (aa b! (1900+(aa b! (s? c 12)))) (aa b! ((v? c 12)+1))).bind λb=>M b
def uv(d:Int):Option (ia×Int):=(wv d).bind λb=>ite (b=a39) (M (ia.mk 0 0,3))<|(Yl (aa b! (1900+(aa b! (s? d 12)))) (aa b! ((v? d 12)+1)) 1).bind λa=>ite (¬a.2=0) (M (ia.mk 0 0,a.2))<|(FD d).bind λc=>M (ia.mk a.1 (aa b! (a.1+c)),0)
def ij(b:Int):Option Bool:=b? (ite (0<=b) (M (s6 (b<=109572)))<|M a39) λa=>M a
def Jc(f:ve):q6 Int Unit Bool:=λa=>ite (a<a00 f.as) ((c! f.as a).bind λd=>b? ((ij d).bind λe=>ite e (ite (0<a) ((c! f.as (aa b! (a-1))).bind λc=>M (s6 (d<=c)))<|M a39)<|M a38) λb=>ite b (M (l? a39))<|M (i! (aa b! (a+1))))<|M (i? ())
def re(b:ve):Option Bool:=b? (ite (¬b.a5<0) (ite (¬126<b.a5) (M (s6 (64<(a00 b.as:Int))))<|M a38)<|M a38) λa=>ite a (M a39)<|(ca (Jc b) 0).bind λy=>match y with |.inr v=>M v |.inl _=>M a38
def Ja(n:cb) (o:Int) (m:ma):Option Int:=(Ep n).bind λb=>ite (¬(b.Code=0/\b.bf=0/\b.bg=0/\b.bh=0)) (M 1)<|b? (ite (¬o<0) (ite (¬(a00 n.e:Int)<=o) (ite (¬m.u<0) ((c! n.e o).bind λk=>M (s6 ((a00 k.d:Int)<=m.u)))<|M a38)<|M a38)<|M a38) λj=>ite j (M 6)<|(c! n.e o).bind λl=>(c! l.d m.u).bind λa=>ite (¬(a.ao.a=3/\a.ao.g=0)) (M 8)<|b? (ite (¬m.aw<0) (ite (¬5<m.aw) ((re m.au).bind λi=>M (!i))<|M a38)<|M a38) λc=>ite c (M 1)<|b? (b? (ite (¬m.bc<1) (M (s6 (28<m.bc)))<|M a38) λd=>ite d (M a38)<|b? (ite (¬m.bb<0) (M (s6 (1000000<m.bb)))<|M a38) λe=>ite e (M a38)<|b? (ite (¬m.a6<0) (M (s6 (1000000000000000<m.a6)))<|M a38) λf=>ite f (M a38)<|b? (ite (¬m.aj<0) (M (s6 (3599<m.aj)))<|M a38) λg=>ite g (M a38)<|ite (¬m.ba<0) (M (s6 (365<m.ba)))<|M a38) λh=>ite h (M 3)<|M 0
def Be(d:cb) (f:Int):Option (List mu×Bool):=(c! d.e f).bind λa=>b? (ite (¬a.ac<0) (M (s6 ((a00 d.e:Int)<=a.ac)))<|M a38) λb=>ite b (M ([],a39))<|(c! d.e a.ac).bind λc=>M (c.w,a38)
def eo(c:ia):Option Bool:=b? ((pe c).bind λb=>ite b (M (s6 (c.n<c.To)))<|M a39) λa=>M a
def oj(h:ka):Option Int:=ite (h.Id<0) (M 3)<|b? (ite (¬h.ar<(-1)) (M (s6 (8<=h.ar)))<|M a38) λe=>ite e (M 3)<|b? (ite (¬h.ap<(-1)) (M (s6 (12<=h.ap)))<|M a38) λf=>ite f (M 3)<|b? (ite (h.ar=(-1)) (M (h.ap==(-1)))<|M a39) λg=>ite g (M 3)<|(eo h.ab).bind λd=>ite (d=a39) (M 3)<|b? (ite (¬h.ah<0) (M (s6 (109572<h.ah)))<|M a38) λa=>ite a (M 3)<|b? (ite (¬h.Value.a<1) (M (s6 (6<h.Value.a)))<|M a38) λb=>ite b (M 8)<|b? (ite (h.ap=(-1)) (M (h.Value.a !=1))<|M a39) λc=>ite c (M 8)<|M 0
def sg:Int->List Int->List ka->Option (Int×Int) |_,_,[]=>M (0,0) |i,seen,f::l=>(oj f).bind λc=>if¬c=0 then M (i,c)else if seen.contains f.Id then M (i,7)else sg (i+1) (f.Id::seen) l
def bo(a:List ka):Option (Int×Int):=ite (128<(a00 a:Int)) (M (0,4))<|sg 0 [] a
def mh(n:cb) (m:ml) (l:(List mu×Bool)):q6 Int Unit (Int×Int):=λb=>ite (b<a00 m.aa) ((c! m.aa b).bind λa=>ite (m.s<=a.ar) (M (l? (b,6)))<|b? (ite (a.ar=(-1)) ((c! n.e m.ai).bind λk=>M k.w)<|M l.1) λc=>b? (ite (¬a.ap=(-1)) (b? (ite (¬a.ap<0) (M (s6 ((a00 c:Int)<=a.ap)))<|M a38) λh=>ite h (M (Sum.inr (l? (b,6))))<|(c! c a.ap).bind λf=>M (Sum.inl (f.ao.a,f.ao.g)))<|M (Sum.inl (1,0))) λz=>match z with |.inr v=>M v |.inl (d,e)=>b? (ite (a.Value.a=d) (M (a.Value.g !=e))<|M a38) λi=>ite i (M (l? (b,8)))<|(Xc (ej.mk d e) n.r).bind λg=>b? (ite (¬a.Value.N<g.1) (M (s6 (g.2<a.Value.N)))<|M a38) λj=>ite j (M (l? (b,3)))<|M (i! (aa b! (b+1))))<|M (i? ())
def Zd(g:cb) (f:ml):Option (Int×Int):=b? (ite (¬f.ai<0) (M (s6 ((a00 g.e:Int)<=f.ai)))<|M a38) λc=>ite c (M (-1,6))<|(Be g f.ai).bind λb=>b? (ite (¬f.Id<0) (ite (¬f.s<0) (ite (¬8<f.s) (ite (¬f.s=0) (M (!b.2))<|M a39)<|M a38)<|M a38)<|M a38) λd=>ite d (M (-1,3))<|(bo f.aa).bind λa=>ite (¬a.2=0) (M (a.1,a.2))<|(ca (mh g f b) 0).bind λy=>match y with |.inr v=>M v |.inl _=>M (0,0)
def Zc(c:cb) (d:ml) (e:ma):Option Bool:=(Ja c d.ai e).bind λa=>ite (¬a=0) (M a39)<|(Zd c d).bind λb=>M (b.2==0)
def Tu(a b:ka):Option Bool:=ite (¬a.ah=b.ah) (M (s6 (b.ah<a.ah)))<|M (s6 (b.Id<a.Id))
def sn(l:List ka) (m n g h:Int):q6 (Int×Int) Int Unit:=λ(j,k)=>ite (k<a00 l) (b? ((c! l k).bind λa=>b? (ite (a.ar=m) (ite (a.ap=n) (ite (¬h<a.ah) ((fc a.ab g).bind λi=>M (!i))<|M a38)<|M a38)<|M a38) λf=>ite f (M j)<|b? (ite (¬j<0) ((c! l j).bind λd=>(Tu a d).bind λe=>M e)<|M a38) λb=>ite b (M k)<|M j) λc=>M (i! (c,aa b! (k+1))))<|M (i? j)
def rn(e:List ka) (f g c d:Int):Option (bz×Bool):=(ca (sn e f g c d) (-1,0)).bind λy=>match y with |.inr _=>s5 |.inl a=>ite (a<0) (M (bz.mk 0 0 0,a39))<|(c! e a).bind λb=>M (b.Value,a38)
def kf(h:List ka) (i c d:Int) (e:List bz):q6 (List bz×Int) (List bz) (List bz×Bool):=λ(g,a)=>ite (a<a00 e) ((rn h i a c d).bind λb=>ite (b.2=a39) (M (l? ([],a39)))<|(c! g a).bind λj=>(put g a b.1).bind λf=>M (i! (f,aa b! (a+1))))<|M (i? g)
def Ef(f:List ka) (g e c d:Int):Option (List bz×Bool):=(kD 24 (bz.mk 0 0 0) e e).bind λb=>(ca (kf f g c d b) (b,0)).bind λy=>match y with |.inr v=>M v |.inl a=>M (a,a38)
def tg(g:ml) (h i:Int):q6 (List Int×Int) (List Int) Unit:=λ(f,e)=>ite (e<(min (max g.s 0) 8)) (b? ((rn g.aa e (-1) h i).bind λb=>b? (ite b.2 (ite (b.1.a=1) (M (b.1.N==1))<|M a39)<|M a39) λc=>ite c ((app 8 f ([e])).bind λd=>M d)<|M f) λa=>M (i! (a,aa b! (e+1))))<|M (i? f)
def Bj(b:ml) (c d:Int):Option (List Int):=(ca (tg b c d) (([]:List Int),0)).bind λy=>match y with |.inr _=>s5 |.inl a=>M a
def Mn(i:ml) (j h:Int) (e:(List mu×Bool)) (c:List Int):q6 ((List (List bz))×Int) (List (List bz)) (se×Int):=λ(b,a)=>ite (a<a00 c) ((c! c a).bind λf=>(Ef i.aa f (a00 e.1:Int) j h).bind λd=>ite (d.2=a39) (M (l? (se.mk 0 ([]) ([]),6)))<|(app 24 b ([d.1])).bind λg=>M (i! (g,aa b! (a+1))))<|M (i? b)
def Bh(l:cb) (j:ml) (k c:Int):Option (se×Int):=(Ep l).bind λa=>if¬(a.Code=0/\a.bf=0/\a.bg=0/\a.bh=0)then M (se.mk 0 ([]) ([]),1)else(Zd l j).bind λh=>ite (¬h.2=0) (M (se.mk 0 ([]) ([]),1))<|b? (ite (¬k<0) (M (s6 (109572<k)))<|M a38) λg=>ite g (M (se.mk 0 ([]) ([]),3))<|(c! l.e j.ai).bind λi=>(Ef j.aa (-1) (a00 i.w:Int) k c).bind λf=>ite (f.2=a39) (M (se.mk 0 ([]) ([]),6))<|(Be l j.ai).bind λd=>(Bj j k c).bind λe=>(ca (Mn j k c d e) (([]:List (List bz)),0)).bind λy=>match y with |.inr v=>M v |.inl b=>M (se.mk k f.1 b,0)
def Zi(k:cb) (l:Int):Option (ByteArray×Int×List mu×List mu×List kv×ByteArray×Int×List mu×List mu×List kv×List Bool×List Bool):=(c! k.e l).bind λa=>(kD 1 a39 (a00 a.d:Int) (a00 a.d:Int)).bind λi=>b? (ite (0<=a.ac) ((c! k.e a.ac).bind λb=>(kD 1 a39 (a00 b.d:Int) (a00 b.d:Int)).bind λj=>M (b.q,b.ac,b.w,b.d,b.f,j))<|M (n? #[],0,([]:List mu),([]:List mu),([]:List kv),([]:List Bool))) λ(g,h,c,d,e,f)=>M (a.q,a.ac,a.w,a.d,a.f,g,h,c,d,e,i,f)
def Fh(c:List Int):q6 (List Bool×Int) (List Bool) Unit:=λ(a,b)=>ite (b<a00 c) ((c! c b).bind λd=>(c! a d).bind λf=>(put a d a38).bind λe=>M (i! (e,aa b! (b+1))))<|M (i? a)
def Cp(c:List Int):q6 (List Bool×Int) (List Bool) Unit:=λ(a,b)=>ite (b<a00 c) ((c! c b).bind λd=>(c! a d).bind λf=>(put a d a38).bind λe=>M (i! (e,aa b! (b+1))))<|M (i? a)
def Ch(d:ByteArray) (e:Int) (f g:List mu) (h:List kv) (b:List Bool) (a:Int):Option (List Bool):=(c! b a).bind λk=>(put b a a38).bind λi=>(bd (ek.mk d e f g h) a).bind λj=>(ca (Cp j) (i,0)).bind λy=>match y with |.inr _=>s5 |.inl c=>M c
def Eh(d:ByteArray) (e:Int) (f g:List mu) (h:List kv) (c:List Int):q6 (List Bool×Int) (List Bool) Unit:=λ(b,a)=>ite (a<a00 c) ((c! c a).bind λj=>(Ch d e f g h b j).bind λi=>M (i! (i,aa b! (a+1))))<|M (i? b)
def Dh(g:Int) (a:ByteArray) (b:Int) (c d:List mu) (e:List kv) (j:ByteArray) (k:Int) (l m:List mu) (n:List kv) (f o:List Bool):Option (List Bool×List Bool):=(c! f g).bind λs=>(put f g a38).bind λp=>(bd (ek.mk a b c d e) g).bind λq=>(ca (Fh q) (p,0)).bind λy=>match y with |.inr _=>s5 |.inl h=>(lj (ek.mk a b c d e) g).bind λr=>(ca (Eh j k l m n r) (o,0)).bind λy=>match y with |.inr _=>s5 |.inl i=>M (h,i)
def Hc(t:cb) (u:Int) (v:se) (l:Int):Option (bz×Int×ri):=(tc t u v a38 l).bind λs=>ite (¬s.Code=0) (M (bz.mk 0 0 0,0,s))<|(Zi t u).bind λ(b,c,d,e,f,g,h,i,j,k,m,n)=>(Dh l b c d e f g h i j k m n).bind λ(o,p)=>(Qg t u v (b0.mk (ek.mk b c d e f) (ek.mk g h i j k) o p)).bind λa=>ite (¬a.2.2.Code=0) (M (bz.mk 0 0 0,0,a.2.2))<|(c! a.1.bd l).bind λq=>(c! a.1.f l).bind λr=>M (q,r,ri.mk 0 0 0 0)
def je(g:cb) (h:ml) (k:ma) (e:List ia) (f:Int):q6 (Int×Int×Int) (Int×Int) (Int×Int):=λ(i,j,b)=>ite (b<a00 e) ((c! e b).bind λa=>(Bh g h a.n f).bind λc=>ite (¬c.2=0) (M (l? (0,c.2)))<|(Hc g h.ai c.1 k.u).bind λd=>ite (¬d.2.2.Code=0) (M (l? (0,d.2.2.Code)))<|M (i! (aa b! (i+(aa b! (d.1.N*(aa b! (a.To-a.n))))),aa b! (j+(aa b! (a.To-a.n))),aa b! (b+1))))<|M (i? (i,j))
def Mj(g:cb) (h:ml) (f:ma) (d:List ia) (e:Int):Option (Int×Int):=(ca (je g h f d e) (0,0,0)).bind λy=>match y with |.inr v=>M v |.inl (b,c)=>(vg b c f.aw).bind λa=>ite (¬a.2=0) (M (0,a.2))<|M (max a.1 0,0)
def A?(a:Int):Option Bool:=M a39
def B!(d e:Int):Option Bool:=b? ((A? d).bind λb=>ite b ((A? e).bind λc=>ite c (M (s6 (d<e)))<|M a38)<|M (s6 (d<e))) λa=>M a
def Wo(a:Int):Option Bool:=M a39
def De(e:List Int) (f:Int):q6 (Int×Int) Int Unit:=λ(c,d)=>ite (c<d) ((c! e (aa b! (Wae (aa .u64 (aa b! (c+d))) 2))).bind λa=>(B! a f).bind λb=>ite b (M (i! (aa b! ((aa b! (Wae (aa .u64 (aa b! (c+d))) 2))+1),d)))<|M (i! (c,aa b! (Wae (aa .u64 (aa b! (c+d))) 2))))<|M (i? c)
def qc(f:List Int) (g:Int):Option (Int×Bool):=(ca (De f g) (0,(a00 f:Int))).bind λy=>match y with |.inr _=>s5 |.inl b=>b? (ite (b<a00 f) ((c! f b).bind λa=>ite (¬a=g) ((Wo a).bind λd=>ite d ((Wo g).bind λe=>M e)<|M a39)<|M a38)<|M a39) λc=>M (b,c)
def Gu(i:ia) (g:List Int):q6 (Int×List ia×Int) (Int×List ia) Unit:=λ(h,c,a)=>b? (ite (a<a00 g) ((c! g a).bind λf=>M (s6 (f<i.To)))<|M a39) λe=>ite e ((c! g a).bind λd=>(app 16 c ([ia.mk h d])).bind λb=>M (i! (d,b,aa b! (a+1))))<|M (i? (h,c))
def tp(e:ia) (f:List Int):Option (List ia):=(qc f (aa b! (e.n+1))).bind λd=>(ca (Gu e f) (e.n,([]:List ia),d.1)).bind λy=>match y with |.inr _=>s5 |.inl (a,b)=>(app 16 b ([ia.mk a e.To])).bind λc=>M c
def Lf(g:List ia):q6 (List Int×Int) (List Int) Unit:=λ(e,f)=>ite (f<a00 g) (b? ((c! g f).bind λa=>(Jd a).bind λc=>ite c ((app 8 e ([a.n,a.To])).bind λd=>M d)<|M e) λb=>M (i! (b,aa b! (f+1))))<|M (i? e)
def ui(d:List ia):Option (List Int):=(ca (Lf d) (([]:List Int),0)).bind λy=>match y with |.inr _=>s5 |.inl a=>(ab a).bind λb=>(Ma b).bind λc=>M c
def Tf(h:List ka) (i:Int):q6 (List ia×Int) (List ia) Unit:=λ(f,g)=>ite (g<a00 h) (b? ((c! h g).bind λb=>b? (ite (b.ah<=i) ((eo b.ab).bind λd=>M d)<|M a39) λc=>ite c ((app 16 f ([b.ab])).bind λe=>M e)<|M f) λa=>M (i! (a,aa b! (g+1))))<|M (i? f)
def Sf(d:List Int):q6 (List Int×Int) (List Int) Unit:=λ(a,b)=>ite (b<a00 d) (b? ((c! d b).bind λc=>b? (ite (1<=c) (M (s6 (c<=109572)))<|M a39) λe=>ite e ((app 8 a ([c])).bind λg=>M g)<|M a) λf=>M (i! (f,aa b! (b+1))))<|M (i? a)
def Se(d:List ka) (e:Int):Option (List Int):=(ca (Tf d e) (([]:List ia),0)).bind λy=>match y with |.inr _=>s5 |.inl a=>(ui a).bind λc=>(ca (Sf c) (([]:List Int),0)).bind λy=>match y with |.inr _=>s5 |.inl b=>M b
def qd(b:Int):Option Bool:=b? (ite (¬b<1) (M (s6 (109572<b)))<|M a38) λa=>M a
def Yh(c:po):q6 (List ia×Int) (List ia) Unit:=λ(b,a)=>ite (a<a00 c.Rows) ((c! c.Rows a).bind λd=>(app 16 b ([d.ab])).bind λe=>M (i! (e,aa b! (a+1))))<|M (i? b)
def Qc(d:cb):q6 (List ia×Int) (List ia) Unit:=λ(e,c)=>ite (c<a00 d.Tables) ((c! d.Tables c).bind λb=>(ca (Yh b) (e,0)).bind λy=>match y with |.inr _=>s5 |.inl a=>M (i! (a,aa b! (c+1))))<|M (i? e)
def ah(c:ek):q6 (List ia×Int) (List ia) Unit:=λ(b,a)=>ite (a<a00 c.f) ((c! c.f a).bind λd=>(app 16 b ([d.ab])).bind λe=>M (i! (e,aa b! (a+1))))<|M (i? b)
def Pc(f:cb):q6 (List ia×Int) (List ia) Unit:=λ(b,a)=>ite (a<a00 f.e) ((c! f.e a).bind λd=>(ca (ah d) (b,0)).bind λy=>match y with |.inr _=>s5 |.inl c=>M (i! (c,aa b! (a+1))))<|M (i? b)
def Ge(d:List ia):q6 (List Int×Int) (List Int) Unit:=λ(a,b)=>ite (b<a00 d) (b? ((c! d b).bind λc=>(Jd c).bind λf=>ite f ((app 8 a ([c.n,c.To])).bind λg=>M g)<|M a) λe=>M (i! (e,aa b! (b+1))))<|M (i? a)
def Vh(a:List ia):Option (List Int):=(ca (Ge a) (([]:List Int),0)).bind λy=>match y with |.inr _=>s5 |.inl b=>(ab b).bind λc=>(Ma c).bind λd=>M d
def He(b:List Int):q6 Int Unit Int:=λa=>ite (a<a00 b) ((c! b a).bind λc=>(qd c).bind λd=>ite d (M (l? a))<|M (i! (aa b! (a+1))))<|M (i? ())
def nn(a:List Int):Option Int:=(ca (He a) 0).bind λy=>match y with |.inr v=>M v |.inl _=>M (-1)
def Ie  : (List Int×Int×Int)->Option (Ex (List Int×Int×Int) (List Int×Int) Unit):=λ(a,b,c)=>ite (c<a00 a) (b? ((c! a c).bind λd=>(qd d).bind λg=>ite (g=a39) ((c! a b).bind λi=>(put a b d).bind λh=>M (h,aa b! (b+1)))<|M (a,b)) λ(e,f)=>M (i! (e,f,aa b! (c+1))))<|M (i? (a,b))
def Xh(a:List Int):Option (List Int×List Int):=(nn a).bind λc=>ite (c=(-1)) (M (a,a))<|(ca Ie (a,c,aa b! (c+1))).bind λy=>match y with |.inr _=>s5 |.inl (d,b)=>(KG d b).bind λf=>(aQ3 d b f 0).bind λe=>(Jw e b).bind λg=>M (e,g)
def lh(e:cb):Option (List Int):=(ca (Qc e) (([]:List ia),0)).bind λy=>match y with |.inr _=>s5 |.inl a=>(ca (Pc e) (a,0)).bind λy=>match y with |.inr _=>s5 |.inl b=>(Vh b).bind λc=>(Xh c).bind λ(f,d)=>M d
def qi(c:(List (List Int))):q6 (Int×Int) Int Unit:=λ(a,b)=>ite (b<a00 c) ((c! c b).bind λd=>ite ((aa b! (a+(a00 d:Int)))<0) s5<|M (i! (aa b! (a+(a00 d:Int)),aa b! (b+1))))<|M (i? a)
def ji(a:Int):Option (List Int):=ite (a<0) s5<|b? (ite (0<(aa b! (a-(aa b! (0-0))))) ((mka 8 0 (aa b! (a-(aa b! (0-0))))).bind λc=>(Jw c 0).bind λd=>M d)<|M ([]:List Int)) λb=>M b
def oi(e:(List (List Int))):q6 (List Int×Int) (List Int) Unit:=λ(b,a)=>ite (a<a00 e) ((c! e a).bind λc=>(app 8 b c).bind λd=>M (i! (d,aa b! (a+1))))<|M (i? b)
def ki(d:(List (List Int))):Option (List Int):=(ca (qi d) (0,0)).bind λy=>match y with |.inr _=>s5 |.inl a=>(ji a).bind λc=>(ca (oi d) (c,0)).bind λy=>match y with |.inr _=>s5 |.inl b=>M b
def jb(g:cb) (h:ml) (i:Int):Option (List Int):=(Se h.aa i).bind λd=>(lh g).bind λe=>(lst [d,e]).bind λf=>(ki f).bind λa=>(ab a).bind λb=>(Ma b).bind λc=>M c
def CE(h:cb) (i:ml) (j:ma) (a b:Int):Option ke:=(uv a).bind λc=>ite (¬c.2=0) (M (ke.mk a 0 3))<|(Zc h i j).bind λe=>ite (e=a39) (M (ke.mk a 0 1))<|(jb h i b).bind λf=>(tp c.1 f).bind λg=>(Mj h i j g b).bind λd=>M (ke.mk a d.1 d.2)
def Qz(a:List fr):Option cb:=M (cb.mk ([]) ([]) ([ek.mk (n? #[104,111,117,115,101]) (-1) ([mu.mk (n? #[97]) (ej.mk 3 0)]) ([mu.mk (n? #[100]) (ej.mk 3 0)]) ([kv.mk (n? #[98,97,115,101]) 0 (-1) 0 (ia.mk 0 109573) ([]) a (n? #[])])]))
def Bu(b:cb):Option Bool:=(Js b).bind λa=>M (a.Code==0)
def jg(b c d:Int):Option Bool:=b? (ite (¬b<c) (M (s6 (d<b)))<|M a38) λa=>M a
def HK(b:Int):Option Bool:=b? (ite (0<=b) (M (s6 (b<=109572)))<|M a39) λa=>M a
def dw(f:ve):q6 Int Unit Bool:=λa=>ite (a<a00 f.as) (b? ((c! f.as a).bind λd=>(HK d).bind λe=>ite e (ite (0<a) ((c! f.as (aa b! (a-1))).bind λc=>M (s6 (d<=c)))<|M a39)<|M a38) λb=>ite b (M (l? a39))<|M (i! (aa b! (a+1))))<|M (i? ())
def Av(b:ve):Option Bool:=b? (ite (¬b.a5<0) (ite (¬126<b.a5) (M (s6 (64<(a00 b.as:Int))))<|M a38)<|M a38) λa=>ite a (M a39)<|(ca (dw b) 0).bind λy=>match y with |.inr v=>M v |.inl _=>M a38
def Xb(p:cb) (q:Int) (o:ma):Option Int:=(Bu p).bind λl=>ite (l=a39) (M 1)<|b? (ite (¬q<0) (ite (¬(a00 p.e:Int)<=q) (ite (¬o.u<0) ((c! p.e q).bind λm=>M (s6 ((a00 m.d:Int)<=o.u)))<|M a38)<|M a38)<|M a38) λk=>ite k (M 6)<|(c! p.e q).bind λn=>(c! n.d o.u).bind λc=>ite (¬c.ao.a=3) (M 8)<|b? ((jg o.aw 0 5).bind λd=>ite (d=a39) ((Av o.au).bind λe=>M (!e))<|M a38) λa=>ite a (M 1)<|b? ((jg o.bc 1 28).bind λf=>ite (f=a39) ((jg o.bb 0 1000000).bind λg=>ite (g=a39) ((jg o.a6 0 1000000000000000).bind λh=>ite (h=a39) ((jg o.aj 0 3599).bind λi=>ite (i=a39) ((jg o.ba 0 365).bind λj=>M j)<|M a38)<|M a38)<|M a38)<|M a38) λb=>ite b (M 3)<|M 0
def On(a:ml):Option Bool:=M (s6 ((a00 a.aa:Int)<=40))
def Ff(d:cb) (f:Int):Option (List mu×Bool):=(c! d.e f).bind λa=>b? (ite (¬a.ac<0) (M (s6 ((a00 d.e:Int)<=a.ac)))<|M a38) λb=>ite b (M ([],a39))<|(c! d.e a.ac).bind λc=>M (c.w,a38)
def Wk(c:ia):Option Bool:=b? ((Xf c).bind λb=>ite b (M (s6 (c.n<c.To)))<|M a39) λa=>M a
def Ls(d:List ka) (e:Int) (c:ka):q6 Int Unit Int:=λa=>ite (a<e) ((c! d a).bind λb=>ite (b.Id=c.Id) (M (l? 7))<|M (i! (aa b! (a+1))))<|M (i? ())
def Ry(f:List ka) (g:Int):Option Int:=(c! f g).bind λa=>b? (ite (¬a.Id<0) (ite (¬a.ar<(-1)) (ite (¬7<a.ar) (ite (¬a.ap<(-1)) (ite (¬11<a.ap) (ite (a.ar=(-1)) (ite (¬a.ap=(-1)) ((Wk a.ab).bind λe=>ite e (ite (¬a.ah<0) (M (s6 (109572<a.ah)))<|M a38)<|M a38)<|M a38)<|(Wk a.ab).bind λd=>ite d (ite (¬a.ah<0) (M (s6 (109572<a.ah)))<|M a38)<|M a38)<|M a38)<|M a38)<|M a38)<|M a38)<|M a38) λb=>ite b (M 3)<|b? (ite (¬a.Value.a<1) (ite (¬6<a.Value.a) (ite (a.ap=(-1)) (M (a.Value.a !=1))<|M a39)<|M a38)<|M a38) λc=>ite c (M 8)<|(ca (Ls f g a) 0).bind λy=>match y with |.inr v=>M v |.inl _=>M 0
def Om(c:List ka):q6 Int Unit (Int×Int):=λb=>ite (b<a00 c) ((Ry c b).bind λa=>ite (¬a=0) (M (l? (b,a)))<|M (i! (aa b! (b+1))))<|M (i? ())
def Ks(a:List ka):Option (Int×Int):=ite (128<(a00 a:Int)) (M (0,4))<|(ca (Om a) 0).bind λy=>match y with |.inr v=>M v |.inl _=>M (0,0)
def rA(b:bz):Option ej:=M (ej.mk b.a b.g)
def Fq(k:cb) (l:ml) (j:ka):Option Int:=ite (l.s<=j.ar) (M 6)<|(c! k.e l.ai).bind λh=>b? (ite (0<=j.ar) ((Ff k l.ai).bind λi=>M i.1)<|M h.w) λf=>b? (ite (¬j.ap=(-1)) (b? (ite (¬j.ap<0) (M (s6 ((a00 f:Int)<=j.ap)))<|M a38) λg=>ite g (M (Sum.inr 6))<|(c! f j.ap).bind λc=>M (Sum.inl (c.ao.a,c.ao.g)))<|M (Sum.inl (1,0))) λz=>match z with |.inr v=>M v |.inl (a,b)=>(rA j.Value).bind λd=>ite (¬(d.a=a/\d.g=b)) (M 8)<|(ew j.Value.N (ej.mk a b) k.r).bind λe=>ite (e=a39) (M 3)<|M 0
def Rm(e:cb) (d:ml):q6 Int Unit (Int×Int):=λa=>ite (a<a00 d.aa) ((c! d.aa a).bind λc=>(Fq e d c).bind λb=>ite (¬b=0) (M (l? (a,b)))<|M (i! (aa b! (a+1))))<|M (i? ())
def Ms(g:cb) (f:ml):Option (Int×Int):=b? (ite (¬f.ai<0) (M (s6 ((a00 g.e:Int)<=f.ai)))<|M a38) λb=>ite b (M (-1,6))<|(Ff g f.ai).bind λd=>b? (ite (¬f.Id<0) (ite (¬f.s<0) (ite (¬8<f.s) (ite (¬f.s=0) (M (!d.2))<|M a39)<|M a38)<|M a38)<|M a38) λc=>ite c (M (-1,3))<|(Ks f.aa).bind λa=>ite (¬a.2=0) (M (a.1,a.2))<|(ca (Rm g f) 0).bind λy=>match y with |.inr v=>M v |.inl _=>M (0,0)
def np(d:cb) (e:ml) (f:ma):Option Bool:=(Ms d e).bind λb=>b? ((Xb d e.ai f).bind λc=>ite (c=0) (M (b.2==0))<|M a39) λa=>M a
def Bv(b:Int):Option Bool:=b? (ite (0<=b) (M (s6 (b<=3599)))<|M a39) λa=>M a
def Wu(c:Int):Option Int:=(Bv c).bind λa=>ite (a=a39) (M 0)<|(Kc (aa b! (1900+(aa b! (s? c 12)))) (aa b! ((v? c 12)+1))).bind λb=>M b
def Ly(d:Int):Option (ia×Int):=(Bv d).bind λb=>ite (b=a39) (M (ia.mk 0 0,3))<|(fg (aa b! (1900+(aa b! (s? d 12)))) (aa b! ((v? d 12)+1)) 1).bind λa=>(Wu d).bind λc=>M (ia.mk a.1 (aa b! (a.1+c)),0)
def Um(c:List Int) (d:Int):q6 Int Unit Bool:=λb=>ite (b<a00 c) ((c! c b).bind λa=>ite (a=d) (M (l? a38))<|M (i! (aa b! (b+1))))<|M (i? ())
def Po(a:List Int) (b:Int):Option Bool:=(ca (Um a b) 0).bind λy=>match y with |.inr v=>M v |.inl _=>M a39
def Nu(j:ia) (k l:List Int):q6 (List ia×Int×Int) (List ia×Int) Unit:=λ(h,i,a)=>ite (a<j.To) (b? (b? ((Po k a).bind λf=>ite (f=a39) ((Po l a).bind λg=>M g)<|M a38) λe=>ite e ((app 16 h ([ia.mk i a])).bind λd=>M (d,a))<|M (h,i)) λ(b,c)=>M (i! (b,c,aa b! (a+1))))<|M (i? (h,i))
def Bw(d:ia) (e f:List Int):Option (List ia):=(ca (Nu d e f) (([]:List ia),d.n,aa b! (d.n+1))).bind λy=>match y with |.inr _=>s5 |.inl (a,b)=>(app 16 a ([ia.mk b d.To])).bind λc=>M c
def iy(k:List ka) (l m f g:Int):q6 (Int×Int) Int Unit:=λ(i,j)=>ite (j<a00 k) (b? ((c! k j).bind λb=>b? (ite (b.ar=l) (ite (b.ap=m) (ite (¬g<b.ah) ((yg b.ab f).bind λh=>M (!h))<|M a38)<|M a38)<|M a38) λe=>ite e (M i)<|b? (ite (¬i<0) ((c! k i).bind λa=>ite (¬a.ah<b.ah) (ite (b.ah=a.ah) (M (s6 (a.Id<b.Id)))<|M a39)<|M a38)<|M a38) λc=>ite c (M j)<|M i) λd=>M (i! (d,aa b! (j+1))))<|M (i? i)
def Yu(e:List ka) (f g c d:Int):Option (bz×Bool):=(ca (iy e f g c d) (-1,0)).bind λy=>match y with |.inr _=>s5 |.inl a=>ite (a<0) (M (bz.mk 0 0 0,a39))<|(c! e a).bind λb=>M (b.Value,a38)
def Tl(g:ml) (h:Int) (i:List mu) (b c:Int):q6 (List bz×Int) (List bz) (List bz×Bool):=λ(f,e)=>ite (e<a00 i) ((Yu g.aa h e b c).bind λa=>ite (a.2=a39) (M (l? ([],a39)))<|(app 24 f ([a.1])).bind λd=>M (i! (d,aa b! (e+1))))<|M (i? f)
def Qp(d:ml) (e:Int) (f:List mu) (b c:Int):Option (List bz×Bool):=(ca (Tl d e f b c) (([]:List bz),0)).bind λy=>match y with |.inr v=>M v |.inl a=>M (a,a38)
def Xk(h:ml) (i j:Int):q6 (List Int×Int) (List Int) Unit:=λ(g,f)=>b? (ite (f<h.s) (M (s6 (f<8)))<|M a39) λd=>ite d (b? ((Yu h.aa f (-1) i j).bind λc=>b? (ite c.2 (ite (c.1.a=1) (M (c.1.N==1))<|M a39)<|M a39) λe=>ite e ((app 8 g ([f])).bind λb=>M b)<|M g) λa=>M (i! (a,aa b! (f+1))))<|M (i? g)
def Dq(b:ml) (c d:Int):Option (List Int):=(ca (Xk b c d) (([]:List Int),0)).bind λy=>match y with |.inr _=>s5 |.inl a=>M a
def Qm(i:ml) (j g:Int) (h:(List mu×Bool)) (f:List Int):q6 ((List (List bz))×Int) (List (List bz)) (se×Int):=λ(e,a)=>ite (a<a00 f) ((c! f a).bind λc=>(Qp i c h.1 j g).bind λb=>ite (b.2=a39) (M (l? (se.mk 0 ([]) ([]),6)))<|(app 24 e ([b.1])).bind λd=>M (i! (d,aa b! (a+1))))<|M (i? e)
def cj(j:cb) (i:ml) (h b:Int):Option (se×Int):=b? (ite (¬h<0) (M (s6 (109572<h)))<|M a38) λd=>ite d (M (se.mk 0 ([]) ([]),3))<|(c! j.e i.ai).bind λe=>(Qp i (-1) e.w h b).bind λc=>ite (c.2=a39) (M (se.mk 0 ([]) ([]),6))<|(Ff j i.ai).bind λf=>(Dq i h b).bind λg=>(ca (Qm i h b f g) (([]:List (List bz)),0)).bind λy=>match y with |.inr v=>M v |.inl a=>M (se.mk h c.1 a,0)
def Ve(d:cb) (f:Int):Option ek:=(c! d.e f).bind λa=>b? (ite (¬a.ac<0) (M (s6 ((a00 d.e:Int)<=a.ac)))<|M a38) λb=>ite b (M (ek.mk (n? #[]) 0 ([]) ([]) ([])))<|(c! d.e a.ac).bind λc=>M c
def xw(c:List Int) (d:Int):q6 Int Unit Bool:=λb=>ite (b<a00 c) ((c! c b).bind λa=>ite (a=d) (M (l? a38))<|M (i! (aa b! (b+1))))<|M (i? ())
def Dv(a:List Int) (b:Int):Option Bool:=(ca (xw a b) 0).bind λy=>match y with |.inr v=>M v |.inl _=>M a39
def Is(e a:List Int):q6 Int Unit Bool:=λd=>ite (d<a00 a) ((c! a d).bind λb=>(Dv e b).bind λc=>ite (c=a39) (M (l? a39))<|M (i! (aa b! (d+1))))<|M (i? ())
def Qy(b:ek) (c:Int) (d:List Int):Option Bool:=(Np b c).bind λa=>(ca (Is d a) 0).bind λy=>match y with |.inr v=>M v |.inl _=>M a38
def vd(e:ek) (f:List Int):q6 Int Int Unit:=λa=>b? (ite (a<a00 e.d) ((Dv f a).bind λc=>ite (c=a39) ((Qy e a f).bind λd=>M (!d))<|M a38)<|M a39) λb=>ite b (M (i! (aa b! (a+1))))<|M (i? a)
def xd(e:ek):q6 (List Int) (List Int) (List Int×Int):=λc=>if(a00 c:Int)<a00 e.d then(ca (vd e c) 0).bind λy=>match y with |.inr _=>s5 |.inl a=>ite (a=a00 e.d) (M (l? ([],9)))<|(app 8 c ([a])).bind λb=>M (i! b)else M (i? c)
def rh(b:ek):Option (List Int×Int):=(ca (xd b) ([]:List Int)).bind λy=>match y with |.inr v=>M v |.inl a=>M (a,0)
def Mu(k:ek) (l:ic) (m h:Int) (e:(List Int×List Int×List Int)):q6 (List Bool×Int) (List Bool) (Int×ri):=λ(j,b)=>ite (b<a00 e.1) (b? ((c! e.1 b).bind λf=>(c! k.f f).bind λg=>if(a00 g.ak:Int)=0 then(app 1 j ([a38])).bind λi=>M (Sum.inl i)else(Lx g.ak l).bind λd=>ite (¬d.2=0) (M (Sum.inr (l? (0,ri.mk d.2 m h f))))<|(app 1 j ([d.1.N==1])).bind λc=>M (Sum.inl c)) λz=>match z with |.inr v=>M v |.inl a=>M (i! (a,aa b! (b+1))))<|M (i? j)
def Aw(f:ek) (g:ic) (h e:Int):Option (Int×ri):=(tw f e g.z).bind λb=>(ca (Mu f g h e b) (([]:List Bool),0)).bind λy=>match y with |.inr v=>M v |.inl c=>(pw b.2.1 b.2.2 c).bind λa=>ite (a<0) (M (a,ri.mk 0 0 0 0))<|(c! b.1 a).bind λd=>M (d,ri.mk 0 0 0 0)
def Nz(g:ek) (h:ic) (e b:Int):Option (bz×Int×ri):=(Aw g h e b).bind λa=>ite (¬a.2.Code=0) (M (bz.mk 0 0 0,0,a.2))<|ite (a.1=(-1)) (M (bz.mk 0 0 0,0,ri.mk 10 e b (-1)))<|ite (a.1=(-2)) (M (bz.mk 0 0 0,0,ri.mk 11 e b (-1)))<|(c! g.f a.1).bind λd=>(Lx d.Value h).bind λc=>ite (¬c.2=0) (M (bz.mk 0 0 0,0,ri.mk c.2 e b a.1))<|M (c.1,a.1,ri.mk 0 0 0 0)
def lr(n:ek) (m:ic) (o:Int) (k:List Bool) (j:(List Int×Int)):q6 (List bz×List Int×Int) (List bz×List Int) (List bz×List Int×ri):=λ(c,d,g)=>ite (g<a00 j.1) (b? ((c! j.1 g).bind λb=>(c! k b).bind λl=>ite (l=a39) (M (Sum.inl (c,d)))<|(Nz n (ic.mk m.z m.w c m.s m.av m.Tables) o b).bind λa=>ite (¬a.2.2.Code=0) (M (Sum.inr (l? ([],[],a.2.2))))<|(c! c b).bind λp=>(put c b a.1).bind λh=>(c! d b).bind λq=>(put d b a.2.1).bind λi=>M (Sum.inl (h,i))) λz=>match z with |.inr v=>M v |.inl (e,f)=>M (i! (e,f,aa b! (g+1))))<|M (i? (c,d))
def Vk(g:ek) (h:ic) (i:Int) (c:List Bool):Option (List bz×List Int×ri):=(kD 24 (bz.mk 0 0 0) (a00 g.d:Int) (a00 g.d:Int)).bind λd=>(kD 8 0 (a00 g.d:Int) (a00 g.d:Int)).bind λe=>(rh g).bind λf=>(ca (lr g h i c f) (d,e,0)).bind λy=>match y with |.inr v=>M v |.inl (a,b)=>M (a,b,ri.mk 0 0 0 0)
def Lu(c:cb) (b:se) (d:Int):Option ic:=(c! b.s d).bind λa=>M (ic.mk b.z a ([]) ([]) ([]) c.Tables)
def ei(k:cb) (i:se) (e:List Bool) (f:ek):q6 ((List (List bz))×(List (List Int))×Int) ((List (List bz))×(List (List Int))) ((List (List bz))×(List (List Int))×ri):=λ(j,d,a)=>ite (a<a00 i.s) ((Lu k i a).bind λg=>(Vk f g a e).bind λb=>ite (¬b.2.2.Code=0) (M (l? ([],[],b.2.2)))<|(app 24 j ([b.1])).bind λh=>(app 24 d ([b.2.1])).bind λc=>M (i! (h,c,aa b! (a+1))))<|M (i? (j,d))
def Jl(e:cb) (f:Int) (g:se) (c:List Bool):Option ((List (List bz))×(List (List Int))×ri):=(Ve e f).bind λd=>(ca (ei e g c d) (([]:List (List bz)),([]:List (List Int)),0)).bind λy=>match y with |.inr v=>M v |.inl (a,b)=>M (a,b,ri.mk 0 0 0 0)
def Mz(b:ek):q6 (List ej×Int) (List ej) Unit:=λ(e,a)=>ite (a<a00 b.d) ((c! b.d a).bind λc=>(app 16 e ([c.ao])).bind λd=>M (i! (d,aa b! (a+1))))<|M (i? e)
def jG(d:cb) (f:Int) (e:se) (b:(List (List bz))):Option ic:=(Ve d f).bind λc=>(ca (Mz c) (([]:List ej),0)).bind λy=>match y with |.inr _=>s5 |.inl a=>M (ic.mk e.z e.w ([]) b a d.Tables)
def Im(c:(List Int×List Int×List Int)):q6 (List Int×Int) (List Int) Unit:=λ(b,a)=>ite (a<a00 c.2.2) ((c! c.2.2 a).bind λd=>(Ag b d).bind λe=>M (i! (e,aa b! (a+1))))<|M (i? b)
def Hm(c:(List Int×List Int×List Int)):q6 (List Int×Int) (List Int) Unit:=λ(b,a)=>ite (a<a00 c.2.2) ((c! c.2.2 a).bind λd=>(Ag b d).bind λe=>M (i! (e,aa b! (a+1))))<|M (i? b)
def Gi(k:ek) (i:List Int):q6 (List Int×Int) (List Int) Unit:=λ(d,e)=>ite (e<a00 k.f) (b? ((c! k.f e).bind λh=>(Dv i h.u).bind λj=>ite (j=a39) (M d)<|(Yf h.ak).bind λf=>(Yf h.Value).bind λg=>(ca (Im f) (d,0)).bind λy=>match y with |.inr _=>s5 |.inl a=>(ca (Hm g) (a,0)).bind λy=>match y with |.inr _=>s5 |.inl b=>M b) λc=>M (i! (c,aa b! (e+1))))<|M (i? d)
def Jo(e:ek) (f:Int):Option (List Int):=(Py e f).bind λb=>ite (b=a39) (M ([]))<|(Zf e f).bind λc=>(Ag c f).bind λd=>(ca (Gi e d) (([]:List Int),0)).bind λy=>match y with |.inr _=>s5 |.inl a=>M a
def Il(d:List Int):q6 (List Bool×Int) (List Bool) Unit:=λ(a,b)=>ite (b<a00 d) ((c! d b).bind λe=>(c! a e).bind λf=>(put a e a38).bind λc=>M (i! (c,aa b! (b+1))))<|M (i? a)
def Hl(b:Int) (d:ek) (c:List Bool):Option (List Bool):=(c! c b).bind λg=>(put c b a38).bind λe=>(Zf d b).bind λf=>(ca (Il f) (e,0)).bind λy=>match y with |.inr _=>s5 |.inl a=>M a
def Qj(c:List Int):q6 (List Bool×Int) (List Bool) Unit:=λ(a,b)=>ite (b<a00 c) ((c! c b).bind λd=>(c! a d).bind λf=>(put a d a38).bind λe=>M (i! (e,aa b! (b+1))))<|M (i? a)
def Bg(b:List Bool) (d:ek) (a:Int):Option (List Bool):=(c! b a).bind λg=>(put b a a38).bind λe=>(Zf d a).bind λf=>(ca (Qj f) (e,0)).bind λy=>match y with |.inr _=>s5 |.inl c=>M c
def Rj(g:cb) (h:Int) (c:List Int):q6 (List Bool×Int) (List Bool) Unit:=λ(b,a)=>ite (a<a00 c) ((Ve g h).bind λe=>(c! c a).bind λf=>(Bg b e f).bind λd=>M (i! (d,aa b! (a+1))))<|M (i? b)
def Pj(f:cb) (g d:Int) (e:ek) (b:List Bool):Option (List Bool):=(Jo e d).bind λc=>(ca (Rj f g c) (b,0)).bind λy=>match y with |.inr _=>s5 |.inl a=>M a
def Nh(m:cb) (n:Int) (o:se) (e:Int):Option (bz×Int×ri):=(c! m.e n).bind λc=>(kD 1 a39 (a00 c.d:Int) (a00 c.d:Int)).bind λl=>(Hl e c l).bind λf=>(Ve m n).bind λd=>(kD 1 a39 (a00 d.d:Int) (a00 d.d:Int)).bind λh=>(Pj m n e c h).bind λg=>(Jl m n o g).bind λb=>ite (¬b.2.2.Code=0) (M (bz.mk 0 0 0,0,b.2.2))<|(jG m n o b.1).bind λi=>(Vk c i (-1) f).bind λa=>ite (¬a.2.2.Code=0) (M (bz.mk 0 0 0,0,a.2.2))<|(c! a.1 e).bind λj=>(c! a.2.1 e).bind λk=>M (j,k,ri.mk 0 0 0 0)
def Re(i:cb) (j:ml) (k:ma) (f h:Int) (g:List ia):q6 (Int×Int) Int ke:=λ(e,a)=>ite (a<a00 g) ((c! g a).bind λb=>(cj i j b.n h).bind λc=>ite (¬c.2=0) (M (l? (ke.mk f 0 c.2)))<|(Nh i j.ai c.1 k.u).bind λd=>ite (¬d.2.2.Code=0) (M (l? (ke.mk f 0 d.2.2.Code)))<|M (i! (aa b! (e+(aa b! (d.1.N*(aa b! (b.To-b.n))))),aa b! (a+1))))<|M (i? e)
def ck(l:cb) (m:ml) (k:ma) (b f:Int) (g h:List Int):Option ke:=(Ly b).bind λi=>(Bw i.1 g h).bind λj=>(ca (Re l m k b f j) (0,0)).bind λy=>match y with |.inr v=>M v |.inl c=>(Wu b).bind λe=>(Hk c e k.aw).bind λa=>b? (ite (a.1<0) (M 0)<|M a.1) λd=>M (ke.mk b d 0)
def Cq(j:List Int) (l:Int):q6 (List Int×Bool×Int) (List Int×Bool) Unit:=λ(k,m,a)=>ite (a<a00 j) (b? (b? (ite (m=a39) ((c! j a).bind λh=>M (s6 (l<=h)))<|M a39) λg=>ite g ((c! j a).bind λi=>ite (l<i) ((app 8 k ([l])).bind λd=>M (d,a38))<|M (k,a38))<|M (k,m)) λ(b,c)=>(c! j a).bind λe=>(app 8 b ([e])).bind λf=>M (i! (f,c,aa b! (a+1))))<|M (i? (k,m))
def Pm(f:List Int) (e:Int):Option (List Int):=(ca (Cq f e) ([],a39,0)).bind λy=>match y with |.inr _=>s5 |.inl (a,b)=>b? (ite (b=a39) ((app 8 a ([e])).bind λd=>M d)<|M a) λc=>M c
def Ni(k:List ka) (m:Int):q6 (List Int×Int) (List Int) Unit:=λ(l,j)=>ite (j<a00 k) (b? (b? ((c! k j).bind λf=>ite (¬m<f.ah) ((Wk f.ab).bind λi=>M (!i))<|M a38) λh=>ite h (M l)<|b? ((c! k j).bind λg=>ite (1<=g.ab.n) ((Pm l g.ab.n).bind λd=>M d)<|M l) λa=>(c! k j).bind λb=>ite (b.ab.To<=109572) ((Pm a b.ab.To).bind λe=>M e)<|M a) λc=>M (i! (c,aa b! (j+1))))<|M (i? l)
def We(b:List ka) (c:Int):Option (List Int):=(ca (Ni b c) ([],0)).bind λy=>match y with |.inr _=>s5 |.inl a=>M a
def uq(g:List Int):q6 (List Int×Int) (List Int) Unit:=λ(h,f)=>ite (f<a00 g) (b? (b? ((c! g f).bind λb=>ite (1<=b) (M (s6 (b<=109572)))<|M a39) λc=>ite c ((c! g f).bind λd=>(app 8 h ([d])).bind λe=>M e)<|M h) λa=>M (i! (a,aa b! (f+1))))<|M (i? h)
def mw(b:List Int):Option (List Int):=(ca (uq b) (([]:List Int),0)).bind λy=>match y with |.inr _=>s5 |.inl a=>M a
def Zr(c:ia):Option Bool:=b? ((Xf c).bind λb=>ite b (M (s6 (c.n<c.To)))<|M a39) λa=>M a
def Dj(h:List ia):q6 (List Int×Int) (List Int) Unit:=λ(f,g)=>ite (g<a00 h) (b? ((c! h g).bind λa=>(Zr a).bind λc=>ite c ((Gt f a.n).bind λd=>(Gt d a.To).bind λe=>M e)<|M f) λb=>M (i! (b,aa b! (g+1))))<|M (i? f)
def xo(b:List ia):Option (List Int):=(ca (Dj b) (([]:List Int),0)).bind λy=>match y with |.inr _=>s5 |.inl a=>M a
def Gm(f:cb) (g:Int):q6 (List ia×Int) (List ia) Unit:=λ(b,a)=>(c! f.Tables g).bind λc=>ite (a<a00 c.Rows) ((c! c.Rows a).bind λd=>(app 16 b ([d.ab])).bind λe=>M (i! (e,aa b! (a+1))))<|M (i? b)
def nf(c:cb):q6 (List ia×Int) (List ia) Unit:=λ(d,b)=>ite (b<a00 c.Tables) ((ca (Gm c b) (d,0)).bind λy=>match y with |.inr _=>s5 |.inl a=>M (i! (a,aa b! (b+1))))<|M (i? d)
def Gl(g:cb) (d:Int):q6 (List ia×Int) (List ia) Unit:=λ(b,a)=>(c! g.e d).bind λc=>ite (a<a00 c.f) ((c! c.f a).bind λe=>(app 16 b ([e.ab])).bind λf=>M (i! (f,aa b! (a+1))))<|M (i? b)
def mf(d:cb):q6 (List ia×Int) (List ia) Unit:=λ(b,a)=>ite (a<a00 d.e) ((ca (Gl d a) (b,0)).bind λy=>match y with |.inr _=>s5 |.inl c=>M (i! (c,aa b! (a+1))))<|M (i? b)
def Ue(e:cb):Option (List Int):=(ca (nf e) (([]:List ia),0)).bind λy=>match y with |.inr _=>s5 |.inl a=>(ca (mf e) (a,0)).bind λy=>match y with |.inr _=>s5 |.inl b=>(xo b).bind λc=>(mw c).bind λd=>M d
def vA(h:cb) (i:ml) (j:ma) (a b:Int):Option ke:=b? (ite (¬a<0) (M (s6 (3599<a)))<|M a38) λc=>ite c (M (ke.mk a 0 3))<|(np h i j).bind λd=>ite (d=a39) (M (ke.mk a 0 1))<|(We i.aa b).bind λe=>(Ue h).bind λf=>(ck h i j a b e f).bind λg=>M g
def xh(n:cb) (o:ml) (p:ma) (l m:Int) (f:List Int):q6 (List ke×Bool×Int) (List ke) Unit:=λ(b,c,a)=>ite (a<l) (b? ((uv a).bind λd=>ite (¬d.2=0) (M (c,0,3))<|ite c ((tp d.1 f).bind λj=>(Mj n o p j m).bind λe=>M (a38,e.1,e.2))<|M (a39,0,1)) λ(g,h,i)=>(app 24 b ([ke.mk a h i])).bind λk=>M (i! (k,g,aa b! (a+1))))<|M (i? b)
def ie(j:cb) (k:ml) (l:ma) (a b f:Int):Option (List ke):=b? (ite (¬a<0) (ite (¬b<a) (ite (¬3600<b) (M (s6 (120<(aa b! (b-a)))))<|M a38)<|M a38)<|M a38) λg=>ite g (M ([]))<|(kD 24 (ke.mk 0 0 0) 0 (aa b! (b-a))).bind λm=>(Zc j k l).bind λh=>b? (ite h ((jb j k f).bind λi=>M (a38,i))<|M (a39,([]:List Int))) λ(d,e)=>(ca (xh j k l b f e) (([]:List ke),d,a)).bind λy=>match y with |.inr _=>s5 |.inl c=>M c
def nr(c:na):Option Bool:=b? ((On c.ag).bind λb=>ite b (ite ((a00 c.al:Int)<=200) (M (s6 ((a00 c.an:Int)<=20)))<|M a39)<|M a39) λa=>M a
def zN(p:hO):Int:=ite (p.a=1) p.ae<|ite (p.a=2) (aa b! (-p.ae))<|ite (p.a=3) (aa b! (-p.ae)) 0
def ZO(m:Int) (l:List hO) (ks:List Int):Int:=ks.foldl (λs k=>(l.filter λp=>p.a==k).foldl (λs p=>ite (p.j==m) (aa b! (s+zN p)) s) s) 0
def Sg(a:List hO) (b:Int):Option Int:=ite (a00 a<=1099511627776) (M (ZO b a [1,2,3])) s5
def Uj(b:List hO) (c:Int):Option Int:=ite (a00 b<=1099511627776) (M ((b.filter λp=>p.a==4).foldl (λs p=>ite (p.j==c) (aa b! (s+p.ae)) s) 0)) s5
def υ(m:Int) (l:List hO):Int:=(l.filter λp=>p.a==4).foldl (λs p=>ite (p.j==m) (aa b! (s+p.ae)) s) 0
def Yt(l:List hO) (w:ke):ot:=ot.mk w.j (ite (w.Code=0) w.ae<|ZO w.j (l.filter λp=>p.j==w.j) [1,2,3]) (ZO w.j (l.filter λp=>p.j==w.j) [1,2,3]) (υ w.j (l.filter λp=>p.j==w.j))
def Ir(a:List ke) (b:List hO):Option (List ot):=ite (a00 a<=1048576/\b.length<=1048576/\(a.map λw=>w.j).Nodup) (M (a.map (Yt b))) s5
def Xe(e:List oe) (d:Int):q6 Int Unit (Int×Bool):=λc=>ite (0<=c) ((c! e c).bind λa=>b? (ite (a.ax=3) (ite (a.n<=d) (M (s6 (d<a.To)))<|M a39)<|M a39) λb=>ite b (M (l? (a.ae,a38)))<|M (i! (aa b! (c-1))))<|M (i? ())
def Ti(a:List oe) (b:Int):Option (Int×Bool):=(ca (Xe a b) (aa b! ((a00 a:Int)-1))).bind λy=>match y with |.inr v=>M v |.inl _=>M (0,a39)
def Vg(g:List ke) (i:List oe):q6 (List ke×Int) (List ke) Unit:=λ(h,f)=>ite (f<a00 g) ((c! g f).bind λa=>b? ((Ti i a.j).bind λb=>ite b.2 (M (b.1,0))<|M (a.ae,a.Code)) λ(c,d)=>(app 24 h ([ke.mk a.j c d])).bind λe=>M (i! (e,aa b! (f+1))))<|M (i? h)
def Sj(b:List ke) (c:List oe):Option (List ke):=(ca (Vg b c) (([]:List ke),0)).bind λy=>match y with |.inr _=>s5 |.inl a=>M a
def Za(i:cb) (g:ma) (h:na) (a d:Int):Option (List ot):=b? (ite (¬a<g.aj) (M (s6 (3599<a)))<|M a38) λc=>ite c (M ([]))<|(ie i h.ag g g.aj (aa b! (a+1)) d).bind λb=>ite ((a00 b:Int)=0) (M ([]))<|(Sj b h.an).bind λe=>(Ir e h.al).bind λf=>M f
def Yp(a:ot):Option Int:=M (max (aa b! (a.a8-a.a1)) 0)
def Pe(a:ot):Option Int:=M (max (aa b! ((aa b! (a.a1-a.a8))-a.a3)) 0)
def at6(f t:Int) (l:List hO) (ks:List Int):Int:=ks.foldl (λs k=>(l.filter λp=>p.a==k).foldl (λs p=>ite (f<=p.z/\p.z<t) (aa b! (s+zN p)) s) s) 0
def dF(b:List hO) (a:ia):Option Int:=ite (a00 b<=1099511627776/\0<=a.n/\a.n<=a.To/\a.To<=109573) (M (at6 a.n a.To b [1,2,3])) s5
def oo(d:List hO):q6 (List Int×Int) (List Int) Unit:=λ(e,c)=>ite (c<a00 d) ((c! d c).bind λa=>(app 8 e ([a.j])).bind λb=>M (i! (b,aa b! (c+1))))<|M (i? e)
def ku(d:List hO):Option (List Int):=(ca (oo d) (([]:List Int),0)).bind λy=>match y with |.inr _=>s5 |.inl b=>(ab b).bind λc=>(Ma c).bind λa=>M a
def Qn(b:Int):Option Bool:=b? (ite (0<=b) (M (s6 (b<=109572)))<|M a39) λa=>M a
def Ol(b:ma) (c:Int):Option Bool:=b? (ite (b.aj<=c) (M (s6 (c<=(min 3599 (aa b! ((aa b! (b.aj+120))-1))))))<|M a39) λa=>M a
def lu(b:hO):Option Int:=ite (b.a=1) (M b.ae)<|b? (ite (b.a=2) (M a38)<|M (b.a==3)) λa=>ite a (M (aa b! (-b.ae)))<|M 0
def Ek(l:List hO):q6 ((List (Int×Int))×Int) Unit (Int×Int):=λ(k,b)=>ite (b<a00 l) ((c! l b).bind λa=>b? (b? (ite (¬a.z<0) (M (s6 (109572<a.z)))<|M a38) λi=>ite i (M a38)<|b? (ite (¬a.j<0) (M (s6 (3599<a.j)))<|M a38) λd=>ite d (M a38)<|ite (¬a.ae<1) (M (s6 (1000000000000000<a.ae)))<|M a38) λe=>ite e (M (l? (b,3)))<|b? (ite (¬a.a<1) (M (s6 (4<a.a)))<|M a38) λf=>ite f (M (l? (b,1)))<|b? (ite (0<b) ((c! l (aa b! (b-1))).bind λh=>M (s6 (a.z<h.z)))<|M a39) λg=>ite g (M (l? (b,9)))<|(lu a).bind λc=>ite (((TG (NQ a.j (aa b! (((TG k a.j).getD 0)+c)) k) a.j).getD 0)<0) (M (l? (b,13)))<|M (i! (NQ a.j (aa b! (((TG k a.j).getD 0)+c)) k,aa b! (b+1))))<|M (i? ())
def jq(a:List hO):Option (Int×Int):=ite (4096<(a00 a:Int)) (M (4096,4))<|(ca (Ek a) (([]:List (Int×Int)),0)).bind λy=>match y with |.inr v=>M v |.inl _=>M (0,0)
def wh(b c:Int):Option Bool:=b? (ite (0<=b) (ite (b<c) (ite (c<=3600) (M (s6 ((aa b! (c-b))<=120)))<|M a39)<|M a39)<|M a39) λa=>M a
def Mv(f:oe):Option Bool:=b? (ite (¬f.Id<0) ((wh f.n f.To).bind λe=>M (!e))<|M a38) λc=>ite c (M a39)<|b? (ite (¬f.a0<0) (ite (¬f.a7<f.a0) (M (s6 (109572<f.a7)))<|M a38)<|M a38) λd=>ite d (M a39)<|b? (ite (¬f.ax<1) (M (s6 (6<f.ax)))<|M a38) λa=>ite a (M a39)<|b? (ite (0<=f.ae) (ite (f.ae<=1000000000000000) (ite (¬f.ae=0) (M (f.ax==3))<|M a38)<|M a39)<|M a39) λb=>M b
def cr(b:na):q6 Int Unit Bool:=λc=>ite (c<a00 b.ag.aa) ((c! b.ag.aa c).bind λa=>ite (b.z<a.ah) (M (l? a39))<|M (i! (aa b! (c+1))))<|M (i? ())
def br(c:na):q6 Int Unit Bool:=λa=>ite (a<a00 c.al) ((c! c.al a).bind λb=>ite (c.z<b.z) (M (l? a39))<|M (i! (aa b! (a+1))))<|M (i? ())
def Zq(c:na):q6 Int Unit Bool:=λa=>ite (a<a00 c.an) ((c! c.an a).bind λb=>ite (c.z<b.a0) (M (l? a39))<|M (i! (aa b! (a+1))))<|M (i? ())
def Hr(a:na):Option Bool:=(ca (cr a) 0).bind λy=>match y with |.inr v=>M v |.inl _=>(ca (br a) 0).bind λy=>match y with |.inr v=>M v |.inl _=>(ca (Zq a) 0).bind λy=>match y with |.inr v=>M v |.inl _=>M a38
def vj(i:ma) (h:na) (c:List Int):q6 Int Unit Int:=λb=>ite (b<a00 c) ((c! c b).bind λa=>b? (ite (¬a<i.aj) (M (s6 (h.aq<a)))<|M a38) λd=>ite d (M (l? 3))<|b? ((Sg h.al a).bind λf=>ite (¬1000000000000000<f) ((Uj h.al a).bind λg=>M (s6 (1000000000000000<g)))<|M a38) λe=>ite e (M (l? 3))<|M (i! (aa b! (b+1))))<|M (i? ())
def uj(e:na):q6 Int Unit Int:=λa=>ite (a<a00 e.an) ((c! e.an a).bind λb=>b? ((Mv b).bind λd=>ite d (M (b.Id !=a))<|M a38) λc=>ite c (M (l? 13))<|M (i! (aa b! (a+1))))<|M (i? ())
def Wj(k:cb) (j:ma) (i:na):Option Int:=(Ja k i.ag.ai j).bind λf=>ite (¬f=0) (M 1)<|(Zd k i.ag).bind λd=>ite (¬d.2=0) (M d.2)<|b? ((Qn i.z).bind λg=>ite g (if¬i.aq=(-1)then(Ol j i.aq).bind λh=>M (!h)else M a39)<|M a38) λe=>ite e (M 3)<|(jq i.al).bind λa=>ite (¬a.2=0) (M a.2)<|(ku i.al).bind λb=>(ca (vj j i b) 0).bind λy=>match y with |.inr v=>M v |.inl _=>ite (16<(a00 i.an:Int)) (M 4)<|(ca (uj i) 0).bind λy=>match y with |.inr v=>M v |.inl _=>(Hr i).bind λc=>ite (c=a39) (M 9)<|M 0
def Ba(a:List ka):Option (List ka):=ite (a00 a*72<=140737488355328) (M a) s5
def Yb(a:List ka):Option (List ka):=Ba a
def Oa(a:List hO):Option (List hO):=ite (a00 a<=1099511627776) (M a) s5
def sb(a:List hO):Option (List hO):=Oa a
def Sa(a:List oe):Option (List oe):=ite (a00 a<=1099511627776) (M a) s5
def Db(a:List oe):Option (List oe):=Sa a
def ag(i:cb) (j:ml) (k:ma) (c d:Int) (e f:List Int):q6 (List ke×Int) (List ke) Unit:=λ(b,a)=>ite (a<c) ((ck i j k a d e f).bind λg=>(app 24 b ([g])).bind λh=>M (i! (h,aa b! (a+1))))<|M (i? b)
def Oi(g:cb) (h:ml) (i:ma) (c d b:Int):Option (List ke):=(We h.aa b).bind λe=>(Ue g).bind λf=>(ca (ag g h i d b e f) (([]:List ke),c)).bind λy=>match y with |.inr _=>s5 |.inl a=>M a
def Yk(d:Int):q6 (List ke×Int) (List ke) Unit:=λ(c,a)=>ite (a<d) ((app 24 c ([ke.mk a 0 1])).bind λb=>M (i! (b,aa b! (a+1))))<|M (i? c)
def rj(h:cb) (i:ml) (j:ma) (a b e:Int):Option (List ke):=b? (ite (¬a<0) (ite (¬b<a) (ite (¬3600<b) (M (s6 (120<(aa b! (b-a)))))<|M a38)<|M a38)<|M a38) λd=>ite d (M ([]))<|(np h i j).bind λf=>ite f ((Oi h i j a b e).bind λg=>M g)<|(ca (Yk b) (([]:List ke),a)).bind λy=>match y with |.inr _=>s5 |.inl c=>M c
def Dw(b:hO):Option Int:=ite (b.a=1) (M b.ae)<|b? (ite (b.a=2) (M a38)<|M (b.a==3)) λa=>ite a (M (aa b! (0-b.ae)))<|M 0
def Vm(f:List hO) (g:Int):q6 (Int×Int) Int Unit:=λ(d,e)=>ite (e<a00 f) (b? ((c! f e).bind λa=>ite (a.j=g) ((Dw a).bind λc=>M (aa b! (d+c)))<|M d) λb=>M (i! (b,aa b! (e+1))))<|M (i? d)
def Ns(b:List hO) (c:Int):Option Int:=(ca (Vm b c) (0,0)).bind λy=>match y with |.inr _=>s5 |.inl a=>M a
def Gq(f:List hO) (h:Int):q6 (Int×Int) Int Unit:=λ(g,e)=>ite (e<a00 f) (b? (b? ((c! f e).bind λa=>ite (a.j=h) (M (a.a==4))<|M a39) λb=>ite b ((c! f e).bind λd=>M (aa b! (g+d.ae)))<|M g) λc=>M (i! (c,aa b! (e+1))))<|M (i? g)
def Cw(b:List hO) (c:Int):Option Int:=(ca (Gq b c) (0,0)).bind λy=>match y with |.inr _=>s5 |.inl a=>M a
def Sy(g:List ke) (h:List hO):q6 (List ot×Int) (List ot) Unit:=λ(i,f)=>ite (f<a00 g) ((c! g f).bind λa=>(Ns h a.j).bind λb=>(Cw h a.j).bind λd=>b? (ite (¬a.Code=0) (M b)<|M a.ae) λc=>(app 32 i ([ot.mk a.j c b d])).bind λe=>M (i! (e,aa b! (f+1))))<|M (i? i)
def BF(b:List ke) (c:List hO):Option (List ot):=(ca (Sy b c) ([],0)).bind λy=>match y with |.inr _=>s5 |.inl a=>M a
def Oz(b:oe) (c:Int):Option Bool:=b? (ite (b.n<=c) (M (s6 (c<b.To)))<|M a39) λa=>M a
def Nt(f:List oe) (g:Int):q6 Int Unit (Int×Bool):=λe=>ite (0<=e) (b? ((c! f e).bind λa=>ite (a.ax=3) ((Oz a g).bind λc=>M c)<|M a39) λb=>ite b ((c! f e).bind λd=>M (l? (d.ae,a38)))<|M (i! (aa b! (e-1))))<|M (i? ())
def Cu(a:List oe) (b:Int):Option (Int×Bool):=(ca (Nt a b) (aa b! ((a00 a:Int)-1))).bind λy=>match y with |.inr v=>M v |.inl _=>M (0,a39)
def Ew(h:List ke) (i:List oe):q6 (List ke×Int) (List ke) Unit:=λ(f,g)=>ite (g<a00 h) (b? ((c! h g).bind λa=>(Cu i a.j).bind λb=>ite b.2 ((app 24 f ([ke.mk a.j b.1 0])).bind λd=>M d)<|(app 24 f ([a])).bind λe=>M e) λc=>M (i! (c,aa b! (g+1))))<|M (i? f)
def Ty(b:List ke) (c:List oe):Option (List ke):=(ca (Ew b c) (([]:List ke),0)).bind λy=>match y with |.inr _=>s5 |.inl a=>M a
def Cg(i:cb) (g:ma) (h:na) (a d:Int):Option (List ot):=b? (ite (¬a<g.aj) (M (s6 (3599<a)))<|M a38) λc=>ite c (M ([]))<|(rj i h.ag g g.aj (aa b! (a+1)) d).bind λb=>ite ((a00 b:Int)=0) (M ([]))<|(Ty b h.an).bind λe=>(BF e h.al).bind λf=>M f
def Uo(e f:List hO):q6 Int Unit Bool:=λd=>b? (ite (d<a00 e) (M (s6 (d<a00 f)))<|M a39) λc=>ite c ((c! e d).bind λa=>(c! f d).bind λb=>ite (¬(a.z=b.z/\a.j=b.j/\a.a=b.a/\a.ae=b.ae)) (M (l? a39))<|M (i! (aa b! (d+1))))<|M (i? ())
def Du(a b:List hO):Option Bool:=ite (¬(a00 a:Int)=a00 b) (M a39)<|(ca (Uo a b) 0).bind λy=>match y with |.inr v=>M v |.inl _=>M a38
def aA(b:List ka):q6 (Int×Int) Int Unit:=λ(d,a)=>ite (a<a00 b) ((c! b a).bind λc=>M (i! (max d c.ah,aa b! (a+1))))<|M (i? d)
def Zo(c:ml):Option na:=(Ba c.aa).bind λa=>(ca (aA a) (0,0)).bind λy=>match y with |.inr _=>s5 |.inl b=>M (na.mk (ml.mk c.Id c.ai c.s a) ([]) ([]) b (-1))
def Fg(j:List oe):q6 (List Int×Int) (List Int) Unit:=λ(i,d)=>ite (d<a00 j) (b? ((c! j d).bind λa=>b? (ite (¬a.ax=1) (M (a.ax !=2))<|M a39) λh=>ite h (M i)<|ite ((max a.n 0)<(min a.To 3600)) ((c! i (max a.n 0)).bind λe=>(put i (max a.n 0) (aa b! (e+1))).bind λb=>(c! b (min a.To 3600)).bind λf=>(put b (min a.To 3600) (aa b! (f-1))).bind λg=>M g)<|M i) λc=>M (i! (c,aa b! (d+1))))<|M (i? i)
def Eg(e:List Int):q6 (List Int×Int×Int) (List Int) Unit:=λ(b,c,a)=>ite (a<3600) (b? ((c! e a).bind λd=>ite (0<(aa b! (c+d))) ((app 8 b ([a])).bind λh=>M (h,aa b! (c+d)))<|M (b,aa b! (c+d))) λ(f,g)=>M (i! (f,g,aa b! (a+1))))<|M (i? b)
def wc(d:List oe):Option (List Int):=(kD 8 0 3601 3601).bind λc=>(ca (Fg d) (c,0)).bind λy=>match y with |.inr _=>s5 |.inl a=>(ca (Eg a) (([]:List Int),0,0)).bind λy=>match y with |.inr _=>s5 |.inl b=>M b
def Gk(b:Int) (c:ma):Option Int:=ite (b<1) (M 0)<|(Uu b c.bb 0).bind λa=>ite (¬a.2=0) (M 0)<|M (max (min (aa b! (b-(max c.a6 0))) a.1) 0)
def uo(a:List Int):q6 ((List (Int×Bool))×Int) (List (Int×Bool)) Unit:=λ(d,c)=>ite (c<a00 a) ((c! a c).bind λb=>M (i! (NQ b a38 d,aa b! (c+1))))<|M (i? d)
def Mh(m:Int) (l:(List (Int×Bool))):q6 (Int×List hO×List ot) (Int×List hO) Unit:=λ(e,a,b)=>b? (ite (0<(a00 b:Int)) (M (s6 (0<e)))<|M a39) λf=>ite f (b? ((c! b 0).bind λc=>(Pe c).bind λd=>b? (ite (¬d<=0) (M ((TG l c.j).getD a39))<|M a38) λg=>ite g (M (e,a))<|(app 32 a ([hO.mk m c.j 2 (min d e)])).bind λj=>M (aa b! (e-(min d e)),j)) λ(h,i)=>(KG b 1).bind λk=>M (i! (h,i,k)))<|M (i? (e,a))
def Ix(f:List ot) (d:Int) (c:(List (Int×Bool))) (e:Int):Option (List hO×Int):=(ca (Mh d c) (e,([]:List hO),f)).bind λy=>match y with |.inr _=>s5 |.inl (a,b)=>M (b,a)
def Zx(f:List ot) (g:Int) (h:ma) (c:Int) (d:List Int):Option (List hO):=(ca (uo d) (([]:List (Int×Bool)),0)).bind λy=>match y with |.inr _=>s5 |.inl b=>(Gk g h).bind λe=>(Ix f c b e).bind λ(a,i)=>M a
def Vr(l:List ot) (m h:Int):q6 (List hO×Int×Int) (List hO×Int) Unit:=λ(i,k,c)=>ite (c<a00 l) (b? ((c! l c).bind λe=>(Yp e).bind λf=>b? (ite (¬m<e.j) (M (s6 (f<=0)))<|M a38) λg=>ite g (M (i,k))<|(app 32 i ([hO.mk h e.j 1 f])).bind λd=>M (d,aa b! (k+f))) λ(a,b)=>M (i! (a,b,aa b! (c+1))))<|M (i? (i,k))
def Gy(g:List ot) (h:Int) (i:ma) (e:Int) (f:List Int):Option (List hO):=(ca (Vr g h e) (([]:List hO),0,0)).bind λy=>match y with |.inr _=>s5 |.inl (a,b)=>(Zx g b i e f).bind λc=>(app 32 a c).bind λd=>M d
def Qx(b:Int):Option Bool:=b? (ite (0<=b) (M (s6 (b<=109572)))<|M a39) λa=>M a
def uD(b:Int):Option Int:=(yp b).bind λa=>ite (a=a39) (M (-1))<|M (v? b 7)
def ZB(d:ve) (e:Int):Option Bool:=(uD e).bind λa=>(bc8 d.a5 a).bind λb=>ite (¬(an0 b 1)=0) (M a39)<|(qc d.as e).bind λc=>M (!c.2)
def QF(e:ve):q6 (Int×Int) Unit (Int×Int):=λ(c,d)=>ite (c<=109572) (b? ((ZB e c).bind λb=>ite (b=a39) (M (Sum.inl d))<|ite ((aa b! (d-1))=0) (M (Sum.inr (l? (c,0))))<|M (Sum.inl (aa b! (d-1)))) λz=>match z with |.inr v=>M v |.inl a=>M (i! (aa b! (c+1),a)))<|M (i? ())
def GB(a:ve) (b c:Int):Option (Int×Int):=(ca (QF a) (b,c)).bind λy=>match y with |.inr v=>M v |.inl _=>M (0,6)
def KD(d:ve) (e:Int):Option (Int×Int):=(re d).bind λb=>ite (b=a39) (M (0,1))<|(ij e).bind λc=>ite (c=a39) (M (0,3))<|(GB d e 1).bind λa=>M (a.1,a.2)
def PF(g:ve) (h f:Int):Option (Int×Int):=(re g).bind λd=>ite (d=a39) (M (0,1))<|b? ((ij h).bind λe=>ite e (ite (¬f<0) (M (s6 (365<f)))<|M a38)<|M a38) λc=>ite c (M (0,3))<|ite (f=0) ((KD g h).bind λb=>M (b.1,b.2))<|(GB g (aa b! (h+1)) f).bind λa=>M (a.1,a.2)
def Nv(b:ve) (c d:Int):Option Int:=(PF b c d).bind λa=>ite (¬a.2=0) (M 109572)<|M a.1
def AE(n o p a f:Int) (b:ma):Option (oe×Int):=b? (ite (¬n<0) ((Qx a).bind λk=>ite k ((Qx f).bind λl=>ite l ((wh o p).bind λm=>M (!m))<|M a38)<|M a38)<|M a38) λj=>ite j (M (oe.mk 0 0 0 0 0 0 0,3))<|ite (a<f) (M (oe.mk 0 0 0 0 0 0 0,14))<|b? ((re b.au).bind λg=>ite g (ite (¬b.ba<0) (M (s6 (365<b.ba)))<|M a38)<|M a38) λc=>ite c (M (oe.mk 0 0 0 0 0 0 0,1))<|b? ((Nv b.au f b.ba).bind λh=>ite (h<a) (M (a,6))<|(Nv b.au a 60).bind λi=>M (i,1)) λ(d,e)=>M (oe.mk n o p a d e 0,0)
def Zw(d c:Int):Option Bool:=ite (d=1) (b? (ite (¬c=2) (ite (¬c=4) (M (c==5))<|M a38)<|M a38) λa=>M a)<|ite (d=2) (b? (ite (¬c=3) (ite (¬c=4) (M (c==5))<|M a38)<|M a38) λb=>M b)<|M a39
def Lv(e:oe) (f g b:Int):Option (oe×Int):=(Zw e.ax f).bind λd=>ite (d=a39) (M (oe.mk 0 0 0 0 0 0 0,13))<|ite (b<e.a0) (M (oe.mk 0 0 0 0 0 0 0,9))<|b? (ite (e.a7<b) (ite (¬f=2) (M (f==3))<|M a38)<|M a39) λc=>ite c (M (oe.mk 0 0 0 0 0 0 0,14))<|b? (ite (¬g<0) (ite (¬1000000000000000<g) (ite (¬g=0) (M (f !=3))<|M a39)<|M a38)<|M a38) λa=>ite a (M (oe.mk 0 0 0 0 0 0 0,3))<|M (oe.mk e.Id e.n e.To e.a0 e.a7 f g,0)
def uB(l:Int):q6 (Int×List hO×List ot) (Int×List hO) Unit:=λ(k,d,e)=>b? (ite (0<(a00 e:Int)) (M (s6 (0<k)))<|M a39) λj=>ite j (b? ((c! e 0).bind λi=>(Pe i).bind λh=>b? (ite (¬h<=0) (M a39)<|M a38) λa=>ite a (M (k,d))<|(app 32 d ([hO.mk l i.j 3 (min h k)])).bind λf=>M (aa b! (k-(min h k)),f)) λ(b,c)=>(KG e 1).bind λg=>M (i! (b,c,g)))<|M (i? (k,d))
def tB(c:List ot) (d e:Int):Option (List hO×Int):=(ca (uB e) (d,([]:List hO),c)).bind λy=>match y with |.inr _=>s5 |.inl (a,b)=>M (b,a)
def oA(d:List ot) (c e:Int):Option (List hO×Int):=ite (c<1) (M ([],0))<|(tB d c e).bind λ(a,b)=>M (a,b)
def Cd(d:List ot) (e:(ot->Option Bool)):q6 Int Unit Int:=λc=>ite (c<a00 d) ((c! d c).bind λa=>(e a).bind λb=>ite b (M (l? c))<|M (i! (aa b! (c+1))))<|M (i? ())
def Ya(a:List ot) (b:(ot->Option Bool)):Option Int:=(ca (Cd a b) 0).bind λy=>match y with |.inr v=>M v |.inl _=>M (-1)
def bh(a:ot) (b:vk):Option Bool:=M (a.j==b.j)
def Xs(d:na):Option (List ka×List hO×List oe):=(Yb d.ag.aa).bind λa=>(sb d.al).bind λb=>(Db d.an).bind λc=>M (a,b,c)
def kC(f:cb) (e:na) (b:vk) (d:List ka):Option (List ka×Int):=ite (¬b.a2.ah=b.z) (M (d,1))<|(app 72 d ([b.a2])).bind λa=>(Zd f (ml.mk e.ag.Id e.ag.ai e.ag.s a)).bind λc=>M (a,c.2)
def Ys(a b:List hO):Option (List hO×Int):=ite (4096<(aa b! ((a00 a:Int)+(a00 b:Int)))) (M (a,4))<|(app 32 a b).bind λc=>M (c,0)
def Xw(m:cb) (l:ma) (k:na) (b:vk) (j:List ka) (a:List hO) (c:List oe):Option (List hO×Int×Int):=(Ol l b.j).bind λf=>ite (f=a39) (M (a,k.aq,3))<|ite (b.j<k.aq) (M (a,k.aq,9))<|(Za m l (na.mk (ml.mk k.ag.Id k.ag.ai k.ag.s j) a c k.z k.aq) b.j b.z).bind λg=>(wc c).bind λh=>(Gy g b.j l b.z h).bind λi=>(Ys a i).bind λ(d,e)=>M (d,b.j,e)
def lC(e:ma) (c:vk) (a:List oe):Option (List oe×Int):=ite (16<=(a00 a:Int)) (M (a,4))<|(AE (a00 a:Int) c.j c.bi c.z c.bj e).bind λb=>ite (¬b.2=0) (M (a,b.2))<|(app 56 a ([b.1])).bind λd=>M (d,0)
def mC(b:vk) (a:List oe):Option (List oe×Int):=b? (ite (¬b.be<0) (M (s6 ((a00 a:Int)<=b.be)))<|M a38) λd=>ite d (M (a,6))<|(c! a b.be).bind λe=>(Lv e b.ax b.ae b.z).bind λc=>ite (¬c.2=0) (M (a,c.2))<|(put a b.be c.1).bind λf=>M (f,0)
def nC(a:List hO) (b:(List hO×Int)):Option (List hO×Int):=ite (4096<(aa b! ((a00 a:Int)+(a00 b.1:Int)))) (M (a,4))<|(app 32 a b.1).bind λc=>M (c,0)
def UA(k:cb) (l:ma) (j:na) (b:vk) (i:List ka) (a:List hO) (d:List oe):Option (List hO×Int):=b? (ite (¬b.ae<1) (M (s6 (1000000000000000<b.ae)))<|M a38) λg=>ite g (M (a,3))<|(Za k l (na.mk (ml.mk j.ag.Id j.ag.ai j.ag.s i) a d j.z j.aq) j.aq b.z).bind λh=>(oA h b.ae b.z).bind λc=>ite (0<c.2) (M (a,3))<|(nC a c).bind λ(e,f)=>M (e,f)
def VA(b:vk) (a:List hO):Option (List hO×Int):=ite (4096<(aa b! ((a00 a:Int)+1))) (M (a,4))<|(app 32 a ([hO.mk b.z b.j 4 b.ae])).bind λc=>M (c,0)
def WA(n:cb) (o:ma) (m:na) (b:vk) (l:List ka) (a:List hO) (f:List oe):Option (List hO×Int):=b? (ite (¬b.ae<1) (M (s6 (1000000000000000<b.ae)))<|M a38) λi=>ite i (M (a,3))<|(Za n o (na.mk (ml.mk m.ag.Id m.ag.ai m.ag.s l) a f m.z m.aq) m.aq b.z).bind λc=>(Ya c (λe=>bh e b)).bind λd=>ite (d<0) (M (a,6))<|(c! c d).bind λj=>(Pe j).bind λk=>ite (k<b.ae) (M (a,3))<|(VA b a).bind λ(g,h)=>M (g,h)
def Uh(A:cb) (B:ma) (y:na) (c:vk):Option (na×Int):=(Wj A B y).bind λw=>ite (¬w=0) (M (y,1))<|(Qn c.z).bind λx=>ite (x=a39) (M (y,3))<|ite (c.z<y.z) (M (y,9))<|(Xs y).bind λ(d,b,a)=>b? (ite (c.a=1) ((kC A y c d).bind λ(f,g)=>M (f,b,a,y.aq,g))<|ite (c.a=2) ((Xw A B y c d b a).bind λ(h,i,j)=>M (d,h,a,i,j))<|ite (c.a=3) ((lC B c a).bind λ(k,l)=>M (d,b,k,y.aq,l))<|ite (c.a=4) ((mC c a).bind λ(m,n)=>M (d,b,m,y.aq,n))<|ite (c.a=5) ((UA A B y c d b a).bind λ(o,p)=>M (d,o,a,y.aq,p))<|ite (c.a=6) ((WA A B y c d b a).bind λ(q,r)=>M (d,q,a,y.aq,r))<|M (d,b,a,y.aq,1)) λ(s,t,u,v,e)=>ite (¬e=0) (M (y,e))<|M (na.mk (ml.mk y.ag.Id y.ag.ai y.ag.s s) t u c.z v,0)
def Rr  : Option Bool:=(Qz ([fr.mk 7 0])).bind λb=>(Zo (ml.mk 0 0 0 ([ka.mk 0 (-1) 0 (bz.mk 3 0 500) (ia.mk 0 109573) 0]))).bind λc=>(Uh b (ma.mk 0 0 1 0 0 0 0 (ve.mk 0 ([]))) c (vk.mk 2 9 0 0 0 0 0 0 (ka.mk 0 0 0 (bz.mk 0 0 0) (ia.mk 0 0) 0))).bind λa=>(Uh b (ma.mk 0 0 1 0 0 0 0 (ve.mk 0 ([]))) c (vk.mk 0 9 0 0 0 0 0 0 (ka.mk 0 0 0 (bz.mk 0 0 0) (ia.mk 0 0) 0))).bind λe=>b? (ite (a.2=0) (ite (e.2=1) (ite (a.1.aq=0) ((Du a.1.al ([hO.mk 9 0 1 500])).bind λf=>M f)<|M a39)<|M a39)<|M a39) λd=>M d
def Ay(e:cb) (f:ma) (g:na):Option Bool:=b? ((Eu e).bind λb=>ite b ((Pt f).bind λc=>ite c ((nr g).bind λd=>M d)<|M a39)<|M a39) λa=>M a
def ep(c:ma) (b:Int):Option Bool:=b? (ite (¬b<c.aj) (ite (0<=b) (M (s6 ((aa b! (b-c.aj))<8)))<|M a39)<|M a38) λa=>M a
def uh(e f:List ot):q6 Int Unit Bool:=λd=>b? (ite (d<a00 e) (M (s6 (d<a00 f)))<|M a39) λc=>ite c ((c! e d).bind λa=>(c! f d).bind λb=>ite (¬(a.j=b.j/\a.a8=b.a8/\a.a1=b.a1/\a.a3=b.a3)) (M (l? a39))<|M (i! (aa b! (d+1))))<|M (i? ())
def Oh(a b:List ot):Option Bool:=ite (¬(a00 a:Int)=a00 b) (M a39)<|(ca (uh a b) 0).bind λy=>match y with |.inr v=>M v |.inl _=>M a38
def oh(l:cb) (k:ma) (m:na) (a:b9):Option Bool:=b? ((Ay l k m).bind λg=>ite g (ite (¬k.aj<0) ((ep k a.To).bind λh=>ite (h=a39) (M (s6 (a.To<=3599)))<|M a39)<|M a38)<|M a38) λf=>ite f ((Rr).bind λi=>M i)<|b? ((Za l k m a.To a.ah).bind λj=>(Cg l k m a.To a.ah).bind λc=>(Oh j c).bind λd=>ite d ((Rr).bind λe=>M e)<|M a39) λb=>M b
def ax5(d:na):Option na:=(Ba d.ag.aa).bind λa=>(Oa d.al).bind λb=>(Sa d.an).bind λc=>M (na.mk (ml.mk d.ag.Id d.ag.ai d.ag.s a) b c d.z d.aq)
end
end Go.Proofs.Dev
