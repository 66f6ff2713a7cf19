/-
  The functions as plain partial functions, and plain lemmas about them: no condition.
-/
import Derived.Lib.SlicesCompact
import Derived.Test.YtadinajclolmnaaGreatDoorPJ
open Bool renaming true->a29,false->a30
open Option renaming some->M,none->u4
open Decidable renaming decide->D1
open Go.Tm.Ex renaming go->n?,brk->o?,ret->v?
open Go.IntKind renaming i64->b!
open Go.Value renaming int->g!
open And renaming intro->ak
open ByteArray renaming mk->z?
open Eq renaming trans->P!
open Int renaming fdiv->oaj,tdiv->I',tmod->S!
open List renaming range->s?,length->a00
open Option renaming bind->e?
set_option linter.all false
def a10{p:Prop}(h:p:=by simp; omega):=h
def B!{p:Prop}(h:p:=by repeat (first|exact fa.Da _|refine fa.cons (k?.refl _) ?_|refine fa.cons (k?.wa _) ?_)):=h
def aaJ{p:Prop}(h:p:=by repeat (first|exact Oi|exact Qu|exact iw|exact Ru|refine Pu ?_)):=h
def aaK{p:Prop}(h:p:=by kernel_rfl):=h
def aaL{p:Prop}(h:p:=by simp only[zx, ze, Wo, eg, fg, re]; exact GG (by simp only[zq, ze])):=h
def aaN{p:Prop}(h:p:=by simp only[zx, ze, Fv, eg, fg, re]; exact i!.q [(M 0, 1, 0)] rfl s6 (by simp only[zq, ze])):=h
def aaO{p:Prop}(h:p:=by simp only[Kaf,U',w!,A?];omega):=h
def aaP{p:Prop}(h:p:=by simp[Iu]):=h
def aaQ{p:Prop}(h:p:=by simp;omega):=h
def aaR{p:Prop}(h:p:=by simp[ea,sa,Ba]):=h
def aaS{p:Prop}(h:p:=by simp only[A?];omega):=h
def aaT{p:Prop}(h:p:=by rw[Zb];omega):=h
def aaU{p:Prop}(h:p:=by simp only[zx, ze, eg, fg, re]; rw[Ev]; exact i!.q [(M 0, 0, 0)] rfl s6 (by simp only[zx, zq, ze])):=h
def aaV{p:Prop}(h:p:=by have:=h.hn;omega):=h
def aaW{p:Prop}(h:p:=by simp[Fr.l]):=h
namespace Go.Tm
def Wy:List Int->Int->List Int |[],n=>[n] |x::l,n=>if n<=x then(if n<x then n::x::l else x::l)else x::Wy l n
def ph(l:List Int):List Int:=l.foldl Wy []
inductive O? (g:List (List Int)):Int->Int->Prop
 |one {a b:Int} {l:List Int} (h:g[a.toNat]?=M l) (hb:b∈l):O? g a b
 |step {a b c:Int} {l:List Int} (h:O? g a b) (hl:g[b.toNat]?=M l) (hc:c∈l):O? g a c
open Classical in
noncomputable def lK(g:List (List Int)) (a:Int):List Int:=((s? g.length).map λ(k:Nat)=>(k:Int)).filter λb=>D1 (O? g a b)
@[irreducible] def Ww:Nat:=1000000
def HS(g:List (List Int)) (out:List Int) (d:Nat):Bool:=!out.contains (d:Int)&&(g.getD d []).all λe=>out.contains e
def Tw(g:List (List Int)):Nat->List Int->List Int×Int |0,out=>(out,0) |n+1,out=>match (s? g.length).find? (HS g out)with |some d=>Tw g n (out++[(d:Int)]) |none=>([],9)
def wx(g:List (List Int)):List Int×Int:=Tw g g.length []
end Go.Tm
set_option maxHeartbeats 1000000
set_option maxRecDepth 100000
namespace Go.Proofs.Dev
open Go Go.Tm
def mz(x:ByteArray):D:=.v (.string x)
instance:j! ByteArray mz:=⟨Gv mz.eq_1⟩
def av8:=p2 @mz.eq_1
def DX(x:List ByteArray):D:=.sl 1 (x.map mz)
instance:j! (List ByteArray) DX:=⟨Fr.s _⟩
def Y2:=p2 @DX.eq_1
structure pd where
 q:ByteArray
 w:(List ByteArray)
def An(x:pd):D:=.agg [.v (.string x.q),.sl 1 (x.w.map mz)]
instance:j! pd An:=⟨Gv An.eq_1⟩
def O2:=p2 @An.eq_1
def Dv(x:List pd):D:=.sl 2 (x.map An)
instance:j! (List pd) Dv:=⟨Fr.s _⟩
def PQ:=p2 @Dv.eq_1
def da(x:Int):D:=.v (g! b! x)
instance:j! Int da:=⟨Gv da.eq_1⟩
def av9:=p2 @da.eq_1
structure ek where
 a:Int
 s:Int
def mr(x:ek):D:=.agg [.v (g! b! x.a),.v (g! b! x.s)]
instance:j! ek mr:=⟨Gv mr.eq_1⟩
def U2:=p2 @mr.eq_1
structure js where
 r:Int
 To:Int
def nv(x:js):D:=.agg [.v (g! b! x.r),.v (g! b! x.To)]
instance:j! js nv:=⟨Gv nv.eq_1⟩
def UI:=p2 @nv.eq_1
structure b0 where
 ai:js
 Lo:Int
 Hi:Int
 N:Int
def lr(x:b0):D:=.agg [.v (g! b! x.ai.r),.v (g! b! x.ai.To),.v (g! b! x.Lo),.v (g! b! x.Hi),.v (g! b! x.N)]
instance:j! b0 lr:=⟨Gv lr.eq_1⟩
def saa:=p2 @lr.eq_1
def fA(x:List b0):D:=.sl 5 (x.map lr)
instance:j! (List b0) fA:=⟨Fr.s _⟩
def lV:=p2 @fA.eq_1
structure po where
 q:ByteArray
 ap:ek
 Value:ek
 Rows:(List b0)
def Jg(x:po):D:=.agg [.v (.string x.q),.v (g! b! x.ap.a),.v (g! b! x.ap.s),.v (g! b! x.Value.a),.v (g! b! x.Value.s),.sl 5 (x.Rows.map lr)]
instance:j! po Jg:=⟨Gv Jg.eq_1⟩
def cV:=p2 @Jg.eq_1
def bt(x:List po):D:=.sl 6 (x.map Jg)
instance:j! (List po) bt:=⟨Fr.s _⟩
def FO:=p2 @bt.eq_1
structure mu where
 q:ByteArray
 ao:ek
def Be(x:mu):D:=.agg [.v (.string x.q),.v (g! b! x.ao.a),.v (g! b! x.ao.s)]
instance:j! mu Be:=⟨Gv Be.eq_1⟩
def ZU:=p2 @Be.eq_1
def Ys(x:List mu):D:=.sl 3 (x.map Be)
instance:j! (List mu) Ys:=⟨Fr.s _⟩
def DO:=p2 @Ys.eq_1
structure ia where
 Op:Int
 N:Int
def nj(x:ia):D:=.agg [.v (g! b! x.Op),.v (g! b! x.N)]
instance:j! ia nj:=⟨Gv nj.eq_1⟩
def Q2:=p2 @nj.eq_1
def FF(x:List ia):D:=.sl 2 (x.map nj)
instance:j! (List ia) FF:=⟨Fr.s _⟩
def RQ:=p2 @FF.eq_1
structure ke where
 q:ByteArray
 ac:Int
 an:Int
 a6:Int
 ai:js
 ak:(List ia)
 Value:(List ia)
 be:ByteArray
def Tf(x:ke):D:=.agg [.v (.string x.q),.v (g! b! x.ac),.v (g! b! x.an),.v (g! b! x.a6),.v (g! b! x.ai.r),.v (g! b! x.ai.To),.sl 2 (x.ak.map nj),.sl 2 (x.Value.map nj),.v (.string x.be)]
instance:j! ke Tf:=⟨Gv Tf.eq_1⟩
def T2:=p2 @Tf.eq_1
def Fk(x:List ke):D:=.sl 9 (x.map Tf)
instance:j! (List ke) Fk:=⟨Fr.s _⟩
def SQ:=p2 @Fk.eq_1
structure fr where
 q:ByteArray
 ah:Int
 ad:(List mu)
 f:(List mu)
 n:(List ke)
def Gd(x:fr):D:=.agg [.v (.string x.q),.v (g! b! x.ah),.sl 3 (x.ad.map Be),.sl 3 (x.f.map Be),.sl 9 (x.n.map Tf)]
instance:j! fr Gd:=⟨Gv Gd.eq_1⟩
def aV:=p2 @Gd.eq_1
def Zs(x:List fr):D:=.sl 5 (x.map Gd)
instance:j! (List fr) Zs:=⟨Fr.s _⟩
def EO:=p2 @Zs.eq_1
structure ej where
 z:(List pd)
 Tables:(List po)
 e:(List fr)
def mq(x:ej):D:=.agg [.sl 2 (x.z.map An),.sl 6 (x.Tables.map Jg),.sl 5 (x.e.map Gd)]
instance:j! ej mq:=⟨Gv mq.eq_1⟩
def raa:=p2 @mq.eq_1
def pb(x:List Int):D:=.sl 1 (x.map da)
instance:j! (List Int) pb:=⟨Fr.s _⟩
def X2:=p2 @pb.eq_1
structure ve where
 ba:Int
 al:(List Int)
def Zz(x:ve):D:=.agg [.v (g! b! x.ba),.sl 1 (x.al.map da)]
instance:j! ve Zz:=⟨Gv Zz.eq_1⟩
def DL:=p2 @Zz.eq_1
structure kv where
 ac:Int
 a1:Int
 bb:Int
 bf:Int
 a5:Int
 aj:Int
 a7:Int
 am:ve
def Ge(x:kv):D:=.agg [.v (g! b! x.ac),.v (g! b! x.a1),.v (g! b! x.bb),.v (g! b! x.bf),.v (g! b! x.a5),.v (g! b! x.aj),.v (g! b! x.a7),.v (g! b! x.am.ba),.sl 1 (x.am.al.map da)]
instance:j! kv Ge:=⟨Gv Ge.eq_1⟩
def XI:=p2 @Ge.eq_1
structure bz where
 a:Int
 s:Int
 N:Int
def ib(x:bz):D:=.agg [.v (g! b! x.a),.v (g! b! x.s),.v (g! b! x.N)]
instance:j! bz ib:=⟨Gv ib.eq_1⟩
def dV:=p2 @ib.eq_1
structure ka where
 Id:Int
 ay:Int
 au:Int
 Value:bz
 ai:js
 ar:Int
def sd(x:ka):D:=.agg [.v (g! b! x.Id),.v (g! b! x.ay),.v (g! b! x.au),.v (g! b! x.Value.a),.v (g! b! x.Value.s),.v (g! b! x.Value.N),.v (g! b! x.ai.r),.v (g! b! x.ai.To),.v (g! b! x.ar)]
instance:j! ka sd:=⟨Gv sd.eq_1⟩
def P2:=p2 @sd.eq_1
def Oh(x:List ka):D:=.sl 9 (x.map sd)
instance:j! (List ka) Oh:=⟨Fr.s _⟩
def QQ:=p2 @Oh.eq_1
structure na where
 Id:Int
 Scope:Int
 w:Int
 ab:(List ka)
def pv(x:na):D:=.agg [.v (g! b! x.Id),.v (g! b! x.Scope),.v (g! b! x.w),.sl 9 (x.ab.map sd)]
instance:j! na pv:=⟨Gv pv.eq_1⟩
def WI:=p2 @pv.eq_1
structure cb where
 g:Int
 d:Int
 a:Int
 ae:Int
def db(x:cb):D:=.agg [.v (g! b! x.g),.v (g! b! x.d),.v (g! b! x.a),.v (g! b! x.ae)]
instance:j! cb db:=⟨Gv db.eq_1⟩
def xO:=p2 @db.eq_1
def Ra(x:List cb):D:=.sl 4 (x.map db)
instance:j! (List cb) Ra:=⟨Fr.s _⟩
def cJ:=p2 @Ra.eq_1
structure ml where
 Id:Int
 r:Int
 To:Int
 az:Int
 a3:Int
 av:Int
 ae:Int
def me(x:ml):D:=.agg [.v (g! b! x.Id),.v (g! b! x.r),.v (g! b! x.To),.v (g! b! x.az),.v (g! b! x.a3),.v (g! b! x.av),.v (g! b! x.ae)]
instance:j! ml me:=⟨Gv me.eq_1⟩
def KQ:=p2 @me.eq_1
def Al(x:List ml):D:=.sl 7 (x.map me)
instance:j! (List ml) Al:=⟨Fr.s _⟩
def FL:=p2 @Al.eq_1
structure ic where
 j:na
 u:(List cb)
 af:(List ml)
 g:Int
 ag:Int
def Zh(x:ic):D:=.agg [.v (g! b! x.j.Id),.v (g! b! x.j.Scope),.v (g! b! x.j.w),.sl 9 (x.j.ab.map sd),.sl 4 (x.u.map db),.sl 7 (x.af.map me),.v (g! b! x.g),.v (g! b! x.ag)]
instance:j! ic Zh:=⟨Gv Zh.eq_1⟩
def vO:=p2 @Zh.eq_1
structure se where
 Id:Int
 j:Int
 d:Int
 a:Int
 ae:Int
def dB(x:se):D:=.agg [.v (g! b! x.Id),.v (g! b! x.j),.v (g! b! x.d),.v (g! b! x.a),.v (g! b! x.ae)]
instance:j! se dB:=⟨Gv dB.eq_1⟩
def LQ:=p2 @dB.eq_1
structure j4 where
 bm:(List Int)
def LC(x:j4):D:=.agg [.sl 1 (x.bm.map da)]
instance:j! j4 LC:=⟨Gv LC.eq_1⟩
def wO:=p2 @LC.eq_1
def ya(x:Bool):D:=.v (.bool x)
instance:j! Bool ya:=⟨Gv ya.eq_1⟩
def taa:=p2 @ya.eq_1
def tr(x:List ic):D:=.sl 8 (x.map Zh)
instance:j! (List ic) tr:=⟨Fr.s _⟩
def ZI:=p2 @tr.eq_1
def zG(x:List se):D:=.sl 5 (x.map dB)
instance:j! (List se) zG:=⟨Fr.s _⟩
def GL:=p2 @zG.eq_1
structure ot where
 N:Int
def gV(x:ot):D:=.v (g! .u8 x.N)
instance:j! ot gV:=⟨Gv gV.eq_1⟩
def aY6:=p2 @gV.eq_1
def Rn(x:List ot):D:=.sl 1 (x.map gV)
instance:j! (List ot) Rn:=⟨Fr.s _⟩
def vaa:=p2 @Rn.eq_1
structure ma where
 j:Int
 d:Int
 g:Int
 aq:se
 u:(List cb)
def We(x:ma):D:=.agg [.v (g! b! x.j),.v (g! b! x.d),.v (g! b! x.g),.v (g! b! x.aq.Id),.v (g! b! x.aq.j),.v (g! b! x.aq.d),.v (g! b! x.aq.a),.v (g! b! x.aq.ae),.sl 4 (x.u.map db)]
instance:j! ma We:=⟨Gv We.eq_1⟩
def KC:=p2 @We.eq_1
def Bc(x:List ma):D:=.sl 9 (x.map We)
instance:j! (List ma) Bc:=⟨Fr.s _⟩
def eA:=p2 @Bc.eq_1
structure oe where
 d:Int
 bd:Int
 a4:Int
 bc:Int
def Cb(x:oe):D:=.agg [.v (g! b! x.d),.v (g! b! x.bd),.v (g! b! x.a4),.v (g! b! x.bc)]
instance:j! oe Cb:=⟨Gv Cb.eq_1⟩
def SD:=p2 @Cb.eq_1
structure nb where
 d:Int
 ae:Int
 Code:Int
def OD(x:nb):D:=.agg [.v (g! b! x.d),.v (g! b! x.ae),.v (g! b! x.Code)]
instance:j! nb OD:=⟨Gv OD.eq_1⟩
def XU:=p2 @OD.eq_1
def zb(x:List oe):D:=.sl 4 (x.map Cb)
instance:j! (List oe) zb:=⟨Fr.s _⟩
def TB:=p2 @zb.eq_1
def Lc(x:List nb):D:=.sl 3 (x.map OD)
instance:j! (List nb) Lc:=⟨Fr.s _⟩
def BO:=p2 @Lc.eq_1
def dA(x:List js):D:=.sl 2 (x.map nv)
instance:j! (List js) dA:=⟨Fr.s _⟩
def EF:=p2 @dA.eq_1
def oq(x:List bz):D:=.sl 3 (x.map ib)
instance:j! (List bz) oq:=⟨Fr.s _⟩
def GO:=p2 @oq.eq_1
def TD(x:List (List bz)):D:=.sl 1 (x.map oq)
instance:j! (List (List bz)) TD:=⟨Fr.s _⟩
def eJ:=p2 @TD.eq_1
structure vk where
 g:Int
 ad:(List bz)
 w:(List (List bz))
def CH(x:vk):D:=.agg [.v (g! b! x.g),.sl 3 (x.ad.map ib),.sl 1 (x.w.map oq)]
instance:j! vk CH:=⟨Gv CH.eq_1⟩
def N2:=p2 @CH.eq_1
structure tk where
 Code:Int
 ay:Int
 ac:Int
 bn:Int
def kr(x:tk):D:=.agg [.v (g! b! x.Code),.v (g! b! x.ay),.v (g! b! x.ac),.v (g! b! x.bn)]
instance:j! tk kr:=⟨Gv kr.eq_1⟩
def VI:=p2 @kr.eq_1
def Ii(x:Int):D:=.v (g! .u64 x)
instance:Fr Ii:=⟨Gv Ii.eq_1⟩
def av7:=p2 @Ii.eq_1
def dJ(x:List Bool):D:=.sl 1 (x.map ya)
instance:j! (List Bool) dJ:=⟨Fr.s _⟩
def mV:=p2 @dJ.eq_1
structure b8 where
 scope:fr
 memberScope:fr
 defs:(List Bool)
 memberDefs:(List Bool)
def um(x:b8):D:=.agg [.v (.string x.scope.q),.v (g! b! x.scope.ah),.sl 3 (x.scope.ad.map Be),.sl 3 (x.scope.f.map Be),.sl 9 (x.scope.n.map Tf),.v (.string x.memberScope.q),.v (g! b! x.memberScope.ah),.sl 3 (x.memberScope.ad.map Be),.sl 3 (x.memberScope.f.map Be),.sl 9 (x.memberScope.n.map Tf),.sl 1 (x.defs.map ya),.sl 1 (x.memberDefs.map ya)]
instance:j! b8 um:=⟨Gv um.eq_1⟩
def QD:=p2 @um.eq_1
structure b7 where
 bh:(List bz)
 n:(List Int)
def vm(x:b7):D:=.agg [.sl 3 (x.bh.map ib),.sl 1 (x.n.map da)]
instance:j! b7 vm:=⟨Gv vm.eq_1⟩
def RD:=p2 @vm.eq_1
def Mw(x:List b7):D:=.sl 2 (x.map vm)
instance:j! (List b7) Mw:=⟨Fr.s _⟩
def SB:=p2 @Mw.eq_1
structure b9 where
 bh:(List bz)
 n:(List Int)
 w:(List b7)
def iB(x:b9):D:=.agg [.sl 3 (x.bh.map ib),.sl 1 (x.n.map da),.sl 2 (x.w.map vm)]
instance:j! b9 iB:=⟨Gv iB.eq_1⟩
def MQ:=p2 @iB.eq_1
def yM(x:List ek):D:=.sl 2 (x.map mr)
instance:j! (List ek) yM:=⟨Fr.s _⟩
def TQ:=p2 @yM.eq_1
structure ll where
 g:Int
 ad:(List bz)
 f:(List bz)
 w:(List (List bz))
 a0:(List ek)
 Tables:(List po)
def aA(x:ll):D:=.agg [.v (g! b! x.g),.sl 3 (x.ad.map ib),.sl 3 (x.f.map ib),.sl 1 (x.w.map oq),.sl 2 (x.a0.map mr),.sl 6 (x.Tables.map Jg)]
instance:j! ll aA:=⟨Gv aA.eq_1⟩
def qaa:=p2 @aA.eq_1
def nr(x:b8):D:=.pt (um x)
instance:Fr nr:=⟨λx=>Fr.h (e:=um) x⟩
def PB:=p2 @nr.eq_1
def NQ(x:ll):D:=.pt (aA x)
instance:Fr NQ:=⟨λx=>Fr.h (e:=aA) x⟩
def jV:=p2 @NQ.eq_1
structure te where
 nodes:(List ia)
 starts:(List Int)
 env:ll
def xa(x:te):D:=.agg [.sl 2 (x.nodes.map nj),.sl 1 (x.starts.map da),.v (g! b! x.env.g),.sl 3 (x.env.ad.map ib),.sl 3 (x.env.f.map ib),.sl 1 (x.env.w.map oq),.sl 2 (x.env.a0.map mr),.sl 6 (x.env.Tables.map Jg)]
instance:j! te xa:=⟨Gv xa.eq_1⟩
def NB:=p2 @xa.eq_1
def Ei(x:Int):D:=.pt (da x)
instance:Fr Ei:=⟨λx=>Fr.h (e:=da) x⟩
def V2:=p2 @Ei.eq_1
structure i6 where
 parent:(List Int)
 priority:(List Int)
 outcome:(List Int)
def Us(x:i6):D:=.agg [.sl 1 (x.parent.map da),.sl 1 (x.priority.map da),.sl 1 (x.outcome.map da)]
instance:j! i6 Us:=⟨Gv Us.eq_1⟩
def MC:=p2 @Us.eq_1
structure pr where
 Code:Int
 bi:Int
 bj:Int
 bk:Int
def cA(x:pr):D:=.agg [.v (g! b! x.Code),.v (g! b! x.bi),.v (g! b! x.bj),.v (g! b! x.bk)]
instance:j! pr cA:=⟨Gv cA.eq_1⟩
def EL:=p2 @cA.eq_1
def Xs(x:fr):D:=.pt (Gd x)
instance:Fr Xs:=⟨λx=>Fr.h (e:=Gd) x⟩
def AO:=p2 @Xs.eq_1
structure ri where
 z:(List pd)
 Tables:(List po)
 ad:(List ek)
 f:(List ek)
 a8:(List ek)
 bg:Bool
def My(x:ri):D:=.agg [.sl 2 (x.z.map An),.sl 6 (x.Tables.map Jg),.sl 2 (x.ad.map mr),.sl 2 (x.f.map mr),.sl 2 (x.a8.map mr),.v (.bool x.bg)]
instance:j! ri My:=⟨Gv My.eq_1⟩
def YI:=p2 @My.eq_1
def Cv(x:ke):D:=.pt (Tf x)
instance:Fr Cv:=⟨λx=>Fr.h (e:=Tf) x⟩
def OQ:=p2 @Cv.eq_1
def waa(x:Int):D:=.v (g! .u8 x)
instance:Fr waa:=⟨Gv waa.eq_1⟩
def aY5:=p2 @waa.eq_1
def Ws(x:mu):D:=.pt (Be x)
instance:Fr Ws:=⟨λx=>Fr.h (e:=Be) x⟩
def zO:=p2 @Ws.eq_1
def Nt(x:ByteArray):D:=.pt (mz x)
instance:Fr Nt:=⟨λx=>Fr.h (e:=mz) x⟩
def W2:=p2 @Nt.eq_1
def Zx(x:b0):D:=.pt (lr x)
instance:Fr Zx:=⟨λx=>Fr.h (e:=lr) x⟩
def kV:=p2 @Zx.eq_1
structure wt where
 a:Int
 g:Int
 d:Int
 bl:Int
 aq:Int
 a9:Int
 av:Int
 ae:Int
 a2:ka
def iu(x:wt):D:=.agg [.v (g! b! x.a),.v (g! b! x.g),.v (g! b! x.d),.v (g! b! x.bl),.v (g! b! x.aq),.v (g! b! x.a9),.v (g! b! x.av),.v (g! b! x.ae),.v (g! b! x.a2.Id),.v (g! b! x.a2.ay),.v (g! b! x.a2.au),.v (g! b! x.a2.Value.a),.v (g! b! x.a2.Value.s),.v (g! b! x.a2.Value.N),.v (g! b! x.a2.ai.r),.v (g! b! x.a2.ai.To),.v (g! b! x.a2.ar)]
instance:j! wt iu:=⟨Gv iu.eq_1⟩
def YU:=p2 @iu.eq_1
def Vs(x:wt):D:=.pt (iu x)
instance:Fr Vs:=⟨λx=>Fr.h (e:=iu) x⟩
def yO:=p2 @Vs.eq_1
def Xc(x:List (List Int)):D:=.sl 1 (x.map pb)
instance:j! (List (List Int)) Xc:=⟨Fr.s _⟩
def UQ:=p2 @Xc.eq_1
def AG(x:List (List ia)):D:=.sl 1 (x.map FF)
instance:j! (List (List ia)) AG:=⟨Fr.s _⟩
def HL:=p2 @AG.eq_1
structure j2 where
 bo:Int
 bp:Int
 bq:Int
 ad:(List bz)
def Ui(x:j2):D:=.agg [.v (g! b! x.bo),.v (g! b! x.bp),.v (g! b! x.bq),.sl 3 (x.ad.map ib)]
instance:j! j2 Ui:=⟨Gv Ui.eq_1⟩
def PD:=p2 @Ui.eq_1
def Lw(x:List j2):D:=.sl 4 (x.map Ui)
instance:j! (List j2) Lw:=⟨Fr.s _⟩
def RB:=p2 @Lw.eq_1
def Kw(x:j2):D:=.pt (Ui x)
instance:Fr Kw:=⟨λx=>Fr.h (e:=Ui) x⟩
def OB:=p2 @Kw.eq_1
structure j5 where
 I0:Int
 I1:Int
 I2:Int
def paa(x:j5):D:=.agg [.v (g! b! x.I0),.v (g! b! x.I1),.v (g! b! x.I2)]
instance:j! j5 paa:=⟨Gv paa.eq_1⟩
def aw0:=p2 @paa.eq_1
structure j3 where
 scope:fr
 tables:(List po)
 date:Int
 rules:(List Int)
 parents:(List Int)
 priorities:(List Int)
def mj(x:j3):D:=.agg [.v (.string x.scope.q),.v (g! b! x.scope.ah),.sl 3 (x.scope.ad.map Be),.sl 3 (x.scope.f.map Be),.sl 9 (x.scope.n.map Tf),.sl 6 (x.tables.map Jg),.v (g! b! x.date),.sl 1 (x.rules.map da),.sl 1 (x.parents.map da),.sl 1 (x.priorities.map da)]
instance:j! j3 mj:=⟨Gv mj.eq_1⟩
def MB:=p2 @mj.eq_1
def Yu(x:j3):D:=.pt (mj x)
instance:Fr Yu:=⟨λx=>Fr.h (e:=mj) x⟩
def Cz:=p2 @Yu.eq_1
structure j6 where
 I0:Int
 I1:Int
def oaa(x:j6):D:=.agg [.v (g! b! x.I0),.v (g! b! x.I1)]
instance:j! j6 oaa:=⟨Gv oaa.eq_1⟩
def aw1:=p2 @oaa.eq_1
structure j8 where
 d:Int
 ar:Int
 br:Int
def cn(x:j8):D:=.agg [.v (g! b! x.d),.v (g! b! x.ar),.v (g! b! x.br)]
instance:j! j8 cn:=⟨Gv cn.eq_1⟩
def Wx:=p2 @cn.eq_1
structure j9 where
 To:Int
 ar:Int
def dn(x:j9):D:=.agg [.v (g! b! x.To),.v (g! b! x.ar)]
instance:j! j9 dn:=⟨Gv dn.eq_1⟩
def Xx:=p2 @dn.eq_1
def aJ(x:List wt):D:=.sl 17 (x.map iu)
instance:j! (List wt) aJ:=⟨Fr.s _⟩
def CO:=p2 @aJ.eq_1
structure b6 where
 aw:ej
 ax:kv
 as:(List ic)
 d:Int
def pe(x:b6):D:=.agg [.sl 2 (x.aw.z.map An),.sl 6 (x.aw.Tables.map Jg),.sl 5 (x.aw.e.map Gd),.v (g! b! x.ax.ac),.v (g! b! x.ax.a1),.v (g! b! x.ax.bb),.v (g! b! x.ax.bf),.v (g! b! x.ax.a5),.v (g! b! x.ax.aj),.v (g! b! x.ax.a7),.v (g! b! x.ax.am.ba),.sl 1 (x.ax.am.al.map da),.sl 8 (x.as.map Zh),.v (g! b! x.d)]
instance:j! b6 pe:=⟨Gv pe.eq_1⟩
def Yx:=p2 @pe.eq_1
structure n5 where
 d:Int
 bs:Int
 bt:(List Int)
 bu:(List Int)
def Qn(x:n5):D:=.agg [.v (g! b! x.d),.v (g! b! x.bs),.sl 1 (x.bt.map da),.sl 1 (x.bu.map da)]
instance:j! n5 Qn:=⟨Gv Qn.eq_1⟩
def Ly:=p2 @Qn.eq_1
def ze:=(ak (ak (ak (ak (ak (ak (ak @av8 @Y2) (ak @O2 @PQ)) (ak (ak @av9 @U2) (ak @UI @saa))) (ak (ak (ak @lV @cV) (ak @FO @ZU)) (ak (ak @DO @Q2) (ak @RQ @T2)))) (ak (ak (ak (ak @SQ @aV) (ak @EO @raa)) (ak (ak @X2 @DL) (ak @XI @dV))) (ak (ak (ak @P2 @QQ) (ak @WI @xO)) (ak (ak @cJ @KQ) (ak @FL @vO))))) (ak (ak (ak (ak (ak @LQ @wO) (ak @taa @ZI)) (ak (ak @GL @aY6) (ak @vaa @KC))) (ak (ak (ak @eA @SD) (ak @XU @TB)) (ak (ak @BO @EF) (ak @GO @eJ)))) (ak (ak (ak (ak @N2 @VI) (ak @av7 @mV)) (ak (ak @QD @RD) (ak @SB @MQ))) (ak (ak (ak @TQ @qaa) (ak @PB @jV)) (ak (ak @NB @V2) (ak @MC @EL)))))) (ak (ak (ak (ak (ak @AO @YI) (ak @OQ @aY5)) (ak (ak @zO @W2) (ak @kV @YU))) (ak (ak (ak @yO @UQ) (ak @HL @PD)) (ak (ak @RB @OB) (ak @aw0 @MB)))) (ak (ak (ak @Cz @aw1) (ak @Wx @Xx)) (ak (ak @CO @Yx) @Ly))))
def zz:type_of% (ak @zx @ze):=ak @zx @ze
def zg:type_of% (ak @zq @ze):=ak @zq @ze
def tz{N:Nat}{s S:St}(ρ:Wq) (h:lC (Sq ρ s.m 9) s.t S.t/\qF ρ s.m ρ S.m:=by first|(simp only[zg];done)|(simp only[zg, *];done)) (hk:pz ρ N=a29:=by rfl) (a:(ρ.filterMap (·.1)).Nodup:=by decide):i! N s S:=i!.q ρ hk a h
def ez{rs:List RV}{o:D}{s:St}(h:cR (qa s rs) s.m o:=by simp only[zz,zr];exact fq (by first|(simp only[zg];done)|(simp only[zg, *];done)|(simp only[zg, *,List.drop_zero,Nat.zero_add,List.length_map];done))):Fx rs o .ret s:=er h
noncomputable section
abbrev u3(a b c:Type):=a->Option (Ex a b c)
def wi(c:fr):u3 Int Unit Bool:=λa=>ite (a<a00 c.ad) ((e! c.ad a).bind λb=>ite (80<(b.q.size:Int)) (M (v? a30))<|M (n? (aa b! (a+1))))<|M (o? ())
def vi(c:fr):u3 Int Unit Bool:=λa=>ite (a<a00 c.f) ((e! c.f a).bind λb=>ite (80<(b.q.size:Int)) (M (v? a30))<|M (n? (aa b! (a+1))))<|M (o? ())
def ui(d:fr):u3 Int Unit Bool:=λb=>ite (b<a00 d.n) ((e! d.n b).bind λa=>e? (ite (¬80<(a.q.size:Int)) (ite (¬80<(a.be.size:Int)) (ite (¬50<(a00 a.ak:Int)) (M (D1 (50<(a00 a.Value:Int))))<|M a29)<|M a29)<|M a29) λc=>ite c (M (v? a30))<|M (n? (aa b! (b+1))))<|M (o? ())
def kh(b:fr):Option Bool:=e? (ite (¬80<(b.q.size:Int)) (ite (¬14<(a00 b.ad:Int)) (ite (¬14<(a00 b.f:Int)) (M (D1 (60<(a00 b.n:Int))))<|M a29)<|M a29)<|M a29) λa=>ite a (M a30)<|(ja (wi b) 0).bind λy=>match y with |.inr v=>M v |.inl _=>(ja (vi b) 0).bind λy=>match y with |.inr v=>M v |.inl _=>(ja (ui b) 0).bind λy=>match y with |.inr v=>M v |.inl _=>M a29
def Th(e:ej) (d:Int):u3 Int Unit (Ex Int Unit Bool):=λa=>(e! e.z d).bind λb=>ite (a<a00 b.w) ((e! b.w a).bind λc=>ite (80<(c.size:Int)) (M (v? (v? a30)))<|M (n? (aa b! (a+1))))<|M (o? ())
def Jj(d:ej):u3 Int Unit Bool:=λa=>ite (a<a00 d.z) (e? ((e! d.z a).bind λb=>ite (¬80<(b.q.size:Int)) (M (D1 (20<(a00 b.w:Int))))<|M a29) λc=>ite c (M (v? a30))<|(ja (Th d a) 0).bind λy=>match y with |.inr v=>M v |.inl _=>M (n? (aa b! (a+1))))<|M (o? ())
def Ij(e:ej):u3 (Int×Int) Unit Bool:=λ(c,a)=>ite (a<a00 e.Tables) ((e! e.Tables a).bind λb=>e? (ite (¬80<(b.q.size:Int)) (M (D1 (150<(aa b! (c+(a00 b.Rows:Int))))))<|M a29) λd=>ite d (M (v? a30))<|M (n? (aa b! (c+(a00 b.Rows:Int)),aa b! (a+1))))<|M (o? ())
def Hj(f:ej):u3 (Int×Int) Unit Bool:=λ(c,a)=>ite (a<a00 f.e) ((e! f.e a).bind λb=>e? (if¬60<(aa b! (c+(a00 b.n:Int)))then(kh b).bind λe=>M (!e)else M a29) λd=>ite d (M (v? a30))<|M (n? (aa b! (c+(a00 b.n:Int)),aa b! (a+1))))<|M (o? ())
def Wp(b:ej):Option Bool:=e? (ite (¬9<(a00 b.z:Int)) (ite (¬9<(a00 b.Tables:Int)) (M (D1 (5<(a00 b.e:Int))))<|M a29)<|M a29) λa=>ite a (M a30)<|(ja (Jj b) 0).bind λy=>match y with |.inr v=>M v |.inl _=>(ja (Ij b) (0,0)).bind λy=>match y with |.inr v=>M v |.inl _=>(ja (Hj b) (0,0)).bind λy=>match y with |.inr v=>M v |.inl _=>M a29
def np(a:kv):Option Bool:=M (D1 ((a00 a.am.al:Int)<=70))
def lk(a:na):Option Bool:=M (D1 ((a00 a.ab:Int)<=40))
def Gj(c:ic):Option Bool:=e? ((lk c.j).bind λb=>ite b (ite ((a00 c.u:Int)<=200) (M (D1 ((a00 c.af:Int)<=20)))<|M a30)<|M a30) λa=>M a
def bQ0(p:cb):PsJ:=⟨p.g,p.d,p.a,p.ae⟩
def Rp(r:ma):R!:=⟨r.j,r.d,r.g,r.aq.Id,r.aq.j,r.aq.d,r.aq.a,r.aq.ae,r.u.map bQ0⟩
def bj7(p:PsJ):cb:=cb.mk p.d p.m p.k p.c
def cP(r:R!):ma:=ma.mk r.h r.mo r.d (se.mk r.ni r.nh r.nm r.nk r.nc) (r.ps.map bj7)
def bI(l:List (BitVec 8)):List ot:=l.map λb=>ot.mk (b.toNat:Int)
def bJ(l:List ot):List (BitVec 8):=l.map λn=>BitVec.ofInt 8 n.N
def z!(r:ma):List ot:=bI (xm (Rp r))
def Zn(a:ma):Option (List ot×Int):=ite (a00 a.u<=4096) (M (z! a,0)) u4
open Classical in
def Q1(l:List ot):List ma×Int:=if h:∃p:List R!×Nat,Qq (bJ l) p.1 p.2 then(h.choose.1.map cP,(h.choose.2:Int))else([],0)
def Za(a:List ot):Option (List ma×Int):=ite (a00 a<1099511627776/\(∀b∈a,0<=b.N/\b.N<256)) (M (Q1 a)) u4
def cj(b:List ot):Option (List ma×Int):=(Za b).bind λa=>M (a.1,a.2)
def tm(f:Int) (c:(List ma×Int)):u3 ((List (Int×Int))×Int) (List (Int×Int)) Unit:=λ(e,a)=>ite (a<a00 c.1) (e? ((e! c.1 a).bind λb=>ite (¬b.d=f) (M e)<|ite (((Uq e b.j).isSome)=a30) (M (ZC b.j a e))<|M e) λd=>M (n? (d,aa b! (a+1))))<|M (o? e)
def Ms(a:ic):Option (Int×Int×Int×List ka×List cb×List ml×Int×Int):=(app 72 ([]:List ka) a.j.ab).bind λb=>(app 32 ([]:List cb) a.u).bind λc=>(app 56 ([]:List ml) a.af).bind λd=>M (a.j.Id,a.j.Scope,a.j.w,b,c,d,a.g,a.ag)
def Ns(b c d:Int) (e:List cb) (f g:Int) (a:ma):Option (List cb×Int×Int×Int×Int×Int):=(app 32 e a.u).bind λj=>e? (ite (0<=a.g) (M (a.g,a.d))<|M (f,g)) λ(h,i)=>M (j,b,c,d,h,i)
def rm(B:List ic) (A:(List ma×Int)) (c:(List (Int×Int))):u3 (List ic×Int) (List ic) Unit:=λ(i,b)=>ite (b<a00 B) ((e! B b).bind λx=>(Ms x).bind λ(a,d,e,j,f,k,g,h)=>e? (ite (((Uq c a).isSome)=a29) ((e! A.1 ((Uq c a).getD 0)).bind λy=>(Ns a d e f g h y).bind λ(l,m,n,o,p,q)=>M (m,n,o,l,p,q))<|M (a,d,e,f,g,h)) λ(r,s,t,u,v,w)=>(app 112 i ([ic.mk (na.mk r s t j) u k v w])).bind λz=>M (n? (z,aa b! (b+1))))<|M (o? i)
def Uo(d:List ic) (e:List ot) (f:Int):Option (List ic):=(cj e).bind λc=>(ja (tm f c) (([]:List (Int×Int)),0)).bind λy=>match y with |.inr _=>u4 |.inl a=>(uz 112 (ic.mk (na.mk 0 0 0 ([])) ([]) ([]) 0 0) 0 (a00 d:Int)).bind λg=>(ja (rm d c a) (([]:List ic),0)).bind λy=>match y with |.inr _=>u4 |.inl b=>M b
def kp(b c:Int):Option (Int×Int):=e? (ite (¬b<0) (ite (¬1048576<b) (ite (¬c<0) (M (D1 (3599<c)))<|M a29)<|M a29)<|M a29) λa=>ite a (M (0,3))<|M (aa b! ((aa b! (b*4096))+c),0)
def vL(p:cb):Int:=ite (p.a=1) p.ae<|ite (p.a=2) (aa b! (-p.ae))<|ite (p.a=3) (aa b! (-p.ae)) 0
def mK(m:Int) (l:List cb) (ks:List Int):Int:=ks.foldl (λs k=>(l.filter λp=>p.a==k).foldl (λs p=>ite (p.d==m) (aa b! (s+vL p)) s) s) 0
def Qf(a:List cb) (b:Int):Option Int:=ite (a00 a<=1099511627776) (M (mK b a [1,2,3])) u4
def Kp(b:Int):Option Bool:=e? (ite (97<=b) (M (D1 (b<=122)))<|M a30) λa=>M a
def Qt(b:Int):Option Bool:=e? (ite (48<=b) (M (D1 (b<=57)))<|M a30) λa=>M a
def Td(f:ByteArray):u3 Int Int Unit:=λe=>e? (ite (e<(f.size:Int)) ((xy f e).bind λa=>(Kp a).bind λc=>ite (c=a30) ((Qt a).bind λd=>ite (d=a30) (M (a==95))<|M a29)<|M a29)<|M a30) λb=>ite b (M (n? (aa b! (e+1))))<|M (o? e)
def Tk(b:ByteArray):Option Int:=(ja (Td b) 0).bind λy=>match y with |.inr _=>u4 |.inl a=>M a
def si(b:ByteArray):Option Bool:=e? (ite (b=(z? #[105,102])) (M a29)<|ite (b=(z? #[116,104,101,110])) (M a29)<|ite (b=(z? #[101,108,115,101])) (M a29)<|ite (b=(z? #[111,114])) (M a29)<|ite (b=(z? #[97,110,100])) (M a29)<|ite (b=(z? #[110,111,116])) (M a29)<|ite (b=(z? #[116,114,117,101])) (M a29)<|ite (b=(z? #[102,97,108,115,101])) (M a29)<|ite (b=(z? #[116,111,100,97,121])) (M a29)<|ite (b=(z? #[115,104,97,114,101])) (M a29)<|ite (b=(z? #[100,105,118])) (M a29)<|ite (b=(z? #[114,111,117,110,100])) (M a29)<|ite (b=(z? #[109,105,110])) (M a29)<|ite (b=(z? #[109,97,120])) (M a29)<|ite (b=(z? #[112,108,117,115])) (M a29)<|ite (b=(z? #[109,111,110,116,104,115])) (M a29)<|ite (b=(z? #[100,97,121,115])) (M a29)<|ite (b=(z? #[121,101,97,114,115])) (M a29)<|ite (b=(z? #[121,101,97,114])) (M a29)<|ite (b=(z? #[109,111,110,116,104])) (M a29)<|ite (b=(z? #[116,97,98])) (M a29)<|ite (b=(z? #[98,97,110,100])) (M a29)<|ite (b=(z? #[99,111,117,110,116])) (M a29)<|ite (b=(z? #[115,117,109])) (M a29)<|ite (b=(z? #[97,108,108])) (M a29)<|ite (b=(z? #[97,110,121])) (M a29)<|ite (b=(z? #[109,111,115,116])) (M a29)<|ite (b=(z? #[101,110,117,109])) (M a29)<|ite (b=(z? #[116,97,98,108,101])) (M a29)<|ite (b=(z? #[114,111,119])) (M a29)<|ite (b=(z? #[115,99,111,112,101])) (M a29)<|ite (b=(z? #[109,101,109,98,101,114,115])) (M a29)<|ite (b=(z? #[105,110,112,117,116])) (M a29)<|ite (b=(z? #[100,101,102])) (M a29)<|ite (b=(z? #[114,117,108,101])) (M a29)<|ite (b=(z? #[111,102])) (M a29)<|ite (b=(z? #[111,118,101,114])) (M a29)<|ite (b=(z? #[112,114,105,111])) (M a29)<|ite (b=(z? #[102,114,111,109])) (M a29)<|ite (b=(z? #[116,111])) (M a29)<|ite (b=(z? #[101,110,100])) (M a29)<|ite (b=(z? #[119,104,101,110])) (M a29)<|ite (b=(z? #[105,115])) (M a29)<|ite (b=(z? #[115,114,99])) (M a29)<|ite (b=(z? #[98,111,111,108])) (M a29)<|ite (b=(z? #[105,110,116])) (M a29)<|ite (b=(z? #[109,111,110,101,121])) (M a29)<|ite (b=(z? #[114,97,116,101])) (M a29)<|ite (b=(z? #[100,97,116,101])) (M a29)<|ite (b=(z? #[100,111,119,110])) (M a29)<|ite (b=(z? #[117,112])) (M a29)<|ite (b=(z? #[122,101,114,111])) (M a29)<|ite (b=(z? #[97,119,97,121])) (M a29)<|ite (b=(z? #[104,97,108,102])) (M a29)<|M (D1 (b=(z? #[101,118,101,110])))) λa=>ite a (M a29)<|M a30
def Sb(f:ByteArray):Option Bool:=e? (ite (¬f=(z? #[])) ((xy f 0).bind λb=>(Kp b).bind λc=>ite c ((Tk f).bind λd=>ite (d=(f.size:Int)) (ite ((f.size:Int)<=16) ((si f).bind λe=>M (!e))<|M a30)<|M a30)<|M a30)<|M a30) λa=>M a
def xd(d:List pd) (e:(pd->Option Bool)):u3 Int Unit Int:=λc=>ite (c<a00 d) ((e! d c).bind λa=>(e a).bind λb=>ite b (M (v? c))<|M (n? (aa b! (c+1))))<|M (o? ())
def Dc(a:List pd) (b:(pd->Option Bool)):Option Int:=(ja (xd a b) 0).bind λy=>match y with |.inr v=>M v |.inl _=>M (-1)
def Ab(b:List pd) (c:(pd->Option Bool)):Option Bool:=(Dc b c).bind λa=>M (D1 (0<=a))
def Og(a:pd) (b:ByteArray):Option Bool:=M (D1 (a.q=b))
def eo(c:List pd) (d:ByteArray):Option Bool:=(Ab c (λa=>Og a d)).bind λb=>M b
def fe(c:List ByteArray) (d:ByteArray):u3 Int Unit Int:=λb=>ite (b<a00 c) ((e! c b).bind λa=>ite (d=a) (M (v? b))<|M (n? (aa b! (b+1))))<|M (o? ())
def xi(a:List ByteArray) (b:ByteArray):Option Int:=(ja (fe a b) 0).bind λy=>match y with |.inr v=>M v |.inl _=>M (-1)
def ee(b:List ByteArray) (c:ByteArray):Option Bool:=(xi b c).bind λa=>M (D1 (0<=a))
def Pk(f:pd):u3 Int Unit (Int×Int):=λa=>ite (a<a00 f.w) ((e! f.w a).bind λb=>(Sb b).bind λc=>ite (c=a30) (M (v? (2,aa b! (100+a))))<|(Rr f.w a).bind λd=>(ee d b).bind λe=>ite e (M (v? (7,aa b! (100+a))))<|M (n? (aa b! (a+1))))<|M (o? ())
def Fp(e:ej) (f:Int) (d:pd):Option (Int×Int):=(Sb d.q).bind λa=>ite (a=a30) (M (2,0))<|(Rr e.z f).bind λb=>(eo b d.q).bind λc=>ite c (M (7,0))<|ite ((a00 d.w:Int)=0) (M (5,0))<|ite (16<(a00 d.w:Int)) (M (4,116))<|(ja (Pk d) 0).bind λy=>match y with |.inr v=>M v |.inl _=>M (0,0)
def rj(d:ej):u3 Int Unit pr:=λc=>ite (c<a00 d.z) ((e! d.z c).bind λb=>(Fp d c b).bind λa=>ite (¬a.1=0) (M (v? (pr.mk a.1 1 c a.2)))<|M (n? (aa b! (c+1))))<|M (o? ())
def Br(a:ej):Option pr:=ite (8<(a00 a.z:Int)) (M (pr.mk 4 1 8 0))<|(ja (rj a) 0).bind λy=>match y with |.inr v=>M v |.inl _=>M (pr.mk 0 0 0 0)
def Hc(c:ek) (d:List pd):Option Bool:=e? (ite (c.a=1) (M a29)<|ite (c.a=2) (M a29)<|ite (c.a=3) (M a29)<|ite (c.a=4) (M a29)<|M (c.a==5)) λa=>ite a (M (c.s==0))<|ite (c.a=6) (e? (ite (0<=c.s) (M (D1 (c.s<a00 d)))<|M a30) λb=>M b)<|M a30
def Cd(c:ek) (d:List pd):Option (Int×Int):=(Hc c d).bind λa=>ite (a=a30) (M (0,-1))<|ite (c.a=1) (M (0,1))<|ite (c.a=2) (M (-1000000000000,1000000000000))<|ite (c.a=3) (M (-1000000000000000,1000000000000000))<|ite (c.a=4) (M (-1000000000,1000000000))<|ite (c.a=5) (M (0,109572))<|(e! d c.s).bind λb=>M (0,aa b! ((a00 b.w:Int)-1))
def kd(b:js):Option Bool:=e? (ite (0<=b.r) (ite (b.r<=b.To) (M (D1 (b.To<=109573)))<|M a30)<|M a30) λa=>M a
def Ob(d:List b0) (e:(b0->Option Bool)):u3 Int Unit (Int×Bool):=λc=>ite (c<a00 d) ((e! d c).bind λa=>(e a).bind λb=>ite b (M (v? (c,a29)))<|M (n? (aa b! (c+1))))<|M (o? ())
def jc(a:List b0) (b:(b0->Option Bool)):Option (Int×Bool):=(ja (Ob a b) 0).bind λy=>match y with |.inr v=>M v |.inl _=>M (0,a30)
def Pc(c:js):Option Bool:=e? ((kd c).bind λb=>ite b (M (D1 (c.r<c.To)))<|M a30) λa=>M a
def Xj(d e:js):Option (js×Bool):=e? ((Pc d).bind λb=>ite b ((Pc e).bind λc=>M (!c))<|M a29) λa=>ite a (M (js.mk 0 0,a30))<|ite ((min d.To e.To)<=(max d.r e.r)) (M (js.mk 0 0,a30))<|M (js.mk (max d.r e.r) (min d.To e.To),a29)
def Eo(c d:b0):Option Bool:=(Xj c.ai d.ai).bind λb=>e? (ite b.2 (M (D1 ((max c.Lo d.Lo)<(min c.Hi d.Hi))))<|M a30) λa=>M a
def ie(b c:b0):Option Bool:=(Eo b c).bind λa=>M a
def Lj(l:po) (d k:(Int×Int)):u3 Int Unit (Int×Int):=λb=>ite (b<a00 l.Rows) ((e! l.Rows b).bind λa=>e? ((kd a.ai).bind λh=>ite h (ite (¬a.ai.r=a.ai.To) (M (D1 (a.Hi<=a.Lo)))<|M a29)<|M a29) λe=>ite e (M (v? (b,3)))<|e? (ite (¬a.Lo<d.1) (ite (¬d.2<a.Lo) (ite (¬(aa b! (a.Hi-1))<d.1) (M (D1 (d.2<(aa b! (a.Hi-1)))))<|M a29)<|M a29)<|M a29) λf=>ite f (M (v? (b,3)))<|e? (ite (¬a.N<k.1) (M (D1 (k.2<a.N)))<|M a29) λg=>ite g (M (v? (b,3)))<|(Rr l.Rows b).bind λi=>(jc i (λc=>ie c a)).bind λj=>ite j.2 (M (v? (b,11)))<|M (n? (aa b! (b+1))))<|M (o? ())
def Co(f:po) (g:List pd):Option (Int×Int):=ite (64<(a00 f.Rows:Int)) (M (64,4))<|e? ((Hc f.ap g).bind λb=>ite b ((Hc f.Value g).bind λc=>M (!c))<|M a29) λa=>ite a (M (-1,8))<|(Cd f.ap g).bind λd=>(Cd f.Value g).bind λe=>(ja (Lj f d e) 0).bind λy=>match y with |.inr v=>M v |.inl _=>M (0,0)
def Uc(d:List po) (e:(po->Option Bool)):u3 Int Unit Int:=λc=>ite (c<a00 d) ((e! d c).bind λa=>(e a).bind λb=>ite b (M (v? c))<|M (n? (aa b! (c+1))))<|M (o? ())
def fc(a:List po) (b:(po->Option Bool)):Option Int:=(ja (Uc a b) 0).bind λy=>match y with |.inr v=>M v |.inl _=>M (-1)
def vb(b:List po) (c:(po->Option Bool)):Option Bool:=(fc b c).bind λa=>M (D1 (0<=a))
def Pf(a:po) (b:ByteArray):Option Bool:=M (D1 (a.q=b))
def cp(c:List po) (d:ByteArray):Option Bool:=(vb c (λa=>Pf a d)).bind λb=>M b
def ji(j:ej):u3 Int Unit pr:=λk=>ite (k<a00 j.Tables) ((e! j.Tables k).bind λc=>(Co c j.z).bind λb=>e? ((Sb c.q).bind λh=>ite (h=a30) (M (2,0))<|e? ((eo j.z c.q).bind λi=>ite (i=a30) ((Rr j.Tables k).bind λf=>(cp f c.q).bind λg=>M g)<|M a29) λd=>ite d (M (7,0))<|ite (¬b.2=0) (ite (¬b.1=(-1)) (M (b.2,aa b! (100+b.1)))<|M (b.2,0))<|M (0,0)) λ(a,e)=>ite (¬a=0) (M (v? (pr.mk a 2 k e)))<|M (n? (aa b! (k+1))))<|M (o? ())
def dq(a:ej):Option pr:=ite (8<(a00 a.Tables:Int)) (M (pr.mk 4 2 8 0))<|(ja (ji a) 0).bind λy=>match y with |.inr v=>M v |.inl _=>M (pr.mk 0 0 0 0)
def xj(d:List mu):u3 (List ek×Int) (List ek) Unit:=λ(e,c)=>ite (c<a00 d) ((e! d c).bind λa=>(app 16 e ([a.ao])).bind λb=>M (n? (b,aa b! (c+1))))<|M (o? e)
def ki(b:List mu):Option (List ek):=(ja (xj b) (([]:List ek),0)).bind λy=>match y with |.inr _=>u4 |.inl a=>M a
def sh(i:ej) (j:Int):Option ri:=(e! i.e j).bind λa=>(ki a.ad).bind λe=>(ki a.f).bind λf=>e? (e? (ite (0<=a.ah) (M (D1 (a.ah<a00 i.e)))<|M a30) λc=>ite c ((e! i.e a.ah).bind λg=>(ki g.f).bind λh=>M (h,a29))<|M (([]:List ek),a30)) λ(d,b)=>M (ri.mk i.z i.Tables e f d b)
def lj(a:List (List Int)) (b:Int):Option (List Int):=ite (a00 a<=1048576/\(∀l∈a,a00 l<=1048576/\∀e∈l,0<=e/\e<a00 a)/\0<=b/\b<a00 a) (M (lK a b)) u4
def gb(a:List Int):Option (List Int):=ite (a00 a<=8796093022208) (M (a.mergeSort λx y=>D1 (x<=y))) u4
def Oa(a:List Int):Option (List Int):=ite (a00 a<=8796093022208) (M (Go.Lib.compact a)) u4
def Sj(c:List Int):Option (List Int):=(gb c).bind λa=>(Oa a).bind λb=>M b
def di(m:List ia):u3 (List Int×List Int×List Int×Int) (List Int×List Int×List Int) Unit:=λ(k,l,b,g)=>ite (g<a00 m) (e? ((e! m g).bind λa=>ite (a.Op=7) ((app 8 k ([a.N])).bind λj=>M (j,l,b))<|ite (a.Op=8) ((app 8 l ([a.N])).bind λh=>M (k,h,b))<|e? (ite (a.Op=36) (M a29)<|ite (a.Op=37) (M a29)<|ite (a.Op=38) (M a29)<|M (a.Op==39)) λc=>ite c ((app 8 b ([a.N])).bind λi=>M (k,l,i))<|M (k,l,b)) λ(d,e,f)=>M (n? (d,e,f,aa b! (g+1))))<|M (o? (k,l,b))
def Of(g:List ia):Option (List Int×List Int×List Int):=(ja (di g) (([]:List Int),([]:List Int),([]:List Int),0)).bind λy=>match y with |.inr _=>u4 |.inl (a,b,c)=>(Sj a).bind λd=>(Sj b).bind λe=>(Sj c).bind λf=>M (d,e,f)
def Zf(h:Int) (f:(List Int×List Int×List Int)):u3 (List Int×Int) (List Int) Unit:=λ(b,c)=>ite (c<a00 f.2.1) (e? ((e! f.2.1 c).bind λe=>e? (ite (0<=e) (M (D1 (e<h)))<|M a30) λg=>ite g ((app 8 b ([e])).bind λd=>M d)<|M b) λa=>M (n? (a,aa b! (c+1))))<|M (o? b)
def Yf(h:Int) (g:(List Int×List Int×List Int)):u3 (List Int×Int) (List Int) Unit:=λ(a,b)=>ite (b<a00 g.2.1) (e? ((e! g.2.1 b).bind λc=>e? (ite (0<=c) (M (D1 (c<h)))<|M a30) λd=>ite d ((app 8 a ([c])).bind λf=>M f)<|M a) λe=>M (n? (e,aa b! (b+1))))<|M (o? a)
def Qe(e:ke) (f:Int):Option (List Int):=(Of e.ak).bind λc=>(Of e.Value).bind λd=>(ja (Zf f c) (([]:List Int),0)).bind λy=>match y with |.inr _=>u4 |.inl a=>(ja (Yf f d) (a,0)).bind λy=>match y with |.inr _=>u4 |.inl b=>M b
def Yh(c:List Int):Option (List Int):=(gb c).bind λa=>(Oa a).bind λb=>M b
def Fc(a:fr):Option (List (List Int)):=ite (a00 a.f<=1048576/\a.n.length<=1048576/\(∀r∈a.n,a00 r.ak<=1048576/\r.Value.length<=1048576)) ((s? a.f.length).mapM λ(d:Nat)=>((a.n.filter λ(r:ke)=>r.ac==(d:Int)).mapM λr=>Qe r a.f.length).bind λls=>M (ph ls.flatten)) u4
def ld(e:fr) (d:Int):Option (List Int):=e? (ite (¬d<0) (M (D1 ((a00 e.f:Int)<=d)))<|M a29) λa=>ite a (M ([]))<|(Fc e).bind λb=>(lj b d).bind λc=>M c
def Tc(d:List fr) (e:(fr->Option Bool)):u3 Int Unit Int:=λc=>ite (c<a00 d) ((e! d c).bind λa=>(e a).bind λb=>ite b (M (v? c))<|M (n? (aa b! (c+1))))<|M (o? ())
def cc(a:List fr) (b:(fr->Option Bool)):Option Int:=(ja (Tc a b) 0).bind λy=>match y with |.inr v=>M v |.inl _=>M (-1)
def ub(b:List fr) (c:(fr->Option Bool)):Option Bool:=(cc b c).bind λa=>M (D1 (0<=a))
def Wd(a b:fr):Option Bool:=M (D1 (a.q=b.q))
def Qc(a b:mu):Option Bool:=M (D1 (a.q=b.q))
def Sc(d:List mu) (e:(mu->Option Bool)):u3 Int Unit Int:=λc=>ite (c<a00 d) ((e! d c).bind λa=>(e a).bind λb=>ite b (M (v? c))<|M (n? (aa b! (c+1))))<|M (o? ())
def bc(a:List mu) (b:(mu->Option Bool)):Option Int:=(ja (Sc a b) 0).bind λy=>match y with |.inr v=>M v |.inl _=>M (-1)
def Ua(b:List mu) (c:(mu->Option Bool)):Option Bool:=(bc b c).bind λa=>M (D1 (0<=a))
def Qk(i:ej) (h:mu) (j c:List mu):Option Int:=(Sb h.q).bind λd=>ite (d=a30) (M 2)<|e? ((Ua j (λa=>Qc a h)).bind λe=>ite (e=a30) ((Ua c (λa=>Qc a h)).bind λf=>M f)<|M a29) λb=>ite b (M 7)<|(Hc h.ao i.z).bind λg=>ite (g=a30) (M 8)<|M 0
def Bd(d:List ke) (e:(ke->Option Bool)):u3 Int Unit Int:=λc=>ite (c<a00 d) ((e! d c).bind λa=>(e a).bind λb=>ite b (M (v? c))<|M (n? (aa b! (c+1))))<|M (o? ())
def Ec(a:List ke) (b:(ke->Option Bool)):Option Int:=(ja (Bd a b) 0).bind λy=>match y with |.inr v=>M v |.inl _=>M (-1)
def Bb(b:List ke) (c:(ke->Option Bool)):Option Bool:=(Ec b c).bind λa=>M (D1 (0<=a))
def df(a b:ke):Option Bool:=M (D1 (a.q=b.q))
def x?(b a:ByteArray):Option Bool:=ite (a.size=1) (M (b.data.toList.contains (a.data.toList.headD 0))) u4
def oi(d:ByteArray):u3 Int Unit Bool:=λa=>ite (a<(d.size:Int)) (e? ((xy d a).bind λb=>ite (¬b<32) (M (D1 (126<b)))<|M a29) λc=>ite c (M (v? a30))<|M (n? (aa b! (a+1))))<|M (o? ())
def Bm(c:ByteArray):Option Bool:=e? (ite (¬64<(c.size:Int)) ((x? c (z? #[34])).bind λb=>M b)<|M a29) λa=>ite a (M a30)<|(ja (oi c) 0).bind λy=>match y with |.inr v=>M v |.inl _=>M a29
def Rj(d:Int):Option Int:=e? (ite (d=1) (M a29)<|ite (d=2) (M a29)<|ite (d=3) (M a29)<|ite (d=4) (M a29)<|ite (d=5) (M a29)<|ite (d=6) (M a29)<|ite (d=7) (M a29)<|ite (d=8) (M a29)<|ite (d=9) (M a29)<|ite (d=35) (M a29)<|ite (d=36) (M a29)<|ite (d=37) (M a29)<|ite (d=38) (M a29)<|M (d==39)) λa=>ite a (M 0)<|e? (ite (d=10) (M a29)<|ite (d=25) (M a29)<|ite (d=31) (M a29)<|ite (d=32) (M a29)<|ite (d=33) (M a29)<|M (d==34)) λb=>ite b (M 1)<|e? (ite (d=11) (M a29)<|ite (d=12) (M a29)<|ite (d=13) (M a29)<|ite (d=14) (M a29)<|ite (d=15) (M a29)<|ite (d=16) (M a29)<|ite (d=17) (M a29)<|ite (d=18) (M a29)<|ite (d=19) (M a29)<|ite (d=20) (M a29)<|ite (d=21) (M a29)<|ite (d=22) (M a29)<|ite (d=23) (M a29)<|ite (d=24) (M a29)<|ite (d=27) (M a29)<|ite (d=28) (M a29)<|ite (d=29) (M a29)<|M (d==30)) λc=>ite c (M 2)<|ite (d=26) (M 3)<|M (-1)
def pj(m:List ia):u3 (List Int×List Int×Int) (List Int×List Int) (List Int×Int×Int):=λ(g,c,a)=>ite (a<a00 m) ((e! m a).bind λl=>(Rj l.Op).bind λf=>ite (f<0) (M (v? ([],a,2)))<|ite ((a00 c:Int)<f) (M (v? ([],a,5)))<|(e! g a).bind λn=>(put g a a).bind λb=>e? (ite (0<f) ((e! c (aa b! ((a00 c:Int)-f))).bind λh=>(e! b a).bind λo=>(put b a h).bind λi=>M i)<|M b) λd=>(Rr c (aa b! ((a00 c:Int)-f))).bind λj=>(e! d a).bind λk=>(app 8 j ([k])).bind λe=>ite (12<(a00 e:Int)) (M (v? ([],a,16)))<|M (n? (d,e,aa b! (a+1))))<|M (o? (g,c))
def Ik(d:List ia):Option (List Int×Int×Int):=ite (48<(a00 d:Int)) (M ([],0,4))<|ite ((a00 d:Int)=0) (M ([],0,5))<|(uz 8 0 (a00 d:Int) (a00 d:Int)).bind λc=>(ja (pj d) (c,([]:List Int),0)).bind λy=>match y with |.inr v=>M v |.inl (a,b)=>ite (1<(a00 b:Int)) (M ([],(a00 d:Int),4))<|M (a,0,0)
def Un(b:Int):Option Bool:=e? (ite (b=1) (M a29)<|ite (b=2) (M a29)<|ite (b=3) (M a29)<|ite (b=4) (M a29)<|ite (b=5) (M a29)<|ite (b=6) (M a29)<|ite (b=7) (M a29)<|ite (b=8) (M a29)<|ite (b=14) (M a29)<|ite (b=15) (M a29)<|ite (b=16) (M a29)<|ite (b=33) (M a29)<|ite (b=34) (M a29)<|ite (b=36) (M a29)<|ite (b=37) (M a29)<|ite (b=38) (M a29)<|M (b==39)) λa=>ite a (M a29)<|M a30
def Ye(c d:Int) (e:ri):Option (ek×Int):=(Cd (ek.mk d 0) e.z).bind λa=>e? (ite (¬c<a.1) (M (D1 (a.2<c)))<|M a29) λb=>ite b (M (ek.mk 0 0,3))<|M (ek.mk d 0,0)
def Ot(c:Int) (d:ri):Option (ek×Int):=ite (c<0) (M (ek.mk 0 0,3))<|e? (if¬(a00 d.z:Int)<=(aa b! (I' c 16))then(e! d.z (aa b! (I' c 16))).bind λb=>M (D1 ((a00 b.w:Int)<=(S! c 16)))else M a29) λa=>ite a (M (ek.mk 0 0,6))<|M (ek.mk 6 (aa b! (I' c 16)),0)
def He(d:Int) (e:List ek) (f:ri):Option (ek×Int):=e? (ite (¬d<0) (M (D1 ((a00 e:Int)<=d)))<|M a29) λb=>ite b (M (ek.mk 0 0,6))<|(e! e d).bind λa=>(Hc a f.z).bind λc=>ite (c=a30) (M (ek.mk 0 0,8))<|M (a,0)
def Jk(b:Int):Option Bool:=e? (ite (0<=b) (M (D1 (b<=5)))<|M a30) λa=>M a
def Vn(j:ia) (l:ek) (k:ri):Option (ek×Int):=e? (ite (j.Op=34) (e? (ite (¬j.N<0) ((Jk (S! j.N 8)).bind λi=>M (!i))<|M a29) λg=>ite g (M (Sum.inr (ek.mk 0 0,3)))<|M (Sum.inl (aa b! (I' j.N 8))))<|M (Sum.inl j.N)) λz=>match z with |.inr v=>M v |.inl d=>e? (ite (¬d<0) (M (D1 ((a00 k.Tables:Int)<=d)))<|M a29) λh=>ite h (M (ek.mk 0 0,6))<|(e! k.Tables d).bind λa=>e? ((Hc a.ap k.z).bind λe=>ite e ((Hc a.Value k.z).bind λf=>ite f (M (!((l.a==a.ap.a)&&(l.s==a.ap.s))))<|M a29)<|M a29) λb=>ite b (M (ek.mk 0 0,8))<|ite (j.Op=34) (e? (ite (a.ap.a=3) (M (a.Value.a !=4))<|M a29) λc=>ite c (M (ek.mk 0 0,8))<|M (a.ap,0))<|M (a.Value,0)
def yg(b:Int):Option Bool:=e? (ite (¬b=2) (ite (¬b=3) (M (b==4))<|M a29)<|M a29) λa=>M a
def Wi(e:ia) (f:ri):Option (ek×Int):=ite (f.bg=a30) (M (ek.mk 0 0,6))<|ite (e.Op=35) (M (ek.mk 2 0,0))<|(He e.N f.a8 f).bind λa=>ite (¬a.2=0) (M (ek.mk 0 0,a.2))<|e? (ite (e.Op=36) (ite (¬a.1.a=2) (M (a.1.a==3))<|M a29)<|e? (ite (e.Op=37) (M a29)<|M (e.Op==38)) λd=>ite d (M (a.1.a==1))<|ite (e.Op=39) ((yg a.1.a).bind λc=>ite (c=a30) (M (a.1.a==5))<|M a29)<|M a30) λb=>ite (b=a30) (M (ek.mk 0 0,8))<|M (a.1,0)
def bp(f d e:Int):Option (ek×Bool):=ite (f=14) (e? (ite (e=4) (ite (¬d=3) (M (d==4))<|M a29)<|M a30) λb=>M (ek.mk d 0,b))<|ite (e=2) (e? (ite (¬d=2) (M (d==3))<|M a29) λc=>M (ek.mk d 0,c))<|e? (ite (f=15) (ite (d=3) (M (e==3))<|M a30)<|M a30) λa=>ite a (M (ek.mk 4 0,a29))<|M (ek.mk 0 0,a30)
def Kb(J:Int) (U:List ek):Option (ek×Bool):=ite (J=10) ((e! U 0).bind λx2=>(yg x2.a).bind λx3=>M (x2,x3))<|ite (J=25) ((e! U 0).bind λx5=>M (ek.mk 1 0,x5.a==1))<|e? (ite (J=11) (M a29)<|M (J==12)) λj7=>ite j7 (e? ((e! U 0).bind λf=>(e! U 1).bind λg=>ite (f.a=g.a/\f.s=g.s) ((yg f.a).bind λN=>M (f.a,f.s,N))<|M (f.a,f.s,a30)) λ(n,o,p)=>M (ek.mk n o,p))<|e? (ite (J=13) (M a29)<|ite (J=14) (M a29)<|M (J==15)) λq=>ite q ((e! U 0).bind λO=>(e! U 1).bind λP=>(bp J O.a P.a).bind λh=>M (h.1,h.2))<|ite (J=16) (e? ((e! U 0).bind λc=>ite (c.a=3) ((e! U 1).bind λQ=>M (c.a,c.s,Q.a==3))<|M (c.a,c.s,a30)) λ(r,s,t)=>M (ek.mk r s,t))<|e? (ite (J=17) (M a29)<|M (J==18)) λu=>ite u (e? ((e! U 0).bind λa=>(e! U 1).bind λi=>ite (a.a=i.a/\a.s=i.s) ((yg a.a).bind λR=>ite (R=a30) (M (a.a,a.s,a.a==5))<|M (a.a,a.s,a29))<|M (a.a,a.s,a30)) λ(v,w,x)=>M (ek.mk v w,x))<|e? (ite (J=19) (M a29)<|M (J==20)) λy=>ite y ((e! U 0).bind λj=>(e! U 1).bind λk=>M (ek.mk 1 0,(j.a==k.a)&&(j.s==k.s)))<|e? (ite (J=21) (M a29)<|M (J==22)) λz=>ite z (e? ((e! U 0).bind λe=>(e! U 1).bind λl=>ite (e.a=l.a/\e.s=l.s) ((yg e.a).bind λS=>ite (S=a30) (M (e.a==5))<|M a29)<|M a30) λA=>M (ek.mk 1 0,A))<|e? (ite (J=23) (M a29)<|M (J==24)) λB=>ite B (e? ((e! U 0).bind λT=>ite (T.a=1) ((e! U 1).bind λo0=>M (o0.a==1))<|M a30) λC=>M (ek.mk 1 0,C))<|ite (J=26) (e? ((e! U 1).bind λb=>(e! U 0).bind λV=>ite (V.a=1) ((e! U 2).bind λm=>M (b.a,b.s,(b.a==m.a)&&(b.s==m.s)))<|M (b.a,b.s,a30)) λ(D,E,F)=>M (ek.mk D E,F))<|e? (ite (J=27) (M a29)<|M (J==28)) λG=>ite G (e? ((e! U 0).bind λd=>ite (d.a=5) ((e! U 1).bind λW=>M (d.a,d.s,W.a==2))<|M (d.a,d.s,a30)) λ(H,I,o4)=>M (ek.mk H I,o4))<|e? (ite (J=29) (M a29)<|M (J==30)) λK=>ite K (e? ((e! U 0).bind λX=>ite (X.a=5) ((e! U 1).bind λY=>M (Y.a==5))<|M a30) λL=>M (ek.mk 2 0,L))<|e? (ite (J=31) (M a29)<|M (J==32)) λn6=>ite n6 ((e! U 0).bind λZ=>M (ek.mk 2 0,Z.a==5))<|M (ek.mk 0 0,a30)
def Xa(q:ia) (s:List ek) (r:ri):Option (ek×Int):=e? (ite (q.Op=1) ((Ye q.N 1 r).bind λm=>M (Sum.inr (m.1,m.2)))<|ite (q.Op=2) ((Ye q.N 2 r).bind λn=>M (Sum.inr (n.1,n.2)))<|ite (q.Op=3) ((Ye q.N 3 r).bind λo=>M (Sum.inr (o.1,o.2)))<|ite (q.Op=4) ((Ye q.N 4 r).bind λp=>M (Sum.inr (p.1,p.2)))<|ite (q.Op=5) ((Ye q.N 5 r).bind λa=>M (Sum.inr (a.1,a.2)))<|ite (q.Op=6) ((Ot q.N r).bind λb=>M (Sum.inr (b.1,b.2)))<|ite (q.Op=7) ((He q.N r.ad r).bind λc=>M (Sum.inr (c.1,c.2)))<|ite (q.Op=8) ((He q.N r.f r).bind λd=>M (Sum.inr (d.1,d.2)))<|ite (q.Op=9) (M (Sum.inr (ek.mk 5 0,0)))<|e? (ite (q.Op=33) (M a29)<|M (q.Op==34)) λh=>ite h ((e! s 0).bind λk=>(Vn q k r).bind λe=>M (Sum.inr (e.1,e.2)))<|e? (ite (q.Op=35) (M a29)<|ite (q.Op=36) (M a29)<|ite (q.Op=37) (M a29)<|ite (q.Op=38) (M a29)<|M (q.Op==39)) λi=>ite i ((Wi q r).bind λf=>M (Sum.inr (f.1,f.2)))<|e? (ite (q.Op=14) (M a29)<|ite (q.Op=15) (M a29)<|M (q.Op==16)) λj=>ite j ((Jk q.N).bind λl=>ite (l=a30) (M (Sum.inr (ek.mk 0 0,3)))<|M (Sum.inl ()))<|M (Sum.inl ())) λz=>match z with |.inr v=>M v |.inl _=>(Kb q.Op s).bind λg=>ite (g.2=a30) (M (ek.mk 0 0,8))<|M (g.1,0)
def Tn(k:List ia) (l:ri):u3 (List ek×Int) (List ek) (ek×Int×Int):=λ(b,c)=>ite (c<a00 k) ((e! k c).bind λe=>e? (ite (¬e.N=0) ((Un e.Op).bind λj=>M (!j))<|M a30) λi=>ite i (M (v? (ek.mk 0 0,c,2)))<|(Rj e.Op).bind λd=>(jC b (aa b! ((a00 b:Int)-d))).bind λf=>(Xa e f l).bind λa=>ite (¬a.2=0) (M (v? (ek.mk 0 0,c,a.2)))<|(Rr b (aa b! ((a00 b:Int)-d))).bind λg=>(app 16 g ([a.1])).bind λh=>M (n? (h,aa b! (c+1))))<|M (o? b)
def nu(d:List ia) (e:ri):Option (ek×Int×Int):=(Ik d).bind λb=>ite (¬b.2.2=0) (M (ek.mk 0 0,b.2.1,b.2.2))<|(ja (Tn d e) (([]:List ek),0)).bind λy=>match y with |.inr v=>M v |.inl a=>(e! a 0).bind λc=>M (c,0,0)
def Pm(c:List ia) (d:ri) (b:ek):Option Int:=(nu c d).bind λa=>ite (¬a.2.2=0) (M a.2.2)<|ite (¬(a.1.a=b.a/\a.1.s=b.s)) (M 8)<|M 0
def Rk(e:ke) (c:List ke):u3 (Int×Int) Int Unit:=λ(a,b)=>ite (b<a00 c) (e? ((e! c b).bind λf=>ite (f.ac=e.ac) (M (aa b! (a+1)))<|M a) λd=>M (n? (d,aa b! (b+1))))<|M (o? a)
def Gp(s:fr) (t:Int) (u:ri):Option Int:=(e! s.n t).bind λa=>(Rr s.n t).bind λp=>(ja (Rk a p) (0,0)).bind λy=>match y with |.inr _=>u4 |.inl d=>(Sb a.q).bind λi=>ite (i=a30) (M 2)<|(Rr s.n t).bind λj=>(Bb j (λc=>df c a)).bind λk=>ite k (M 7)<|e? (ite (¬a.ac<0) (M (D1 ((a00 s.f:Int)<=a.ac)))<|M a29) λe=>ite e (M 6)<|e? (ite (¬a.an=(-1)) (ite (¬a.an<0) (ite (¬t<=a.an) ((e! s.n a.an).bind λl=>M (l.ac !=a.ac))<|M a29)<|M a29)<|M a30) λf=>ite f (M 9)<|e? (ite (¬a.a6<0) (M (D1 (9<a.a6)))<|M a29) λg=>ite g (M 3)<|e? (ite (¬a.ai.r<0) (ite (¬a.ai.To<=a.ai.r) (M (D1 (109573<a.ai.To)))<|M a29)<|M a29) λh=>ite h (M 3)<|ite (8<=d) (M 4)<|(Bm a.be).bind λm=>ite (m=a30) (M 2)<|e? (ite (0<(a00 a.ak:Int)) ((Pm a.ak u (ek.mk 1 0)).bind λb=>ite (¬b=0) (M (Sum.inr b))<|M (Sum.inl ()))<|M (Sum.inl ())) λz=>match z with |.inr v=>M v |.inl _=>(e! s.f a.ac).bind λn=>(Pm a.Value u n.ao).bind λo=>M o
def Yg(c:List Int) (d:Int):u3 Int Unit Int:=λb=>ite (b<a00 c) ((e! c b).bind λa=>ite (d=a) (M (v? b))<|M (n? (aa b! (b+1))))<|M (o? ())
def xo(a:List Int) (b:Int):Option Int:=(ja (Yg a b) 0).bind λy=>match y with |.inr v=>M v |.inl _=>M (-1)
def kf(b:List Int) (c:Int):Option Bool:=(xo b c).bind λa=>M (D1 (0<=a))
def wj(f:ej) (c:fr):u3 Int Unit (Int×Int):=λa=>ite (a<a00 c.ad) ((e! c.ad a).bind λd=>(Rr c.ad a).bind λe=>(Qk f d e ([])).bind λb=>ite (¬b=0) (M (v? (b,aa b! (100+a))))<|M (n? (aa b! (a+1))))<|M (o? ())
def vj(g:ej) (c:fr):u3 Int Unit (Int×Int):=λa=>ite (a<a00 c.f) ((e! c.f a).bind λd=>(Rr c.f a).bind λe=>(Qk g d c.ad e).bind λb=>ite (¬b=0) (M (v? (b,aa b! (200+a))))<|M (n? (aa b! (a+1))))<|M (o? ())
def uj(d:fr) (c:ri):u3 Int Unit (Int×Int):=λa=>ite (a<a00 d.n) ((Gp d a c).bind λb=>ite (¬b=0) (M (v? (b,aa b! (300+a))))<|M (n? (aa b! (a+1))))<|M (o? ())
def sj(d:fr):u3 Int Unit (Int×Int):=λa=>ite (a<a00 d.f) ((ld d a).bind λb=>(kf b a).bind λc=>ite c (M (v? (9,aa b! (200+a))))<|M (n? (aa b! (a+1))))<|M (o? ())
def bo(l:ej) (m:Int):Option (Int×Int):=(e! l.e m).bind λa=>(Rr l.e m).bind λf=>e? ((eo l.z a.q).bind λh=>ite (h=a30) ((cp l.Tables a.q).bind λi=>ite (i=a30) ((ub f (λb=>Wd b a)).bind λj=>M j)<|M a29)<|M a29) λg=>(Sb a.q).bind λk=>ite (k=a30) (M (2,0))<|ite g (M (7,0))<|e? (ite (¬a.ah=(-1)) (ite (¬a.ah<0) (ite (¬m<=a.ah) ((e! f a.ah).bind λd=>M (d.ah !=(-1)))<|M a29)<|M a29)<|M a30) λc=>ite c (M (6,0))<|ite (12<(a00 a.ad:Int)) (M (4,112))<|ite (12<(a00 a.f:Int)) (M (4,212))<|(ja (wj l a) 0).bind λy=>match y with |.inr v=>M v |.inl _=>(ja (vj l a) 0).bind λy=>match y with |.inr v=>M v |.inl _=>(sh l m).bind λe=>(ja (uj a e) 0).bind λy=>match y with |.inr v=>M v |.inl _=>(ja (sj a) 0).bind λy=>match y with |.inr v=>M v |.inl _=>M (0,0)
def fi(c:ej):u3 Int Unit pr:=λb=>ite (b<a00 c.e) ((bo c b).bind λa=>ite (¬a.1=0) (M (v? (pr.mk a.1 3 b a.2)))<|M (n? (aa b! (b+1))))<|M (o? ())
def bq(a:ej):Option pr:=ite (4<(a00 a.e:Int)) (M (pr.mk 4 3 4 0))<|(ja (fi a) 0).bind λy=>match y with |.inr v=>M v |.inl _=>M (pr.mk 0 0 0 0)
def Yl(d:ej):Option pr:=(Br d).bind λa=>ite (¬a.Code=0) (M a)<|(dq d).bind λb=>ite (¬b.Code=0) (M b)<|(bq d).bind λc=>M c
def Pb(b:Int):Option Bool:=e? (ite (0<=b) (M (D1 (b<=109572)))<|M a30) λa=>M a
def Dd(f:ve):u3 Int Unit Bool:=λa=>ite (a<a00 f.al) ((e! f.al a).bind λd=>e? ((Pb d).bind λe=>ite e (ite (0<a) ((e! f.al (aa b! (a-1))).bind λc=>M (D1 (d<=c)))<|M a30)<|M a29) λb=>ite b (M (v? a30))<|M (n? (aa b! (a+1))))<|M (o? ())
def tc(b:ve):Option Bool:=e? (ite (¬b.ba<0) (ite (¬126<b.ba) (M (D1 (64<(a00 b.al:Int))))<|M a29)<|M a29) λa=>ite a (M a30)<|(ja (Dd b) 0).bind λy=>match y with |.inr v=>M v |.inl _=>M a29
def Qa(n:ej) (o:Int) (m:kv):Option Int:=(Yl n).bind λb=>ite (¬(b.Code=0/\b.bi=0/\b.bj=0/\b.bk=0)) (M 1)<|e? (ite (¬o<0) (ite (¬(a00 n.e:Int)<=o) (ite (¬m.ac<0) ((e! n.e o).bind λk=>M (D1 ((a00 k.f:Int)<=m.ac)))<|M a29)<|M a29)<|M a29) λj=>ite j (M 6)<|(e! n.e o).bind λl=>(e! l.f m.ac).bind λa=>ite (¬(a.ao.a=3/\a.ao.s=0)) (M 8)<|e? (ite (¬m.a1<0) (ite (¬5<m.a1) ((tc m.am).bind λi=>M (!i))<|M a29)<|M a29) λc=>ite c (M 1)<|e? (e? (ite (¬m.bb<1) (M (D1 (28<m.bb)))<|M a29) λd=>ite d (M a29)<|e? (ite (¬m.bf<0) (M (D1 (1000000<m.bf)))<|M a29) λe=>ite e (M a29)<|e? (ite (¬m.a5<0) (M (D1 (1000000000000000<m.a5)))<|M a29) λf=>ite f (M a29)<|e? (ite (¬m.aj<0) (M (D1 (3599<m.aj)))<|M a29) λg=>ite g (M a29)<|ite (¬m.a7<0) (M (D1 (365<m.a7)))<|M a29) λh=>ite h (M 3)<|M 0
def Sk(e:List cb):u3 (List Int×Int) (List Int) Unit:=λ(f,c)=>ite (c<a00 e) ((e! e c).bind λa=>(app 8 f ([a.d])).bind λb=>M (n? (b,aa b! (c+1))))<|M (o? f)
def Ip(d:List cb):Option (List Int):=(ja (Sk d) (([]:List Int),0)).bind λy=>match y with |.inr _=>u4 |.inl b=>(gb b).bind λc=>(Oa c).bind λa=>M a
def vd(d:ej) (f:Int):Option (List mu×Bool):=(e! d.e f).bind λa=>e? (ite (¬a.ah<0) (M (D1 ((a00 d.e:Int)<=a.ah)))<|M a29) λb=>ite b (M ([],a30))<|(e! d.e a.ah).bind λc=>M (c.ad,a29)
def Mk(c:js):Option Bool:=e? ((kd c).bind λb=>ite b (M (D1 (c.r<c.To)))<|M a30) λa=>M a
def ah(h:ka):Option Int:=ite (h.Id<0) (M 3)<|e? (ite (¬h.ay<(-1)) (M (D1 (8<=h.ay)))<|M a29) λe=>ite e (M 3)<|e? (ite (¬h.au<(-1)) (M (D1 (12<=h.au)))<|M a29) λf=>ite f (M 3)<|e? (ite (h.ay=(-1)) (M (h.au==(-1)))<|M a30) λg=>ite g (M 3)<|(Mk h.ai).bind λd=>ite (d=a30) (M 3)<|e? (ite (¬h.ar<0) (M (D1 (109572<h.ar)))<|M a29) λa=>ite a (M 3)<|e? (ite (¬h.Value.a<1) (M (D1 (6<h.Value.a)))<|M a29) λb=>ite b (M 8)<|e? (ite (h.au=(-1)) (M (h.Value.a !=1))<|M a30) λc=>ite c (M 8)<|M 0
def sf:Int->List Int->List ka->Option (Int×Int) |_,_,[]=>M (0,0) |i,seen,f::l=>(ah f).bind λc=>if¬c=0 then M (i,c)else if seen.contains f.Id then M (i,7)else sf (i+1) (f.Id::seen) l
def Kk(a:List ka):Option (Int×Int):=ite (128<(a00 a:Int)) (M (0,4))<|sf 0 [] a
def cg(n:ej) (m:na) (l:(List mu×Bool)):u3 Int Unit (Int×Int):=λb=>ite (b<a00 m.ab) ((e! m.ab b).bind λa=>ite (m.w<=a.ay) (M (v? (b,6)))<|e? (ite (a.ay=(-1)) ((e! n.e m.Scope).bind λk=>M k.ad)<|M l.1) λc=>e? (ite (¬a.au=(-1)) (e? (ite (¬a.au<0) (M (D1 ((a00 c:Int)<=a.au)))<|M a29) λh=>ite h (M (Sum.inr (v? (b,6))))<|(e! c a.au).bind λf=>M (Sum.inl (f.ao.a,f.ao.s)))<|M (Sum.inl (1,0))) λz=>match z with |.inr v=>M v |.inl (d,e)=>e? (ite (a.Value.a=d) (M (a.Value.s !=e))<|M a29) λi=>ite i (M (v? (b,8)))<|(Cd (ek.mk d e) n.z).bind λg=>e? (ite (¬a.Value.N<g.1) (M (D1 (g.2<a.Value.N)))<|M a29) λj=>ite j (M (v? (b,3)))<|M (n? (aa b! (b+1))))<|M (o? ())
def bd(g:ej) (f:na):Option (Int×Int):=e? (ite (¬f.Scope<0) (M (D1 ((a00 g.e:Int)<=f.Scope)))<|M a29) λc=>ite c (M (-1,6))<|(vd g f.Scope).bind λb=>e? (ite (¬f.Id<0) (ite (¬f.w<0) (ite (¬8<f.w) (ite (¬f.w=0) (M (!b.2))<|M a30)<|M a29)<|M a29)<|M a29) λd=>ite d (M (-1,3))<|(Kk f.ab).bind λa=>ite (¬a.2=0) (M (a.1,a.2))<|(ja (cg g f b) 0).bind λy=>match y with |.inr v=>M v |.inl _=>M (0,0)
def wk(b:Int):Option Bool:=e? (ite (0<=b) (M (D1 (b<=109572)))<|M a30) λa=>M a
def Ri(b:kv) (c:Int):Option Bool:=e? (ite (b.aj<=c) (M (D1 (c<=(min 3599 (aa b! ((aa b! (b.aj+120))-1))))))<|M a30) λa=>M a
def Jp(b:cb):Option Int:=ite (b.a=1) (M b.ae)<|e? (ite (b.a=2) (M a29)<|M (b.a==3)) λa=>ite a (M (aa b! (-b.ae)))<|M 0
def qi(k:List cb):u3 ((List (Int×Int))×Int) Unit (Int×Int):=λ(j,b)=>ite (b<a00 k) ((e! k b).bind λa=>e? (e? (ite (¬a.g<0) (M (D1 (109572<a.g)))<|M a29) λi=>ite i (M a29)<|e? (ite (¬a.d<0) (M (D1 (3599<a.d)))<|M a29) λd=>ite d (M a29)<|ite (¬a.ae<1) (M (D1 (1000000000000000<a.ae)))<|M a29) λe=>ite e (M (v? (b,3)))<|e? (ite (¬a.a<1) (M (D1 (4<a.a)))<|M a29) λf=>ite f (M (v? (b,1)))<|e? (ite (0<b) ((e! k (aa b! (b-1))).bind λh=>M (D1 (a.g<h.g)))<|M a30) λg=>ite g (M (v? (b,9)))<|(Jp a).bind λc=>ite (((Uq (ZC a.d (aa b! (((Uq j a.d).getD 0)+c)) j) a.d).getD 0)<0) (M (v? (b,13)))<|M (n? (ZC a.d (aa b! (((Uq j a.d).getD 0)+c)) j,aa b! (b+1))))<|M (o? ())
def Dm(a:List cb):Option (Int×Int):=ite (4096<(a00 a:Int)) (M (4096,4))<|(ja (qi a) (([]:List (Int×Int)),0)).bind λy=>match y with |.inr v=>M v |.inl _=>M (0,0)
def Eh(b:List cb) (c:Int):Option Int:=ite (a00 b<=1099511627776) (M ((b.filter λp=>p.a==4).foldl (λs p=>ite (p.d==c) (aa b! (s+p.ae)) s) 0)) u4
def v7(m:Int) (l:List cb):Int:=(l.filter λp=>p.a==4).foldl (λs p=>ite (p.d==m) (aa b! (s+p.ae)) s) 0
def Pe(b c:Int):Option Bool:=e? (ite (0<=b) (ite (b<c) (ite (c<=3600) (M (D1 ((aa b! (c-b))<=120)))<|M a30)<|M a30)<|M a30) λa=>M a
def br(f:ml):Option Bool:=e? (ite (¬f.Id<0) ((Pe f.r f.To).bind λe=>M (!e))<|M a29) λc=>ite c (M a30)<|e? (ite (¬f.az<0) (ite (¬f.a3<f.az) (M (D1 (109572<f.a3)))<|M a29)<|M a29) λd=>ite d (M a30)<|e? (ite (¬f.av<1) (M (D1 (6<f.av)))<|M a29) λa=>ite a (M a30)<|e? (ite (0<=f.ae) (ite (f.ae<=1000000000000000) (ite (¬f.ae=0) (M (f.av==3))<|M a29)<|M a30)<|M a30) λb=>M b
def xn(b:ic):u3 Int Unit Bool:=λc=>ite (c<a00 b.j.ab) ((e! b.j.ab c).bind λa=>ite (b.g<a.ar) (M (v? a30))<|M (n? (aa b! (c+1))))<|M (o? ())
def vn(c:ic):u3 Int Unit Bool:=λa=>ite (a<a00 c.u) ((e! c.u a).bind λb=>ite (c.g<b.g) (M (v? a30))<|M (n? (aa b! (a+1))))<|M (o? ())
def tn(c:ic):u3 Int Unit Bool:=λa=>ite (a<a00 c.af) ((e! c.af a).bind λb=>ite (c.g<b.az) (M (v? a30))<|M (n? (aa b! (a+1))))<|M (o? ())
def Nn(a:ic):Option Bool:=(ja (xn a) 0).bind λy=>match y with |.inr v=>M v |.inl _=>(ja (vn a) 0).bind λy=>match y with |.inr v=>M v |.inl _=>(ja (tn a) 0).bind λy=>match y with |.inr v=>M v |.inl _=>M a29
def oh(i:kv) (h:ic) (c:List Int):u3 Int Unit Int:=λb=>ite (b<a00 c) ((e! c b).bind λa=>e? (ite (¬a<i.aj) (M (D1 (h.ag<a)))<|M a29) λd=>ite d (M (v? 3))<|e? ((Qf h.u a).bind λf=>ite (¬1000000000000000<f) ((Eh h.u a).bind λg=>M (D1 (1000000000000000<g)))<|M a29) λe=>ite e (M (v? 3))<|M (n? (aa b! (b+1))))<|M (o? ())
def mh(e:ic):u3 Int Unit Int:=λa=>ite (a<a00 e.af) ((e! e.af a).bind λb=>e? ((br b).bind λd=>ite d (M (b.Id !=a))<|M a29) λc=>ite c (M (v? 13))<|M (n? (aa b! (a+1))))<|M (o? ())
def Jh(l:ej) (k:kv) (i:ic):Option Int:=(Qa l i.j.Scope k).bind λf=>ite (¬f=0) (M 1)<|(bd l i.j).bind λd=>ite (¬d.2=0) (M d.2)<|e? ((wk i.g).bind λg=>ite g (if¬i.ag=(-1)then(Ri k i.ag).bind λh=>M (!h)else M a30)<|M a29) λe=>ite e (M 3)<|(Dm i.u).bind λa=>ite (¬a.2=0) (M a.2)<|(Ip i.u).bind λb=>(ja (oh k i b) 0).bind λy=>match y with |.inr v=>M v |.inl _=>ite (16<(a00 i.af:Int)) (M 4)<|(ja (mh i) 0).bind λy=>match y with |.inr v=>M v |.inl _=>(Nn i).bind λc=>ite (c=a30) (M 9)<|M 0
def Mq(b:Int):Option Bool:=e? (ite (0<=b) (M (D1 (b<=3599)))<|M a30) λa=>M a
def du(b:Int):Option Bool:=e? (ite ((S! b 4)=0) (ite ((S! b 100)=0) (M ((S! b 400)==0))<|M a29)<|M a30) λa=>M a
def qd(f e:Int):Option Int:=e? (ite (¬e<1) (M (D1 (12<e)))<|M a29) λa=>ite a (M 0)<|e? (ite (e=2) ((du f).bind λc=>M c)<|M a30) λb=>ite b (M 29)<|(e! mL (aa b! (e-1))).bind λd=>M d
def Pn(a:Int):Option Int:=M (aa b! ((aa b! ((aa b! (I' a 4))-(aa b! (I' a 100))))+(aa b! (I' a 400))))
def Vh(c:Int):Option Int:=(Pn (aa b! (c-1))).bind λa=>(Pn 1899).bind λb=>M (aa b! ((aa b! ((aa b! ((aa b! (c-1900))*365))+a))-b))
def jd(d e:Int):u3 (Int×Int) Int Unit:=λ(b,a)=>ite (a<(aa b! (e-1))) ((qd d (aa b! (a+1))).bind λc=>M (n? (aa b! (b+c),aa b! (a+1))))<|M (o? b)
def fj(e f g:Int):Option (Int×Int):=e? (ite (¬e<1900) (ite (¬2199<e) (ite (¬f<1) (ite (¬12<f) (ite (¬g<1) ((qd e f).bind λc=>M (D1 (c<g)))<|M a29)<|M a29)<|M a29)<|M a29)<|M a29) λb=>ite b (M (0,3))<|(Vh e).bind λd=>(ja (jd e f) (d,0)).bind λy=>match y with |.inr _=>u4 |.inl a=>M (aa b! ((aa b! (a+g))-1),0)
def Zl(c:Int):Option Int:=(Mq c).bind λa=>ite (a=a30) (M 0)<|(qd (aa b! (1900+(aa b! (I' c 12)))) (aa b! ((S! c 12)+1))).bind λb=>M b
def Kq(d:Int):Option (js×Int):=(Mq d).bind λb=>ite (b=a30) (M (js.mk 0 0,3))<|(fj (aa b! (1900+(aa b! (I' d 12)))) (aa b! ((S! d 12)+1)) 1).bind λa=>ite (¬a.2=0) (M (js.mk 0 0,a.2))<|(Zl d).bind λc=>M (js.mk a.1 (aa b! (a.1+c)),0)
def qf(c:ej) (d:na) (e:kv):Option Bool:=(Qa c d.Scope e).bind λa=>ite (¬a=0) (M a30)<|(bd c d).bind λb=>M (b.2==0)
def Ue(g:List js):u3 (List Int×Int) (List Int) Unit:=λ(e,f)=>ite (f<a00 g) (e? ((e! g f).bind λa=>(Pc a).bind λc=>ite c ((app 8 e ([a.r,a.To])).bind λd=>M d)<|M e) λb=>M (n? (b,aa b! (f+1))))<|M (o? e)
def Ig(d:List js):Option (List Int):=(ja (Ue d) (([]:List Int),0)).bind λy=>match y with |.inr _=>u4 |.inl a=>(gb a).bind λb=>(Oa b).bind λc=>M c
def af(h:List ka) (i:Int):u3 (List js×Int) (List js) Unit:=λ(f,g)=>ite (g<a00 h) (e? ((e! h g).bind λb=>e? (ite (b.ar<=i) ((Mk b.ai).bind λd=>M d)<|M a30) λc=>ite c ((app 16 f ([b.ai])).bind λe=>M e)<|M f) λa=>M (n? (a,aa b! (g+1))))<|M (o? f)
def Ze(d:List Int):u3 (List Int×Int) (List Int) Unit:=λ(a,b)=>ite (b<a00 d) (e? ((e! d b).bind λc=>e? (ite (1<=c) (M (D1 (c<=109572)))<|M a30) λe=>ite e ((app 8 a ([c])).bind λg=>M g)<|M a) λf=>M (n? (f,aa b! (b+1))))<|M (o? a)
def Vd(d:List ka) (e:Int):Option (List Int):=(ja (af d e) (([]:List js),0)).bind λy=>match y with |.inr _=>u4 |.inl a=>(Ig a).bind λc=>(ja (Ze c) (([]:List Int),0)).bind λy=>match y with |.inr _=>u4 |.inl b=>M b
def Ic(b:Int):Option Bool:=e? (ite (¬b<1) (M (D1 (109572<b)))<|M a29) λa=>M a
def xg(c:po):u3 (List js×Int) (List js) Unit:=λ(b,a)=>ite (a<a00 c.Rows) ((e! c.Rows a).bind λd=>(app 16 b ([d.ai])).bind λe=>M (n? (e,aa b! (a+1))))<|M (o? b)
def xc(d:ej):u3 (List js×Int) (List js) Unit:=λ(e,c)=>ite (c<a00 d.Tables) ((e! d.Tables c).bind λb=>(ja (xg b) (e,0)).bind λy=>match y with |.inr _=>u4 |.inl a=>M (n? (a,aa b! (c+1))))<|M (o? e)
def Uf(c:fr):u3 (List js×Int) (List js) Unit:=λ(b,a)=>ite (a<a00 c.n) ((e! c.n a).bind λd=>(app 16 b ([d.ai])).bind λe=>M (n? (e,aa b! (a+1))))<|M (o? b)
def wc(f:ej):u3 (List js×Int) (List js) Unit:=λ(b,a)=>ite (a<a00 f.e) ((e! f.e a).bind λd=>(ja (Uf d) (b,0)).bind λy=>match y with |.inr _=>u4 |.inl c=>M (n? (c,aa b! (a+1))))<|M (o? b)
def Hd(d:List js):u3 (List Int×Int) (List Int) Unit:=λ(a,b)=>ite (b<a00 d) (e? ((e! d b).bind λc=>(Pc c).bind λf=>ite f ((app 8 a ([c.r,c.To])).bind λg=>M g)<|M a) λe=>M (n? (e,aa b! (b+1))))<|M (o? a)
def vg(a:List js):Option (List Int):=(ja (Hd a) (([]:List Int),0)).bind λy=>match y with |.inr _=>u4 |.inl b=>(gb b).bind λc=>(Oa c).bind λd=>M d
def Jd(b:List Int):u3 Int Unit Int:=λa=>ite (a<a00 b) ((e! b a).bind λc=>(Ic c).bind λd=>ite d (M (v? a))<|M (n? (aa b! (a+1))))<|M (o? ())
def Pj(a:List Int):Option Int:=(ja (Jd a) 0).bind λy=>match y with |.inr v=>M v |.inl _=>M (-1)
def Kd  : (List Int×Int×Int)->Option (Ex (List Int×Int×Int) (List Int×Int) Unit):=λ(a,b,c)=>ite (c<a00 a) (e? ((e! a c).bind λd=>(Ic d).bind λg=>ite (g=a30) ((e! a b).bind λi=>(put a b d).bind λh=>M (h,aa b! (b+1)))<|M (a,b)) λ(e,f)=>M (n? (e,f,aa b! (c+1))))<|M (o? (a,b))
def wg(a:List Int):Option (List Int×List Int):=(Pj a).bind λc=>ite (c=(-1)) (M (a,a))<|(ja Kd (a,c,aa b! (c+1))).bind λy=>match y with |.inr _=>u4 |.inl (d,b)=>(jC d b).bind λf=>(ax3 d b f 0).bind λe=>(Rr e b).bind λg=>M (e,g)
def ag(e:ej):Option (List Int):=(ja (xc e) (([]:List js),0)).bind λy=>match y with |.inr _=>u4 |.inl a=>(ja (wc e) (a,0)).bind λy=>match y with |.inr _=>u4 |.inl b=>(vg b).bind λc=>(wg c).bind λ(f,d)=>M d
def Eg(c:(List (List Int))):u3 (Int×Int) Int Unit:=λ(a,b)=>ite (b<a00 c) ((e! c b).bind λd=>ite ((aa b! (a+(a00 d:Int)))<0) u4<|M (n? (aa b! (a+(a00 d:Int)),aa b! (b+1))))<|M (o? a)
def Bg(a:Int):Option (List Int):=ite (a<0) u4<|e? (ite (0<(aa b! (a-(aa b! (0-0))))) ((mka 8 0 (aa b! (a-(aa b! (0-0))))).bind λc=>(Rr c 0).bind λd=>M d)<|M ([]:List Int)) λb=>M b
def Dg(e:(List (List Int))):u3 (List Int×Int) (List Int) Unit:=λ(b,a)=>ite (a<a00 e) ((e! e a).bind λc=>(app 8 b c).bind λd=>M (n? (d,aa b! (a+1))))<|M (o? b)
def Cg(d:(List (List Int))):Option (List Int):=(ja (Eg d) (0,0)).bind λy=>match y with |.inr _=>u4 |.inl a=>(Bg a).bind λc=>(ja (Dg d) (c,0)).bind λy=>match y with |.inr _=>u4 |.inl b=>M b
def mc(g:ej) (h:na) (i:Int):Option (List Int):=(Vd h.ab i).bind λd=>(ag g).bind λe=>(lst [d,e]).bind λf=>(Cg f).bind λa=>(gb a).bind λb=>(Oa b).bind λc=>M c
def Ac(c:js) (d:Int):Option Bool:=e? ((kd c).bind λb=>ite b (ite (c.r<=d) (M (D1 (d<c.To)))<|M a30)<|M a30) λa=>M a
def Qv(a b:ka):Option Bool:=ite (¬a.ar=b.ar) (M (D1 (b.ar<a.ar)))<|M (D1 (b.Id<a.Id))
def Dp(l:List ka) (m n g h:Int):u3 (Int×Int) Int Unit:=λ(j,k)=>ite (k<a00 l) (e? ((e! l k).bind λa=>e? (ite (a.ay=m) (ite (a.au=n) (ite (¬h<a.ar) ((Ac a.ai g).bind λi=>M (!i))<|M a29)<|M a29)<|M a29) λf=>ite f (M j)<|e? (ite (¬j<0) ((e! l j).bind λd=>(Qv a d).bind λe=>M e)<|M a29) λb=>ite b (M k)<|M j) λc=>M (n? (c,aa b! (k+1))))<|M (o? j)
def Wn(e:List ka) (f g c d:Int):Option (bz×Bool):=(ja (Dp e f g c d) (-1,0)).bind λy=>match y with |.inr _=>u4 |.inl a=>ite (a<0) (M (bz.mk 0 0 0,a30))<|(e! e a).bind λb=>M (b.Value,a29)
def qe(h:List ka) (i c d:Int) (e:List bz):u3 (List bz×Int) (List bz) (List bz×Bool):=λ(g,a)=>ite (a<a00 e) ((Wn h i a c d).bind λb=>ite (b.2=a30) (M (v? ([],a30)))<|(e! g a).bind λj=>(put g a b.1).bind λf=>M (n? (f,aa b! (a+1))))<|M (o? g)
def Re(f:List ka) (g e c d:Int):Option (List bz×Bool):=(uz 24 (bz.mk 0 0 0) e e).bind λb=>(ja (qe f g c d b) (b,0)).bind λy=>match y with |.inr v=>M v |.inl a=>M (a,a29)
def tf(g:na) (h i:Int):u3 (List Int×Int) (List Int) Unit:=λ(f,e)=>ite (e<(min (max g.w 0) 8)) (e? ((Wn g.ab e (-1) h i).bind λb=>e? (ite b.2 (ite (b.1.a=1) (M (b.1.N==1))<|M a30)<|M a30) λc=>ite c ((app 8 f ([e])).bind λd=>M d)<|M f) λa=>M (n? (a,aa b! (e+1))))<|M (o? f)
def rh(b:na) (c d:Int):Option (List Int):=(ja (tf b c d) (([]:List Int),0)).bind λy=>match y with |.inr _=>u4 |.inl a=>M a
def ik(i:na) (j h:Int) (e:(List mu×Bool)) (c:List Int):u3 ((List (List bz))×Int) (List (List bz)) (vk×Int):=λ(b,a)=>ite (a<a00 c) ((e! c a).bind λf=>(Re i.ab f (a00 e.1:Int) j h).bind λd=>ite (d.2=a30) (M (v? (vk.mk 0 ([]) ([]),6)))<|(app 24 b ([d.1])).bind λg=>M (n? (g,aa b! (a+1))))<|M (o? b)
def Qh(l:ej) (j:na) (k c:Int):Option (vk×Int):=(Yl l).bind λa=>if¬(a.Code=0/\a.bi=0/\a.bj=0/\a.bk=0)then M (vk.mk 0 ([]) ([]),1)else(bd l j).bind λh=>ite (¬h.2=0) (M (vk.mk 0 ([]) ([]),1))<|e? (ite (¬k<0) (M (D1 (109572<k)))<|M a29) λg=>ite g (M (vk.mk 0 ([]) ([]),3))<|(e! l.e j.Scope).bind λi=>(Re j.ab (-1) (a00 i.ad:Int) k c).bind λf=>ite (f.2=a30) (M (vk.mk 0 ([]) ([]),6))<|(vd l j.Scope).bind λd=>(rh j k c).bind λe=>(ja (ik j k c d e) (([]:List (List bz)),0)).bind λy=>match y with |.inr v=>M v |.inl b=>M (vk.mk k f.1 b,0)
def Te(h:ej) (g:List bz) (i:List mu):u3 Int Unit (Int×Int):=λa=>ite (a<a00 g) ((e! g a).bind λc=>(e! i a).bind λe=>e? (ite (c.a=e.ao.a) (M (c.s !=e.ao.s))<|M a29) λf=>ite f (M (v? (a,8)))<|(Cd e.ao h.z).bind λb=>e? (ite (¬c.N<b.1) (M (D1 (b.2<c.N)))<|M a29) λd=>ite d (M (v? (a,3)))<|M (n? (aa b! (a+1))))<|M (o? ())
def Se(c:ej) (a:List bz) (b:List mu):Option (Int×Int):=ite ((a00 a:Int)<a00 b) (M ((a00 a:Int),5))<|if(a00 b:Int)<a00 a then M ((a00 b:Int),4)else(ja (Te c a b) 0).bind λy=>match y with |.inr v=>M v |.inl _=>M (0,0)
def Xf(d:ej) (f:Int):Option (List mu×Int):=(e! d.e f).bind λa=>e? (ite (¬a.ah<0) (M (D1 ((a00 d.e:Int)<=a.ah)))<|M a29) λb=>ite b (M ([],0))<|(e! d.e a.ah).bind λc=>M (c.ad,8)
def Fg(f:ej) (e:vk) (c:(List mu×Int)):u3 Int Unit (Int×Int×Int):=λa=>ite (a<a00 e.w) ((e! e.w a).bind λd=>(Se f d c.1).bind λb=>ite (¬b.2=0) (M (v? (a,b.1,b.2)))<|M (n? (aa b! (a+1))))<|M (o? ())
def dj(f:ej) (i:Int) (h:vk):Option (Int×Int×Int):=e? (ite (¬i<0) (M (D1 ((a00 f.e:Int)<=i)))<|M a29) λc=>ite c (M (-1,-1,6))<|e? (ite (¬h.g<0) (M (D1 (109572<h.g)))<|M a29) λd=>ite d (M (-1,-1,3))<|(e! f.e i).bind λe=>(Se f h.ad e.ad).bind λb=>ite (¬b.2=0) (M (-1,b.1,b.2))<|(Xf f i).bind λa=>ite (a.2<a00 h.w) (M (a.2,-1,4))<|(ja (Fg f h a) 0).bind λy=>match y with |.inr v=>M v |.inl _=>M (0,0,0)
def Nc(g:ej) (h:Int) (i:vk) (d:Bool) (b:Int):Option tk:=(Yl g).bind λe=>ite (¬e.Code=0) (M (tk.mk 1 (-1) (-1) (-1)))<|e? (ite (¬h<0) (ite (¬(a00 g.e:Int)<=h) (ite d (ite (¬b<0) ((e! g.e h).bind λf=>M (D1 ((a00 f.f:Int)<=b)))<|M a29)<|M a30)<|M a29)<|M a29) λc=>ite c (M (tk.mk 6 (-1) (-1) (-1)))<|(dj g h i).bind λa=>ite (¬a.2.2=0) (M (tk.mk a.2.2 a.1 (-1) (-1)))<|M (tk.mk 0 0 0 0)
def rf(q:List ke) (r:(ke->Option Bool)):u3 (List Int×List Int×List Int×Int) (List Int×List Int) Unit:=λ(p,h,i,a)=>ite (a<a00 q) (e? ((e! q a).bind λd=>e? (e? (ite (0<=d.an) (M (D1 (d.an<a)))<|M a30) λo=>ite o ((e! i d.an).bind λj=>M j)<|M (-1)) λc=>(e! i a).bind λs=>(put i a c).bind λb=>(r d).bind λk=>ite k ((e! b a).bind λt=>(put b a (a00 p:Int)).bind λl=>(app 8 p ([a])).bind λm=>(app 8 h ([c])).bind λn=>M (m,n,l))<|M (p,h,b)) λ(e,f,g)=>M (n? (e,f,g,aa b! (a+1))))<|M (o? (p,h))
def Hf(d:List ke) (e:(ke->Option Bool)):Option (List Int×List Int):=(uz 8 0 (a00 d:Int) (a00 d:Int)).bind λc=>(ja (rf d e) (([]:List Int),([]:List Int),c,0)).bind λy=>match y with |.inr _=>u4 |.inl (a,b)=>M (a,b)
def Gf(c:ke) (d e:Int):Option Bool:=e? (ite (c.ac=d) ((Ac c.ai e).bind λb=>M b)<|M a30) λa=>M a
def qh(g:fr) (b:(List Int×List Int)):u3 (List Int×Int) (List Int) Unit:=λ(f,a)=>ite (a<a00 b.1) ((e! b.1 a).bind λc=>(e! g.n c).bind λd=>(app 8 f ([d.a6])).bind λe=>M (n? (e,aa b! (a+1))))<|M (o? f)
def Gk(d:fr) (e f:Int):Option (List Int×List Int×List Int):=(Hf d.n (λa=>Gf a e f)).bind λc=>(ja (qh d c) (([]:List Int),0)).bind λy=>match y with |.inr _=>u4 |.inl b=>M (c.1,c.2,b)
def Sg(f g:List Int):u3 Int Unit Int:=λa=>ite (a<a00 f) ((e! f a).bind λc=>e? (ite (¬c<(-1)) (M (D1 (a<=c)))<|M a29) λe=>ite e (M (v? 9))<|e? ((e! g a).bind λd=>ite (¬d<0) (M (D1 (9<d)))<|M a29) λb=>ite b (M (v? 3))<|M (n? (aa b! (a+1))))<|M (o? ())
def Dj(a b:List Int):Option Int:=ite (¬(a00 a:Int)=a00 b) (M 2)<|ite (8<(a00 a:Int)) (M 4)<|(ja (Sg a b) 0).bind λy=>match y with |.inr v=>M v |.inl _=>M 0
def Rg(f:List Int) (g:Int):u3 (List Int×Int) (List Int) Unit:=λ(e,d)=>ite (d<a00 f) (e? ((e! f d).bind λb=>ite (b=g) ((app 8 e ([d])).bind λc=>M c)<|M e) λa=>M (n? (a,aa b! (d+1))))<|M (o? e)
def Cj(b:List Int) (c:Int):Option (List Int):=(ja (Rg b c) (([]:List Int),0)).bind λy=>match y with |.inr _=>u4 |.inl a=>M a
def Fi(r:i6) (n:List Int):u3 (List Int×Int) (List Int) Unit:=λ(q,f)=>ite (f<a00 n) (e? ((e! n f).bind λb=>(e! r.outcome b).bind λo=>ite (o=(-1)) (M q)<|e? (e? (ite (0<(a00 q:Int)) ((e! r.priority b).bind λp=>(e! q 0).bind λg=>(e! r.priority g).bind λh=>M (D1 (h<p)))<|M a30) λc=>ite c ((Rr q 0).bind λi=>M i)<|M q) λa=>e? (ite (¬(a00 a:Int)=0) ((e! r.priority b).bind λj=>(e! a 0).bind λk=>(e! r.priority k).bind λl=>M (j==l))<|M a29) λd=>ite d ((app 8 a ([b])).bind λm=>M m)<|M a) λe=>M (n? (e,aa b! (f+1))))<|M (o? q)
def fm(c:i6) (d:Int):Option (List Int):=(Cj c.parent d).bind λb=>(ja (Fi c b) (([]:List Int),0)).bind λy=>match y with |.inr _=>u4 |.inl a=>M a
def Ub(d:i6) (e:Int):Option Int:=(fm d e).bind λa=>ite ((a00 a:Int)=0) (M (-1))<|ite ((a00 a:Int)=1) ((e! a 0).bind λb=>(e! d.outcome b).bind λc=>M c)<|M (-2)
def Tg(j k:List Int) (l:List Bool):u3 (List Int×Int) (List Int) Unit:=λ(i,a)=>ite (0<=a) (e? ((Ub (i6.mk j k i) a).bind λg=>(e! i a).bind λm=>(put i a g).bind λb=>e? ((e! b a).bind λh=>ite (h=(-1)) ((e! l a).bind λe=>M e)<|M a30) λc=>ite c ((e! b a).bind λn=>(put b a a).bind λf=>M f)<|M b) λd=>M (n? (d,aa b! (a-1))))<|M (o? i)
def Ej(c d:List Int) (e:List Bool):Option (List Int):=(uz 8 0 (a00 c:Int) (a00 c:Int)).bind λb=>(ja (Tg c d e) (b,aa b! ((a00 c:Int)-1))).bind λy=>match y with |.inr _=>u4 |.inl a=>M a
def Fm(e f:List Int) (g:List Bool):Option Int:=e? ((Dj e f).bind λb=>ite (b=0) (M ((a00 g:Int) !=a00 e))<|M a29) λa=>ite a (M (-1))<|(Ej e f g).bind λc=>(Ub (i6.mk e f c) (-1)).bind λd=>M d
def lu(b:List ia):Option (List Int×Int):=(Ik b).bind λa=>M (a.1,a.2.2)
def ai(f:te):u3 (List Int×Int×Int) (List Int) Unit:=λ(b,d,a)=>ite (0<=a) ((e! b a).bind λg=>(put b a d).bind λe=>(e! f.starts d).bind λc=>M (n? (e,aa b! (c-1),aa b! (a-1))))<|M (o? b)
def Xe(e:te) (f:Int):Option (List Int):=(e! e.nodes f).bind λd=>(Rj d.Op).bind λb=>(uz 8 0 b b).bind λc=>(ja (ai e) (c,aa b! (f-1),aa b! ((a00 c:Int)-1))).bind λy=>match y with |.inr _=>u4 |.inl a=>M a
def Am(g:ia):Option Bool:=e? ((Rj g.Op).bind λe=>ite (¬e<0) (ite (¬g.N=0) ((Un g.Op).bind λf=>M (!f))<|M a30)<|M a29) λc=>ite c (M a30)<|e? (ite (g.Op=14) (M a29)<|ite (g.Op=15) (M a29)<|M (g.Op==16)) λd=>ite d (e? (ite (0<=g.N) (M (D1 (g.N<=5)))<|M a30) λa=>M a)<|ite (g.Op=34) (e? (ite (0<=g.N) (M (D1 ((S! g.N 8)<=5)))<|M a30) λb=>M b)<|ite (g.Op=6) (M (D1 (0<=g.N)))<|M a29
def ku(g:ia) (h:ll):Option Bool:=ite (g.Op=7) (e? (ite (0<=g.N) (M (D1 (g.N<a00 h.ad)))<|M a30) λd=>M d)<|ite (g.Op=8) (e? (ite (0<=g.N) (ite (g.N<a00 h.f) ((e! h.f g.N).bind λf=>M (f.a !=0))<|M a30)<|M a30) λe=>M e)<|ite (g.Op=33) (e? (ite (0<=g.N) (M (D1 (g.N<a00 h.Tables)))<|M a30) λa=>M a)<|ite (g.Op=34) (M (D1 ((aa b! (I' g.N 8))<(a00 h.Tables:Int))))<|e? (ite (g.Op=36) (M a29)<|ite (g.Op=37) (M a29)<|ite (g.Op=38) (M a29)<|M (g.Op==39)) λb=>ite b (e? (ite (0<=g.N) (M (D1 (g.N<a00 h.a0)))<|M a30) λc=>M c)<|M a29
def kc(h:bz):Option Bool:=e? (ite (¬h.a=6) (M (h.s !=0))<|M a30) λe=>ite e (M a30)<|ite (h.a=1) (e? (ite (¬h.N=0) (M (h.N==1))<|M a29) λf=>M f)<|ite (h.a=2) (e? (ite ((-1000000000000)<=h.N) (M (D1 (h.N<=1000000000000)))<|M a30) λg=>M g)<|ite (h.a=3) (e? (ite ((-1000000000000000)<=h.N) (M (D1 (h.N<=1000000000000000)))<|M a30) λa=>M a)<|ite (h.a=4) (e? (ite ((-1000000000)<=h.N) (M (D1 (h.N<=1000000000)))<|M a30) λb=>M b)<|ite (h.a=5) (e? (ite (0<=h.N) (M (D1 (h.N<=109572)))<|M a30) λc=>M c)<|ite (h.a=6) (e? (ite (0<=h.s) (ite (h.s<8) (ite (0<=h.N) (M (D1 (h.N<16)))<|M a30)<|M a30)<|M a30) λd=>M d)<|M a30
def Kg(d:List bz):u3 Int Unit Bool:=λc=>ite (c<a00 d) ((e! d c).bind λa=>(kc a).bind λb=>ite (b=a30) (M (v? a30))<|M (n? (aa b! (c+1))))<|M (o? ())
def oj(a:List bz):Option Bool:=(ja (Kg a) 0).bind λy=>match y with |.inr v=>M v |.inl _=>M a29
def Xo(c:bz) (d:ek):Option Bool:=e? ((kc c).bind λb=>ite b (ite (c.a=d.a) (M (c.s==d.s))<|M a30)<|M a30) λa=>M a
def Bh(b:Int):Option Bool:=e? (ite (¬b=2) (ite (¬b=3) (M (b==4))<|M a29)<|M a29) λa=>M a
def og(e:Int) (d:ek):Option Bool:=ite (¬d.s=0) (M a30)<|ite (e=36) (e? (ite (¬d.a=2) (M (d.a==3))<|M a29) λa=>M a)<|ite (e=39) (e? ((Bh d.a).bind λc=>ite (c=a30) (M (d.a==5))<|M a29) λb=>M b)<|M (d.a==1)
def pc(c b:Int):Option Bool:=ite (c=10) ((Bh b).bind λa=>M a)<|ite (c=25) (M (b==1))<|M (b==5)
def mf(b c:bz):Option Bool:=e? (ite (b.a=c.a) (M (b.s==c.s))<|M a30) λa=>M a
def eb(v:Int) (u w:bz):Option Bool:=e? (ite (v=11) (M a29)<|M (v==12)) λq=>ite q (e? ((mf u w).bind λs=>ite s ((Bh u.a).bind λt=>M t)<|M a30) λr=>M r)<|ite (v=13) (e? (ite (w.a=2) (ite (¬u.a=2) (M (u.a==3))<|M a29)<|M a30) λa=>M a)<|ite (v=14) (e? (ite (w.a=4) (ite (¬u.a=3) (M (u.a==4))<|M a29)<|M a30) λb=>M b)<|ite (v=15) (ite (w.a=2) (e? (ite (¬u.a=2) (M (u.a==3))<|M a29) λc=>M c)<|e? (ite (u.a=3) (M (w.a==3))<|M a30) λd=>M d)<|ite (v=16) (e? (ite (u.a=3) (M (w.a==3))<|M a30) λe=>M e)<|e? (ite (v=17) (M a29)<|ite (v=18) (M a29)<|ite (v=21) (M a29)<|M (v==22)) λf=>ite f (e? ((mf u w).bind λn=>ite n ((Bh u.a).bind λo=>ite (o=a30) (M (u.a==5))<|M a29)<|M a30) λg=>M g)<|e? (ite (v=19) (M a29)<|M (v==20)) λh=>ite h ((mf u w).bind λp=>M p)<|e? (ite (v=23) (M a29)<|M (v==24)) λi=>ite i (e? (ite (u.a=1) (M (w.a==1))<|M a30) λj=>M j)<|e? (ite (v=27) (M a29)<|M (v==28)) λk=>ite k (e? (ite (u.a=5) (M (w.a==2))<|M a30) λl=>M l)<|e? (ite (u.a=5) (M (w.a==5))<|M a30) λm=>M m
def ta(y:ia) (z:List bz) (A:ll):Option Bool:=ite (y.Op=7) ((e! A.ad y.N).bind λt=>(kc t).bind λu=>M u)<|ite (y.Op=8) ((e! A.f y.N).bind λv=>(kc v).bind λw=>M w)<|ite (y.Op=33) ((e! A.Tables y.N).bind λs=>e? ((e! z 0).bind λx=>(Xo x s.ap).bind λf=>ite f (ite (1<=s.Value.a) (M (D1 (s.Value.a<=6)))<|M a30)<|M a30) λb=>M b)<|ite (y.Op=34) ((e! A.Tables (aa b! (I' y.N 8))).bind λa=>e? ((e! z 0).bind λg=>ite (g.a=3) (ite (a.ap.a=3/\a.ap.s=0) (M ((a.Value.a==4)&&(a.Value.s==0)))<|M a30)<|M a30) λc=>M c)<|e? (ite (y.Op=36) (M a29)<|ite (y.Op=37) (M a29)<|ite (y.Op=38) (M a29)<|M (y.Op==39)) λd=>ite d ((e! A.a0 y.N).bind λh=>(og y.Op h).bind λi=>M i)<|ite ((a00 z:Int)=1) ((e! z 0).bind λj=>(pc y.Op j.a).bind λk=>M k)<|ite ((a00 z:Int)=2) ((e! z 0).bind λl=>(e! z 1).bind λm=>(eb y.Op l m).bind λn=>M n)<|ite ((a00 z:Int)=3) (e? ((e! z 0).bind λo=>ite (o.a=1) ((e! z 1).bind λp=>(e! z 2).bind λq=>(mf p q).bind λr=>M r)<|M a30) λe=>M e)<|M a29
def fk(p:ia) (q:ll) (o:ek):u3 (Int×Int×Int×Int) (Int×Int×Int) (bz×Int):=λ(d,e,c,b)=>ite (b<a00 q.w) (e? ((e! q.w b).bind λf=>e? (ite (¬(a00 f:Int)<=p.N) ((e! f p.N).bind λl=>M (l.a==0))<|M a29) λg=>ite g (M (Sum.inr (v? (bz.mk 0 0 0,6))))<|(e! f p.N).bind λa=>(Xo a o).bind λm=>ite (m=a30) (M (Sum.inr (v? (bz.mk 0 0 0,8))))<|ite (p.Op=36) ((kc (bz.mk d e (aa b! (c+a.N)))).bind λn=>ite (n=a30) (M (Sum.inr (v? (bz.mk 0 0 0,3))))<|M (Sum.inl (d,e,aa b! (c+a.N))))<|ite (p.Op=37) (M (Sum.inl (d,e,min c a.N)))<|ite (p.Op=38) (M (Sum.inl (d,e,max c a.N)))<|ite (p.Op=39) (e? (ite (¬b=0) (M (D1 (c<a.N)))<|M a29) λh=>ite h (M (Sum.inl (a.a,a.s,a.N)))<|M (Sum.inl (d,e,c)))<|M (Sum.inl (d,e,c))) λz=>match z with |.inr v=>M v |.inl (i,j,k)=>M (n? (i,j,k,aa b! (b+1))))<|M (o? (d,e,c))
def Ph(g:ia) (h:ll):Option (bz×Int):=(e! h.a0 g.N).bind λd=>e? (ite (g.Op=37) (M 1)<|M 0) λe=>e? (ite (g.Op=39) (M ((a00 h.w:Int)==0))<|M a30) λf=>ite f (M (bz.mk 0 0 0,6))<|(ja (fk g h d) (d.a,d.s,e,0)).bind λy=>match y with |.inr v=>M v |.inl (a,b,c)=>M (bz.mk a b c,0)
def Sf(c:b0) (e d:Int):Option Bool:=e? ((Ac c.ai e).bind λb=>ite b (ite (c.Lo<=d) (M (D1 (d<c.Hi)))<|M a30)<|M a30) λa=>M a
def Sr(c:po) (d e:Int):Option (Int×Bool):=(jc c.Rows (λa=>Sf a d e)).bind λb=>M (b.1,b.2)
def Je(a b:Int):Option (Int×Int):=ite (0<=a/\a<18446744073709551616/\0<=b/\b<18446744073709551616) (M (a*b / 18446744073709551616,a*b % 18446744073709551616)) u4
def Rf(a b c:Int):Option (Int×Int):=ite (0<=a/\a<c/\0<=b/\b<18446744073709551616/\c<18446744073709551616) (M ((a*18446744073709551616+b) / c,(a*18446744073709551616+b) % c)) u4
def zi(e d:Int):Option (Int×Int×Bool):=e? (ite (d<0) (M (aa .u64 (-(aa .u64 d))))<|M (aa .u64 d)) λc=>(Je (aa .u64 e) c).bind λb=>ite (1000000<=b.1) (M (0,0,a30))<|(Rf b.1 b.2 1000000).bind λa=>ite (1000000000000000<a.1) (M (0,0,a30))<|ite (d<0) (M (aa b! (-(aa b! a.1)),aa b! (-(aa b! a.2)),a29))<|M (aa b! a.1,aa b! a.2,a29)
def fh(b:Int):Option Bool:=e? (ite (0<=b) (M (D1 (b<=5)))<|M a30) λa=>M a
def vf(b c:Int):Option Bool:=e? (ite (¬c<b) (M (D1 (b<(aa b! (-c)))))<|M a29) λa=>M a
def Ke(a:Int):Option Int:=ite (a<0) (M (aa .u64 (-(aa .u64 a))))<|M (aa .u64 a)
def ef(f e g:Int) (c:Bool) (a:Int):Option Int:=ite (e=0) (M f)<|e? (ite (a=0) (M c)<|ite (a=1) (M (!c))<|ite (a=3) (M a29)<|ite (a=4) (M (D1 ((aa .u64 (g-e))<=e)))<|ite (a=5) (ite (¬(aa .u64 (g-e))<e) (ite (e=(aa .u64 (g-e))) (M ((S! f 2)==1))<|M a30)<|M a29)<|M a30) λd=>e? (ite d (M (aa .u64 (f+1)))<|M f) λb=>M b
def gp(a:Int) (b:Bool):Option Int:=ite b (M (aa b! (-(aa b! a))))<|M (aa b! a)
def uf(l k m:Int):Option (Int×Int):=(fh m).bind λh=>ite (h=a30) (M (0,1))<|ite (k=0) (M (0,12))<|e? ((vf l 4611686018427387904).bind λi=>ite (i=a30) ((vf k 4611686018427387904).bind λj=>M j)<|M a29) λg=>ite g (M (0,3))<|(Ke l).bind λf=>(Ke k).bind λa=>(quo .u64 f a).bind λb=>(rem .u64 f a).bind λc=>(ef b c a (!((D1 (l<0))==(D1 (k<0)))) m).bind λd=>(gp d (!((D1 (l<0))==(D1 (k<0))))).bind λe=>M (e,0)
def Fo(f e g:Int):Option (Int×Int):=e? (ite (¬(aa b! (f+(aa b! (I' e 1000000))))<(-2000000000000000)) (M (D1 (2000000000000000<(aa b! (f+(aa b! (I' e 1000000)))))))<|M a29) λd=>ite d (M (0,3))<|e? (ite (1<(aa b! (f+(aa b! (I' e 1000000))))) (M (aa b! ((S! (aa b! (f+(aa b! (I' e 1000000)))) 2)+2)))<|ite ((aa b! (f+(aa b! (I' e 1000000))))<(-1)) (M (aa b! ((S! (aa b! (f+(aa b! (I' e 1000000)))) 2)-2)))<|M (S! (aa b! (f+(aa b! (I' e 1000000)))) 2)) λb=>(uf (aa b! ((aa b! (b*1000000))+(S! e 1000000))) 1000000 g).bind λa=>ite (¬a.2=0) (M (0,a.2))<|e? (ite (¬(aa b! ((aa b! ((aa b! (f+(aa b! (I' e 1000000))))-b))+a.1))<(-1000000000000000)) (M (D1 (1000000000000000<(aa b! ((aa b! ((aa b! (f+(aa b! (I' e 1000000))))-b))+a.1)))))<|M a29) λc=>ite c (M (0,3))<|M (aa b! ((aa b! ((aa b! (f+(aa b! (I' e 1000000))))-b))+a.1),0)
def Kj(j:po) (l k:Int):u3 (Int×Int×Int) (Int×Int) (Int×Int):=λ(b,c,d)=>ite (d<a00 j.Rows) (e? ((e! j.Rows d).bind λa=>e? ((Ac a.ai l).bind λi=>ite i (M (D1 ((min a.Hi k)<=(max a.Lo 0))))<|M a29) λf=>ite f (M (Sum.inl (b,c)))<|(zi (aa b! ((min a.Hi k)-(max a.Lo 0))) a.N).bind λe=>ite (e.2.2=a30) (M (Sum.inr (v? (0,3))))<|M (Sum.inl (aa b! (b+e.1),aa b! (c+e.2.1)))) λz=>match z with |.inr v=>M v |.inl (g,h)=>M (n? (g,h,aa b! (d+1))))<|M (o? (b,c))
def Bo(h:po) (j i d:Int):Option (Int×Int):=e? (ite (¬d<0) (M (D1 (5<d)))<|M a29) λe=>ite e (M (0,1))<|e? (ite (h.ap.a=3/\h.ap.s=0) (M (!((h.Value.a==4)&&(h.Value.s==0))))<|M a29) λf=>ite f (M (0,8))<|e? (ite (¬i<(-1000000000000000)) (M (D1 (1000000000000000<i)))<|M a29) λg=>ite g (M (0,3))<|(ja (Kj h j i) (0,0,0)).bind λy=>match y with |.inr v=>M v |.inl (b,c)=>(Fo b c d).bind λa=>M (a.1,a.2)
def Zg(a:Bool):Option bz:=ite a (M (bz.mk 1 0 1))<|M (bz.mk 1 0 0)
def Jl(b:Int):Option Bool:=e? (ite (0<=b) (M (D1 (b<=109572)))<|M a30) λa=>M a
def Mm(c:Int):u3 Int Int Unit:=λa=>(Vh (aa b! (a+1))).bind λb=>ite (b<=c) (M (n? (aa b! (a+1))))<|M (o? a)
def Lm(d:Int):u3 (Int×Int) Unit (Int×Int×Int):=λ(c,a)=>ite (a<12) ((qd d (aa b! (a+1))).bind λb=>ite (c<b) (M (v? (d,aa b! (a+1),aa b! (c+1))))<|M (n? (aa b! (c-b),aa b! (a+1))))<|M (o? ())
def Il(d:Int):Option (Int×Int×Int):=(Jl d).bind λb=>ite (b=a30) (M (0,0,0))<|(ja (Mm d) (aa b! (1900+(aa b! (I' d 366))))).bind λy=>match y with |.inr _=>u4 |.inl a=>(Vh a).bind λc=>(ja (Lm a) (aa b! (d-c),0)).bind λy=>match y with |.inr v=>M v |.inl _=>M (0,0,0)
def pq(d:Int) (c:bz):Option bz:=ite (d=10) (M (bz.mk c.a 0 (aa b! (-c.N))))<|ite (d=25) ((Zg (c.N==0)).bind λb=>M b)<|(Il c.N).bind λa=>ite (d=31) (M (bz.mk 2 0 a.1))<|M (bz.mk 2 0 a.2.1)
def Cr(o p n h:Int):Option (Int×Int):=(fh h).bind λj=>ite (j=a30) (M (0,1))<|ite (n=0) (M (0,12))<|e? ((vf o 1000000000000000).bind λk=>ite (k=a30) ((vf p 1000000000).bind λl=>ite (l=a30) ((vf n 1000000000).bind λm=>M m)<|M a29)<|M a29) λi=>ite i (M (0,3))<|(Ke o).bind λe=>(Ke p).bind λf=>(Je e f).bind λa=>(Ke n).bind λb=>ite (b<=a.1) (M (0,3))<|(Rf a.1 a.2 b).bind λc=>ite (1000000000000000<c.1) (M (0,3))<|(ef c.1 c.2 b (!((!((D1 (o<0))==(D1 (p<0))))==(D1 (n<0)))) h).bind λd=>ite (1000000000000000<d) (M (0,3))<|(gp d (!((!((D1 (o<0))==(D1 (p<0))))==(D1 (n<0))))).bind λg=>M (g,0)
def uq(b c d:Int):Option (Int×Int):=(Cr b c 1000000 d).bind λa=>M (a.1,a.2)
def xr(c d:Int):Option (Int×Int):=(Je (aa .u64 (max c (aa b! (-c)))) (aa .u64 (max d (aa b! (-d))))).bind λa=>e? (ite (a.1=0) (M (D1 (1000000000000000<a.2)))<|M a29) λb=>ite b (M (0,3))<|ite (¬(D1 (c<0))=(D1 (d<0))) (M (aa b! (-(aa b! a.2)),0))<|M (aa b! a.2,0)
def Wk(b:Int):Option Bool:=e? (ite (0<=b) (M (D1 (b<=5)))<|M a30) λa=>M a
def Bj(b c:Int):Option Bool:=e? (ite (¬c<b) (M (D1 (b<(aa b! (-c)))))<|M a29) λa=>M a
def EA(g h i:Int):Option (Int×Int):=(Wk i).bind λd=>ite (d=a30) (M (0,1))<|e? ((Bj g 1000000000).bind λe=>ite (e=a30) ((Bj h 1000000000).bind λf=>M f)<|M a29) λc=>ite c (M (0,3))<|(uf (aa b! (g*h)) 1000000 i).bind λa=>ite (¬a.2=0) (M (0,a.2))<|(Bj a.1 1000000000).bind λb=>ite b (M (0,3))<|M (a.1,0)
def Lp(g f h:Int):Option (Int×Int):=(fh h).bind λd=>ite (d=a30) (M (0,1))<|ite (f<1) (M (0,12))<|e? ((vf g 1000000000000000).bind λe=>ite (e=a30) (M (D1 (1000000000000000<f)))<|M a29) λc=>ite c (M (0,3))<|(uf g f h).bind λa=>ite (¬a.2=0) (M (0,a.2))<|(vf (aa b! (a.1*f)) 1000000000000000).bind λb=>ite b (M (0,3))<|M (aa b! (a.1*f),0)
def Qp(f d e:Int) (b:Bool) (a:Int):Option Bool:=ite (d=0) (M a30)<|ite (a=0) (M b)<|ite (a=1) (M (!b))<|ite (a=3) (M a29)<|ite (a=4) (M (D1 ((aa .u64 (e-d))<=d)))<|ite (a=5) (e? (ite (¬(aa .u64 (e-d))<d) (ite (d=(aa .u64 (e-d))) (M ((S! f 2)==1))<|M a30)<|M a29) λc=>M c)<|M a30
def ko(k j l:Int):Option (Int×Int):=(Wk l).bind λg=>ite (g=a30) (M (0,1))<|ite (j=0) (M (0,12))<|e? ((Bj k 1000000000000000).bind λh=>ite (h=a30) ((Bj j 1000000000000000).bind λi=>M i)<|M a29) λf=>ite f (M (0,3))<|(Je (aa .u64 (max k (aa b! (-k)))) 1000000).bind λe=>ite ((aa .u64 (max j (aa b! (-j))))<=e.1) (M (0,3))<|(Rf e.1 e.2 (aa .u64 (max j (aa b! (-j))))).bind λa=>ite (1000000000<a.1) (M (0,3))<|e? ((Qp a.1 a.2 (aa .u64 (max j (aa b! (-j)))) (!((D1 (k<0))==(D1 (j<0)))) l).bind λd=>ite d (M (aa b! ((aa b! a.1)+1)))<|M (aa b! a.1)) λb=>ite (1000000000<b) (M (0,3))<|e? (ite (¬(D1 (k<0))=(D1 (j<0))) (M (aa b! (-b)))<|M b) λc=>M (c,0)
def Lg(l:ia) (k m:bz):Option (bz×Int):=e? (ite (l.Op=13) ((xr k.N m.N).bind λg=>M (k.a,g.1,g.2))<|e? (ite (l.Op=14) (M (k.a==3))<|M a30) λj=>ite j ((uq k.N m.N l.N).bind λh=>M (k.a,h.1,h.2))<|ite (l.Op=14) ((EA k.N m.N l.N).bind λi=>M (k.a,i.1,i.2))<|ite (l.Op=16) ((Lp k.N m.N l.N).bind λa=>M (k.a,a.1,a.2))<|ite (m.a=2) ((uf k.N m.N l.N).bind λb=>M (k.a,b.1,b.2))<|(ko k.N m.N l.N).bind λc=>M (4,c.1,c.2)) λ(d,e,f)=>M (bz.mk d 0 e,f)
def Hg(h g:Int):Option (Int×Int):=e? ((Jl h).bind λf=>ite f (ite (¬g<(-3600)) (M (D1 (3600<g)))<|M a29)<|M a29) λd=>ite d (M (0,3))<|(Il h).bind λa=>e? (ite (¬(aa b! ((aa b! ((aa b! ((aa b! ((aa b! (a.1-1900))*12))+a.2.1))-1))+g))<0) (M (D1 (3599<(aa b! ((aa b! ((aa b! ((aa b! ((aa b! (a.1-1900))*12))+a.2.1))-1))+g)))))<|M a29) λe=>ite e (M (0,3))<|(qd (aa b! (1900+(aa b! (I' (aa b! ((aa b! ((aa b! ((aa b! ((aa b! (a.1-1900))*12))+a.2.1))-1))+g)) 12)))) (aa b! ((S! (aa b! ((aa b! ((aa b! ((aa b! ((aa b! (a.1-1900))*12))+a.2.1))-1))+g)) 12)+1))).bind λc=>(fj (aa b! (1900+(aa b! (I' (aa b! ((aa b! ((aa b! ((aa b! ((aa b! (a.1-1900))*12))+a.2.1))-1))+g)) 12)))) (aa b! ((S! (aa b! ((aa b! ((aa b! ((aa b! ((aa b! (a.1-1900))*12))+a.2.1))-1))+g)) 12)+1)) (min a.2.2 c)).bind λb=>M (b.1,b.2)
def ij(i j:Int):Option Int:=e? ((Jl i).bind λg=>ite g ((Jl j).bind λh=>ite h (M (D1 (j<i)))<|M a29)<|M a29) λf=>ite f (M 0)<|(Il i).bind λc=>(Il j).bind λd=>e? ((Hg i (aa b! (12*(aa b! (d.1-c.1))))).bind λe=>e? (ite (e.2=0) (M (D1 (j<e.1)))<|M a29) λa=>ite a (M (aa b! ((aa b! (d.1-c.1))-1)))<|M (aa b! (d.1-c.1))) λb=>M (max b 0)
def vc(u:ia) (v w:bz):Option (bz×Int):=e? (ite (u.Op=11) (M a29)<|M (u.Op==27)) λs=>ite s (M (bz.mk v.a 0 (aa b! (v.N+w.N)),0))<|ite (u.Op=12) (M (bz.mk v.a 0 (aa b! (v.N-w.N)),0))<|e? (ite (u.Op=13) (M a29)<|ite (u.Op=14) (M a29)<|ite (u.Op=15) (M a29)<|M (u.Op==16)) λt=>ite t ((Lg u v w).bind λe=>M (e.1,e.2))<|e? (ite (u.Op=17) (M a29)<|M (u.Op==18)) λg=>ite g (ite ((u.Op==17)=(D1 (w.N<v.N))) (M (w,0))<|M (v,0))<|ite (u.Op=19) ((Zg (v.N==w.N)).bind λn=>M (n,0))<|ite (u.Op=20) ((Zg (v.N !=w.N)).bind λo=>M (o,0))<|ite (u.Op=21) ((Zg (D1 (v.N<w.N))).bind λp=>M (p,0))<|ite (u.Op=22) ((Zg (D1 (v.N<=w.N))).bind λq=>M (q,0))<|ite (u.Op=23) (e? (ite (v.N=1) ((Zg (w.N==1)).bind λa=>M (a.a,a.s,a.N))<|(Zg a30).bind λb=>M (b.a,b.s,b.N)) λ(h,i,j)=>M (bz.mk h i j,0))<|ite (u.Op=24) (e? (if¬v.N=1 then(Zg (w.N==1)).bind λc=>M (c.a,c.s,c.N)else(Zg a29).bind λd=>M (d.a,d.s,d.N)) λ(k,l,m)=>M (bz.mk k l m,0))<|ite (u.Op=28) ((Hg v.N w.N).bind λf=>M (bz.mk 5 0 f.1,f.2))<|ite (u.Op=29) (M (bz.mk 2 0 (aa b! (w.N-v.N)),0))<|(ij v.N w.N).bind λr=>M (bz.mk 2 0 r,0)
def Ja(u:ia) (v:List bz) (x:ll):Option (bz×Int):=e? (ite (u.Op=1) (M a29)<|ite (u.Op=2) (M a29)<|ite (u.Op=3) (M a29)<|ite (u.Op=4) (M a29)<|M (u.Op==5)) λs=>ite s (M (bz.mk u.Op 0 u.N,0))<|ite (u.Op=6) (M (bz.mk 6 (aa b! (I' u.N 16)) (S! u.N 16),0))<|ite (u.Op=7) ((e! x.ad u.N).bind λt=>M (t,0))<|ite (u.Op=8) ((e! x.f u.N).bind λg=>M (g,0))<|ite (u.Op=9) (M (bz.mk 5 0 x.g,0))<|ite (u.Op=35) (M (bz.mk 2 0 (a00 x.w:Int),0))<|e? (ite (u.Op=36) (M a29)<|ite (u.Op=37) (M a29)<|ite (u.Op=38) (M a29)<|M (u.Op==39)) λf=>ite f ((Ph u x).bind λb=>M (b.1,b.2))<|ite (u.Op=33) ((e! x.Tables u.N).bind λa=>(e! v 0).bind λh=>(Sr a x.g h.N).bind λc=>ite (c.2=a30) (M (bz.mk 0 0 0,6))<|(e! a.Rows c.1).bind λi=>M (bz.mk a.Value.a a.Value.s i.N,0))<|ite (u.Op=34) ((e! x.Tables (aa b! (I' u.N 8))).bind λj=>(e! v 0).bind λk=>(Bo j x.g k.N (S! u.N 8)).bind λd=>M (bz.mk 3 0 d.1,d.2))<|ite ((a00 v:Int)=1) ((e! v 0).bind λl=>(pq u.Op l).bind λm=>M (m,0))<|if(a00 v:Int)=2 then(e! v 0).bind λn=>(e! v 1).bind λo=>(vc u n o).bind λe=>M (e.1,e.2)else(e! v 0).bind λp=>ite (p.N=1) ((e! v 1).bind λq=>M (q,0))<|(e! v 2).bind λr=>M (r,0)
def Qj(j:ia) (k:List bz) (l:ll):Option (bz×Int):=e? ((Am j).bind λf=>ite f ((Rj j.Op).bind λg=>M ((a00 k:Int) !=g))<|M a29) λe=>ite e (M (bz.mk 0 0 0,2))<|(ku j l).bind λh=>ite (h=a30) (M (bz.mk 0 0 0,6))<|e? ((oj k).bind λi=>ite i ((ta j k l).bind λc=>M (!c))<|M a29) λb=>ite b (M (bz.mk 0 0 0,8))<|(Ja j k l).bind λa=>ite (¬a.2=0) (M (bz.mk 0 0 0,a.2))<|(kc a.1).bind λd=>ite (d=a30) (M (bz.mk 0 0 0,3))<|M (a.1,0)
def td(h:te) (g:List Int) (c:(te->Int->Option (bz×Int))):u3 (List bz×Int) (List bz) (bz×Int):=λ(d,a)=>ite (a<a00 g) ((e! g a).bind λe=>(c h e).bind λb=>ite (¬b.2=0) (M (v? (bz.mk 0 0 0,b.2)))<|(e! d a).bind λi=>(put d a b.1).bind λf=>M (n? (f,aa b! (a+1))))<|M (o? d)
def Mc(a:(te->Int->Option (bz×Int))) (b:(te->ia->(List Int)->Option (bz×Int))) (R631:(te->Int->Option (bz×Int))) (j:te) (k:Int):Option (bz×Int):=(e! j.nodes k).bind λc=>(Xe j k).bind λe=>e? (ite (c.Op=23) (M a29)<|ite (c.Op=24) (M a29)<|M (c.Op==26)) λh=>ite h ((b j c e).bind λg=>M (g.1,g.2))<|(uz 24 (bz.mk 0 0 0) (a00 e:Int) (a00 e:Int)).bind λi=>(ja (td j e a) (i,0)).bind λy=>match y with |.inr v=>M v |.inl f=>(Qj c f j.env).bind λd=>M (d.1,d.2)
def bg(a:(te->Int->Option (bz×Int))) (R576:(te->ia->(List Int)->Option (bz×Int))) (b:(te->Int->Option (bz×Int))) (l:te) (m:ia) (n:List Int):Option (bz×Int):=ite (¬m.N=0) (M (bz.mk 0 0 0,2))<|(e! n 0).bind λj=>(b l j).bind λe=>ite (¬e.2=0) (M (bz.mk 0 0 0,e.2))<|e? (ite (m.Op=26) (M (e.1.N==1))<|M a30) λi=>ite i ((e! n 1).bind λk=>(a l k).bind λh=>M (h.1,h.2))<|ite (m.Op=26) ((e! n 2).bind λf=>(a l f).bind λc=>M (c.1,c.2))<|if(m.Op==23)=(e.1.N==0)then M (e.1,0)else(e! n 1).bind λg=>(b l g).bind λd=>M (d.1,d.2)
def Jc(a:(te->Int->Option (bz×Int))) (R576:(te->ia->(List Int)->Option (bz×Int))) (R631:(te->Int->Option (bz×Int))) (e:te) (f:Int):Option (bz×Int):=(a e f).bind λb=>ite (¬b.2=0) (M (bz.mk 0 0 0,b.2))<|e? (ite (b.1.a=1) ((kc b.1).bind λd=>M (!d))<|M a29) λc=>ite c (M (bz.mk 0 0 0,8))<|M (b.1,0)
def ca:Nat->(te->Int->Option (bz×Int))×(te->ia->(List Int)->Option (bz×Int))×(te->Int->Option (bz×Int)) |0=>(λ_ _=>u4,λ_ _ _=>u4,λ_ _=>u4) |n+1=>(Mc (ca n).1 (ca n).2.1 (ca n).2.2,bg (ca n).1 (ca n).2.1 (ca n).2.2,Jc (ca n).1 (ca n).2.1 (ca n).2.2)
def ck(a:te) (b:Int):Option (bz×Int):=(ca Ww).1 a b
def Zu(a:te) (b:ia) (c:List Int):Option (bz×Int):=(ca Ww).2.1 a b c
def vr(a:te) (b:Int):Option (bz×Int):=(ca Ww).2.2 a b
def Om(c:List ia) (d:ll):Option (bz×Int):=(lu c).bind λa=>ite (¬a.2=0) (M (bz.mk 0 0 0,a.2))<|(ck (te.mk c a.1 d) (aa b! ((a00 c:Int)-1))).bind λb=>M (b.1,b.2)
def Xl(k:fr) (l:ll) (m j:Int) (g:(List Int×List Int×List Int)):u3 (List Bool×Int) (List Bool) (Int×tk):=λ(c,a)=>ite (a<a00 g.1) (e? ((e! g.1 a).bind λh=>(e! k.n h).bind λi=>if(a00 i.ak:Int)=0 then(e! c a).bind λo=>(put c a a29).bind λe=>M (Sum.inl e)else(Om i.ak l).bind λb=>ite (¬b.2=0) (M (Sum.inr (v? (0,tk.mk b.2 m j h))))<|(e! c a).bind λp=>(put c a (b.1.N==1)).bind λf=>M (Sum.inl f)) λz=>match z with |.inr v=>M v |.inl d=>M (n? (d,aa b! (a+1))))<|M (o? c)
def dh(h:fr) (i:ll) (j e:Int):Option (Int×tk):=(Gk h e i.g).bind λb=>(uz 1 a30 (a00 b.1:Int) (a00 b.1:Int)).bind λf=>(ja (Xl h i j e b) (f,0)).bind λy=>match y with |.inr v=>M v |.inl c=>(Fm b.2.1 b.2.2 c).bind λa=>ite (a<0) (M (a,tk.mk 0 0 0 0))<|(e! b.1 a).bind λd=>M (d,tk.mk 0 0 0 0)
def Ve(a:fr):Option (List Int×Int):=(Fc a).bind λx=>M (wx x)
def bf(q:fr) (o:ll) (p:Int) (m:List Bool) (l:(List Int×Int)):u3 (List bz×List Int×Int) (List bz×List Int) ((List Int×tk)×ll):=λ(b,e,h)=>ite (h<a00 l.1) (e? ((e! l.1 h).bind λc=>(e! m c).bind λn=>ite (n=a30) (M (Sum.inl (b,e)))<|(dh q (ll.mk o.g o.ad b o.w o.a0 o.Tables) p c).bind λa=>ite (¬a.2.Code=0) (M (Sum.inr (v? (([],a.2),ll.mk o.g o.ad b o.w o.a0 o.Tables))))<|ite (a.1=(-1)) (M (Sum.inr (v? (([],tk.mk 10 p c (-1)),ll.mk o.g o.ad b o.w o.a0 o.Tables))))<|ite (a.1=(-2)) (M (Sum.inr (v? (([],tk.mk 11 p c (-1)),ll.mk o.g o.ad b o.w o.a0 o.Tables))))<|(e! q.n a.1).bind λi=>(Om i.Value (ll.mk o.g o.ad b o.w o.a0 o.Tables)).bind λd=>ite (¬d.2=0) (M (Sum.inr (v? (([],tk.mk d.2 p c a.1),ll.mk o.g o.ad b o.w o.a0 o.Tables))))<|(e! b c).bind λr=>(put b c d.1).bind λj=>(e! e c).bind λs=>(put e c a.1).bind λk=>M (Sum.inl (j,k))) λz=>match z with |.inr v=>M v |.inl (f,g)=>M (n? (f,g,aa b! (h+1))))<|M (o? (b,e))
def jb(h:fr) (i:ll) (j:Int) (c:List Bool):Option ((List Int×tk)×ll):=(uz 24 (bz.mk 0 0 0) (a00 h.f:Int) (a00 h.f:Int)).bind λd=>(uz 8 0 (a00 h.f:Int) (a00 h.f:Int)).bind λe=>(Ve h).bind λf=>(ja (bf h i j c f) (d,e,0)).bind λy=>match y with |.inr v=>M v |.inl (a,b)=>M ((b,tk.mk 0 0 0 0),ll.mk i.g i.ad a i.w i.a0 i.Tables)
def Wl(a:b8):u3 (List ek×Int) (List ek) Unit:=λ(e,d)=>ite (d<a00 a.memberScope.f) ((e! a.memberScope.f d).bind λb=>(app 16 e ([b.ao])).bind λc=>M (n? (c,aa b! (d+1))))<|M (o? e)
def Vl(j:ej) (i:vk) (h:b8):u3 ((List (List bz))×List b7×Int) ((List (List bz))×List b7) (b9×ll×tk):=λ(g,c,b)=>ite (b<a00 i.w) ((e! i.w b).bind λd=>(jb h.memberScope (ll.mk i.g d ([]) ([]) ([]) j.Tables) b h.memberDefs).bind λa=>ite (¬a.1.2.Code=0) (M (v? (b9.mk ([]) ([]) ([]),ll.mk 0 ([]) ([]) ([]) ([]) ([]),a.1.2)))<|(app 24 g ([a.2.f])).bind λe=>(app 48 c ([b7.mk a.2.f a.1.1])).bind λf=>M (n? (e,f,aa b! (b+1))))<|M (o? (g,c))
def bh(i:ej) (j:Int) (h:vk) (b:b8):Option (b9×ll×tk):=(ja (Wl b) (([]:List ek),0)).bind λy=>match y with |.inr _=>u4 |.inl e=>(ja (Vl i h b) (([]:List (List bz)),([]:List b7),0)).bind λy=>match y with |.inr v=>M v |.inl (c,d)=>(jb b.scope (ll.mk h.g h.ad ([]) c e i.Tables) (-1) b.defs).bind λa=>ite (¬a.1.2.Code=0) (M (b9.mk ([]) ([]) ([]),ll.mk 0 ([]) ([]) ([]) ([]) ([]),a.1.2))<|M (b9.mk a.2.f a.1.1 d,a.2,tk.mk 0 0 0 0)
def kq(e:List Int):u3 (List Bool×Int) (List Bool) Unit:=λ(c,a)=>ite (a<a00 e) ((e! e a).bind λb=>(e! c b).bind λf=>(put c b a29).bind λd=>M (n? (d,aa b! (a+1))))<|M (o? c)
def Xh(l:fr) (d:List Bool):u3 (List Int×Int) (List Int) Unit:=λ(b,c)=>ite (c<a00 l.n) (e? ((e! l.n c).bind λa=>e? (ite (¬a.ac<0) (ite (¬(a00 l.f:Int)<=a.ac) ((e! d a.ac).bind λg=>M (!g))<|M a29)<|M a29) λe=>ite e (M b)<|(Of a.ak).bind λh=>(Of a.Value).bind λi=>(app 8 b h.2.2).bind λj=>(app 8 j i.2.2).bind λk=>M k) λf=>M (n? (f,aa b! (c+1))))<|M (o? b)
def Ti(i:fr) (j:Int):Option (List Int):=e? (ite (¬j<0) (M (D1 ((a00 i.f:Int)<=j)))<|M a29) λe=>ite e (M ([]))<|(uz 1 a30 (a00 i.f:Int) (a00 i.f:Int)).bind λd=>(e! d j).bind λk=>(put d j a29).bind λf=>(Fc i).bind λg=>(lj g j).bind λh=>(ja (kq h) (f,0)).bind λy=>match y with |.inr _=>u4 |.inl a=>(ja (Xh i a) (([]:List Int),0)).bind λy=>match y with |.inr _=>u4 |.inl b=>(Yh b).bind λc=>M c
def En(k:ej) (l:Int):Option (ByteArray×Int×List mu×List mu×List ke×ByteArray×Int×List mu×List mu×List ke×List Bool×List Bool):=(e! k.e l).bind λa=>(uz 1 a30 (a00 a.f:Int) (a00 a.f:Int)).bind λi=>e? (ite (0<=a.ah) ((e! k.e a.ah).bind λb=>(uz 1 a30 (a00 b.f:Int) (a00 b.f:Int)).bind λj=>M (b.q,b.ah,b.ad,b.f,b.n,j))<|M (z? #[],0,([]:List mu),([]:List mu),([]:List ke),([]:List Bool))) λ(g,h,c,d,e,f)=>M (a.q,a.ah,a.ad,a.f,a.n,g,h,c,d,e,i,f)
def Ul(c:List Int):u3 (List Bool×Int) (List Bool) Unit:=λ(a,b)=>ite (b<a00 c) ((e! c b).bind λd=>(e! a d).bind λf=>(put a d a29).bind λe=>M (n? (e,aa b! (b+1))))<|M (o? a)
def Sl(c:List Int):u3 (List Bool×Int) (List Bool) Unit:=λ(a,b)=>ite (b<a00 c) ((e! c b).bind λd=>(e! a d).bind λf=>(put a d a29).bind λe=>M (n? (e,aa b! (b+1))))<|M (o? a)
def ei(d:ByteArray) (e:Int) (f g:List mu) (h:List ke) (b:List Bool) (a:Int):Option (List Bool):=(e! b a).bind λk=>(put b a a29).bind λi=>(ld (fr.mk d e f g h) a).bind λj=>(ja (Sl j) (i,0)).bind λy=>match y with |.inr _=>u4 |.inl c=>M c
def Tl(d:ByteArray) (e:Int) (f g:List mu) (h:List ke) (c:List Int):u3 (List Bool×Int) (List Bool) Unit:=λ(b,a)=>ite (a<a00 c) ((e! c a).bind λj=>(ei d e f g h b j).bind λi=>M (n? (i,aa b! (a+1))))<|M (o? b)
def Rl(g:Int) (a:ByteArray) (b:Int) (c d:List mu) (e:List ke) (j:ByteArray) (k:Int) (l m:List mu) (n:List ke) (f o:List Bool):Option (List Bool×List Bool):=(e! f g).bind λs=>(put f g a29).bind λp=>(ld (fr.mk a b c d e) g).bind λq=>(ja (Ul q) (p,0)).bind λy=>match y with |.inr _=>u4 |.inl h=>(Ti (fr.mk a b c d e) g).bind λr=>(ja (Tl j k l m n r) (o,0)).bind λy=>match y with |.inr _=>u4 |.inl i=>M (h,i)
def Ce(t:ej) (u:Int) (v:vk) (l:Int):Option (bz×Int×tk):=(Nc t u v a29 l).bind λs=>ite (¬s.Code=0) (M (bz.mk 0 0 0,0,s))<|(En t u).bind λ(b,c,d,e,f,g,h,i,j,k,m,n)=>(Rl l b c d e f g h i j k m n).bind λ(o,p)=>(bh t u v (b8.mk (fr.mk b c d e f) (fr.mk g h i j k) o p)).bind λa=>ite (¬a.2.2.Code=0) (M (bz.mk 0 0 0,0,a.2.2))<|(e! a.1.bh l).bind λq=>(e! a.1.n l).bind λr=>M (q,r,tk.mk 0 0 0 0)
def Si(g:ej) (h:na) (k:kv) (e:List js) (f:Int):u3 (Int×Int×Int) (Int×Int) (Int×Int):=λ(i,j,b)=>ite (b<a00 e) ((e! e b).bind λa=>(Qh g h a.r f).bind λc=>ite (¬c.2=0) (M (v? (0,c.2)))<|(Ce g h.Scope c.1 k.ac).bind λd=>ite (¬d.2.2.Code=0) (M (v? (0,d.2.2.Code)))<|M (n? (aa b! (i+(aa b! (d.1.N*(aa b! (a.To-a.r))))),aa b! (j+(aa b! (a.To-a.r))),aa b! (b+1))))<|M (o? (i,j))
def Qo(g:ej) (h:na) (f:kv) (d:List js) (e:Int):Option (Int×Int):=(ja (Si g h f d e) (0,0,0)).bind λy=>match y with |.inr v=>M v |.inl (b,c)=>(uf b c f.a1).bind λa=>ite (¬a.2=0) (M (0,a.2))<|M (max a.1 0,0)
def C?(a:Int):Option Bool:=M a30
def F?(d e:Int):Option Bool:=e? ((C? d).bind λb=>ite b ((C? e).bind λc=>ite c (M (D1 (d<e)))<|M a29)<|M (D1 (d<e))) λa=>M a
def Uh(a:Int):Option Bool:=M a30
def Hb(e:List Int) (f:Int):u3 (Int×Int) Int Unit:=λ(c,d)=>ite (c<d) ((e! e (aa b! (oaj (aa .u64 (aa b! (c+d))) 2))).bind λa=>(F? a f).bind λb=>ite b (M (n? (aa b! ((aa b! (oaj (aa .u64 (aa b! (c+d))) 2))+1),d)))<|M (n? (c,aa b! (oaj (aa .u64 (aa b! (c+d))) 2))))<|M (o? c)
def ab(f:List Int) (g:Int):Option (Int×Bool):=(ja (Hb f g) (0,(a00 f:Int))).bind λy=>match y with |.inr _=>u4 |.inl b=>e? (ite (b<a00 f) ((e! f b).bind λa=>ite (¬a=g) ((Uh a).bind λd=>ite d ((Uh g).bind λe=>M e)<|M a30)<|M a29)<|M a30) λc=>M (b,c)
def Yp(i:js) (g:List Int):u3 (Int×List js×Int) (Int×List js) Unit:=λ(h,c,a)=>e? (ite (a<a00 g) ((e! g a).bind λf=>M (D1 (f<i.To)))<|M a30) λe=>ite e ((e! g a).bind λd=>(app 16 c ([js.mk h d])).bind λb=>M (n? (d,b,aa b! (a+1))))<|M (o? (h,c))
def Ro(e:js) (f:List Int):Option (List js):=(ab f (aa b! (e.r+1))).bind λd=>(ja (Yp e f) (e.r,([]:List js),d.1)).bind λy=>match y with |.inr _=>u4 |.inl (a,b)=>(app 16 b ([js.mk a e.To])).bind λc=>M c
def jg(n:ej) (o:na) (p:kv) (l m:Int) (f:List Int):u3 (List nb×Bool×Int) (List nb) Unit:=λ(b,c,a)=>ite (a<l) (e? ((Kq a).bind λd=>ite (¬d.2=0) (M (c,0,3))<|ite c ((Ro d.1 f).bind λj=>(Qo n o p j m).bind λe=>M (a29,e.1,e.2))<|M (a30,0,1)) λ(g,h,i)=>(app 24 b ([nb.mk a h i])).bind λk=>M (n? (k,g,aa b! (a+1))))<|M (o? b)
def Nf(j:ej) (k:na) (l:kv) (a b f:Int):Option (List nb):=e? (ite (¬a<0) (ite (¬b<a) (ite (¬3600<b) (M (D1 (120<(aa b! (b-a)))))<|M a29)<|M a29)<|M a29) λg=>ite g (M ([]))<|(uz 24 (nb.mk 0 0 0) 0 (aa b! (b-a))).bind λm=>(qf j k l).bind λh=>e? (ite h ((mc j k f).bind λi=>M (a29,i))<|M (a30,([]:List Int))) λ(d,e)=>(ja (jg j k l b f e) (([]:List nb),d,a)).bind λy=>match y with |.inr _=>u4 |.inl c=>M c
def Ks(l:List cb) (w:nb):oe:=oe.mk w.d (ite (w.Code=0) w.ae<|mK w.d (l.filter λp=>p.d==w.d) [1,2,3]) (mK w.d (l.filter λp=>p.d==w.d) [1,2,3]) (v7 w.d (l.filter λp=>p.d==w.d))
def On(a:List nb) (b:List cb):Option (List oe):=ite (a00 a<=1048576/\b.length<=1048576/\(a.map λw=>w.d).Nodup) (M (a.map (Ks b))) u4
def Xg(e:List ml) (d:Int):u3 Int Unit (Int×Bool):=λc=>ite (0<=c) ((e! e c).bind λa=>e? (ite (a.av=3) (ite (a.r<=d) (M (D1 (d<a.To)))<|M a30)<|M a30) λb=>ite b (M (v? (a.ae,a29)))<|M (n? (aa b! (c-1))))<|M (o? ())
def so(a:List ml) (b:Int):Option (Int×Bool):=(ja (Xg a b) (aa b! ((a00 a:Int)-1))).bind λy=>match y with |.inr v=>M v |.inl _=>M (0,a30)
def Xi(g:List nb) (i:List ml):u3 (List nb×Int) (List nb) Unit:=λ(h,f)=>ite (f<a00 g) ((e! g f).bind λa=>e? ((so i a.d).bind λb=>ite b.2 (M (b.1,0))<|M (a.ae,a.Code)) λ(c,d)=>(app 24 h ([nb.mk a.d c d])).bind λe=>M (n? (e,aa b! (f+1))))<|M (o? h)
def Fj(b:List nb) (c:List ml):Option (List nb):=(ja (Xi b c) (([]:List nb),0)).bind λy=>match y with |.inr _=>u4 |.inl a=>M a
def qb(i:ej) (g:kv) (h:ic) (a d:Int):Option (List oe):=e? (ite (¬a<g.aj) (M (D1 (3599<a)))<|M a29) λc=>ite c (M ([]))<|(Nf i h.j g g.aj (aa b! (a+1)) d).bind λb=>ite ((a00 b:Int)=0) (M ([]))<|(Fj b h.af).bind λe=>(On e h.u).bind λf=>M f
def Df(j:List ml):u3 (List Int×Int) (List Int) Unit:=λ(i,d)=>ite (d<a00 j) (e? ((e! j d).bind λa=>e? (ite (¬a.av=1) (M (a.av !=2))<|M a30) λh=>ite h (M i)<|ite ((max a.r 0)<(min a.To 3600)) ((e! i (max a.r 0)).bind λe=>(put i (max a.r 0) (aa b! (e+1))).bind λb=>(e! b (min a.To 3600)).bind λf=>(put b (min a.To 3600) (aa b! (f-1))).bind λg=>M g)<|M i) λc=>M (n? (c,aa b! (d+1))))<|M (o? i)
def Cf(e:List Int):u3 (List Int×Int×Int) (List Int) Unit:=λ(b,c,a)=>ite (a<3600) (e? ((e! e a).bind λd=>ite (0<(aa b! (c+d))) ((app 8 b ([a])).bind λh=>M (h,aa b! (c+d)))<|M (b,aa b! (c+d))) λ(f,g)=>M (n? (f,g,aa b! (a+1))))<|M (o? b)
def Jb(d:List ml):Option (List Int):=(uz 8 0 3601 3601).bind λc=>(ja (Df d) (c,0)).bind λy=>match y with |.inr _=>u4 |.inl a=>(ja (Cf a) (([]:List Int),0,0)).bind λy=>match y with |.inr _=>u4 |.inl b=>M b
def Qd(a:oe):Option Int:=M (max (aa b! ((aa b! (a.a4-a.bd))-a.bc)) 0)
def Na(a:List ka):Option (List ka):=ite (a00 a*72<=140737488355328) (M a) u4
def Nb(a:List ka):Option (List ka):=Na a
def fb(a:List cb):Option (List cb):=ite (a00 a<=1099511627776) (M a) u4
def xb(a:List cb):Option (List cb):=fb a
def sb(a:List ml):Option (List ml):=ite (a00 a<=1099511627776) (M a) u4
def Db(a:List ml):Option (List ml):=sb a
def qm(a:oe):Option Int:=M (max (aa b! (a.bd-a.a4)) 0)
def xf(b:Int) (c:kv):Option Int:=ite (b<1) (M 0)<|(uq b c.bf 0).bind λa=>ite (¬a.2=0) (M 0)<|M (max (min (aa b! (b-(max c.a5 0))) a.1) 0)
def Xk(a:List Int):u3 ((List (Int×Bool))×Int) (List (Int×Bool)) Unit:=λ(d,c)=>ite (c<a00 a) ((e! a c).bind λb=>M (n? (ZC b a29 d,aa b! (c+1))))<|M (o? d)
def qg(m:Int) (l:(List (Int×Bool))):u3 (Int×List cb×List oe) (Int×List cb) Unit:=λ(e,a,b)=>e? (ite (0<(a00 b:Int)) (M (D1 (0<e)))<|M a30) λf=>ite f (e? ((e! b 0).bind λc=>(Qd c).bind λd=>e? (ite (¬d<=0) (M ((Uq l c.d).getD a30))<|M a29) λg=>ite g (M (e,a))<|(app 32 a ([cb.mk m c.d 2 (min d e)])).bind λj=>M (aa b! (e-(min d e)),j)) λ(h,i)=>(jC b 1).bind λk=>M (n? (h,i,k)))<|M (o? (e,a))
def Dt(f:List oe) (d:Int) (c:(List (Int×Bool))) (e:Int):Option (List cb×Int):=(ja (qg d c) (e,([]:List cb),f)).bind λy=>match y with |.inr _=>u4 |.inl (a,b)=>M (b,a)
def Vt(f:List oe) (g:Int) (h:kv) (c:Int) (d:List Int):Option (List cb):=(ja (Xk d) (([]:List (Int×Bool)),0)).bind λy=>match y with |.inr _=>u4 |.inl b=>(xf g h).bind λe=>(Dt f c b e).bind λ(a,i)=>M a
def jo(k:List oe) (l h:Int):u3 (List cb×Int×Int) (List cb×Int) Unit:=λ(i,j,c)=>ite (c<a00 k) (e? ((e! k c).bind λe=>(qm e).bind λf=>e? (ite (¬l<e.d) (M (D1 (f<=0)))<|M a29) λg=>ite g (M (i,j))<|(app 32 i ([cb.mk h e.d 1 f])).bind λd=>M (d,aa b! (j+f))) λ(a,b)=>M (n? (a,b,aa b! (c+1))))<|M (o? (i,j))
def xu(g:List oe) (h:Int) (i:kv) (e:Int) (f:List Int):Option (List cb):=(ja (jo g h e) (([]:List cb),0,0)).bind λy=>match y with |.inr _=>u4 |.inl (a,b)=>(Vt g b i e f).bind λc=>(app 32 a c).bind λd=>M d
def zh(b:Int):Option Bool:=e? (ite (0<=b) (M (D1 (b<=109572)))<|M a30) λa=>M a
def dr(b:Int):Option Int:=(Jl b).bind λa=>ite (a=a30) (M (-1))<|M (S! b 7)
def Ih(d:ve) (e:Int):Option Bool:=(dr e).bind λa=>(Ead d.ba a).bind λb=>ite (¬(Aab b 1)=0) (M a30)<|(ab d.al e).bind λc=>M (!c.2)
def Ur(e:ve):u3 (Int×Int) Unit (Int×Int):=λ(c,d)=>ite (c<=109572) (e? ((Ih e c).bind λb=>ite (b=a30) (M (Sum.inl d))<|ite ((aa b! (d-1))=0) (M (Sum.inr (v? (c,0))))<|M (Sum.inl (aa b! (d-1)))) λz=>match z with |.inr v=>M v |.inl a=>M (n? (aa b! (c+1),a)))<|M (o? ())
def Pq(a:ve) (b c:Int):Option (Int×Int):=(ja (Ur a) (b,c)).bind λy=>match y with |.inr v=>M v |.inl _=>M (0,6)
def Av(d:ve) (e:Int):Option (Int×Int):=(tc d).bind λb=>ite (b=a30) (M (0,1))<|(Pb e).bind λc=>ite (c=a30) (M (0,3))<|(Pq d e 1).bind λa=>M (a.1,a.2)
def Gu(g:ve) (h f:Int):Option (Int×Int):=(tc g).bind λd=>ite (d=a30) (M (0,1))<|e? ((Pb h).bind λe=>ite e (ite (¬f<0) (M (D1 (365<f)))<|M a29)<|M a29) λc=>ite c (M (0,3))<|ite (f=0) ((Av g h).bind λb=>M (b.1,b.2))<|(Pq g (aa b! (h+1)) f).bind λa=>M (a.1,a.2)
def xk(b:ve) (c d:Int):Option Int:=(Gu b c d).bind λa=>ite (¬a.2=0) (M 109572)<|M a.1
def bu(n o p a f:Int) (b:kv):Option (ml×Int):=e? (ite (¬n<0) ((zh a).bind λk=>ite k ((zh f).bind λl=>ite l ((Pe o p).bind λm=>M (!m))<|M a29)<|M a29)<|M a29) λj=>ite j (M (ml.mk 0 0 0 0 0 0 0,3))<|ite (a<f) (M (ml.mk 0 0 0 0 0 0 0,14))<|e? ((tc b.am).bind λg=>ite g (ite (¬b.a7<0) (M (D1 (365<b.a7)))<|M a29)<|M a29) λc=>ite c (M (ml.mk 0 0 0 0 0 0 0,1))<|e? ((xk b.am f b.a7).bind λh=>ite (h<a) (M (a,6))<|(xk b.am a 60).bind λi=>M (i,1)) λ(d,e)=>M (ml.mk n o p a d e 0,0)
def zk(d c:Int):Option Bool:=ite (d=1) (e? (ite (¬c=2) (ite (¬c=4) (M (c==5))<|M a29)<|M a29) λa=>M a)<|ite (d=2) (e? (ite (¬c=3) (ite (¬c=4) (M (c==5))<|M a29)<|M a29) λb=>M b)<|M a30
def bj(e:ml) (f g b:Int):Option (ml×Int):=(zk e.av f).bind λd=>ite (d=a30) (M (ml.mk 0 0 0 0 0 0 0,13))<|ite (b<e.az) (M (ml.mk 0 0 0 0 0 0 0,9))<|e? (ite (e.a3<b) (ite (¬f=2) (M (f==3))<|M a29)<|M a30) λc=>ite c (M (ml.mk 0 0 0 0 0 0 0,14))<|e? (ite (¬g<0) (ite (¬1000000000000000<g) (ite (¬g=0) (M (f !=3))<|M a30)<|M a29)<|M a29) λa=>ite a (M (ml.mk 0 0 0 0 0 0 0,3))<|M (ml.mk e.Id e.r e.To e.az e.a3 f g,0)
def Af(l:Int):u3 (Int×List cb×List oe) (Int×List cb) Unit:=λ(k,d,e)=>e? (ite (0<(a00 e:Int)) (M (D1 (0<k)))<|M a30) λj=>ite j (e? ((e! e 0).bind λi=>(Qd i).bind λh=>e? (ite (¬h<=0) (M a30)<|M a29) λa=>ite a (M (k,d))<|(app 32 d ([cb.mk l i.d 3 (min h k)])).bind λf=>M (aa b! (k-(min h k)),f)) λ(b,c)=>(jC e 1).bind λg=>M (n? (b,c,g)))<|M (o? (k,d))
def Gr(c:List oe) (d e:Int):Option (List cb×Int):=(ja (Af e) (d,([]:List cb),c)).bind λy=>match y with |.inr _=>u4 |.inl (a,b)=>M (b,a)
def qo(d:List oe) (c e:Int):Option (List cb×Int):=ite (c<1) (M ([],0))<|(Gr d c e).bind λ(a,b)=>M (a,b)
def Eb(d:List oe) (e:(oe->Option Bool)):u3 Int Unit Int:=λc=>ite (c<a00 d) ((e! d c).bind λa=>(e a).bind λb=>ite b (M (v? c))<|M (n? (aa b! (c+1))))<|M (o? ())
def Ea(a:List oe) (b:(oe->Option Bool)):Option Int:=(ja (Eb a b) 0).bind λy=>match y with |.inr v=>M v |.inl _=>M (-1)
def Yb(a:oe) (b:wt):Option Bool:=M (a.d==b.d)
def Jo(d:ic):Option (List ka×List cb×List ml):=(Nb d.j.ab).bind λa=>(xb d.u).bind λb=>(Db d.af).bind λc=>M (a,b,c)
def Ko(f:ej) (e:ic) (b:wt) (d:List ka):Option (List ka×Int):=ite (¬b.a2.ar=b.g) (M (d,1))<|(app 72 d ([b.a2])).bind λa=>(bd f (na.mk e.j.Id e.j.Scope e.j.w a)).bind λc=>M (a,c.2)
def Mo(a b:List cb):Option (List cb×Int):=ite (4096<(aa b! ((a00 a:Int)+(a00 b:Int)))) (M (a,4))<|(app 32 a b).bind λc=>M (c,0)
def uk(m:ej) (l:kv) (k:ic) (b:wt) (j:List ka) (a:List cb) (c:List ml):Option (List cb×Int×Int):=(Ri l b.d).bind λf=>ite (f=a30) (M (a,k.ag,3))<|ite (b.d<k.ag) (M (a,k.ag,9))<|(qb m l (ic.mk (na.mk k.j.Id k.j.Scope k.j.w j) a c k.g k.ag) b.d b.g).bind λg=>(Jb c).bind λh=>(xu g b.d l b.g h).bind λi=>(Mo a i).bind λ(d,e)=>M (d,b.d,e)
def No(e:kv) (c:wt) (a:List ml):Option (List ml×Int):=ite (16<=(a00 a:Int)) (M (a,4))<|(bu (a00 a:Int) c.d c.bl c.g c.aq e).bind λb=>ite (¬b.2=0) (M (a,b.2))<|(app 56 a ([b.1])).bind λd=>M (d,0)
def Oo(b:wt) (a:List ml):Option (List ml×Int):=e? (ite (¬b.a9<0) (M (D1 ((a00 a:Int)<=b.a9)))<|M a29) λd=>ite d (M (a,6))<|(e! a b.a9).bind λe=>(bj e b.av b.ae b.g).bind λc=>ite (¬c.2=0) (M (a,c.2))<|(put a b.a9 c.1).bind λf=>M (f,0)
def Po(a:List cb) (b:(List cb×Int)):Option (List cb×Int):=ite (4096<(aa b! ((a00 a:Int)+(a00 b.1:Int)))) (M (a,4))<|(app 32 a b.1).bind λc=>M (c,0)
def qn(l:ej) (m:kv) (k:ic) (b:wt) (i:List ka) (a:List cb) (d:List ml):Option (List cb×Int):=e? (ite (¬b.ae<1) (M (D1 (1000000000000000<b.ae)))<|M a29) λg=>ite g (M (a,3))<|(qb l m (ic.mk (na.mk k.j.Id k.j.Scope k.j.w i) a d k.g k.ag) k.ag b.g).bind λh=>(qo h b.ae b.g).bind λc=>ite (0<c.2) (M (a,3))<|(Po a c).bind λ(e,f)=>M (e,f)
def rn(b:wt) (a:List cb):Option (List cb×Int):=ite (4096<(aa b! ((a00 a:Int)+1))) (M (a,4))<|(app 32 a ([cb.mk b.g b.d 4 b.ae])).bind λc=>M (c,0)
def sn(n:ej) (o:kv) (m:ic) (b:wt) (l:List ka) (a:List cb) (f:List ml):Option (List cb×Int):=e? (ite (¬b.ae<1) (M (D1 (1000000000000000<b.ae)))<|M a29) λi=>ite i (M (a,3))<|(qb n o (ic.mk (na.mk m.j.Id m.j.Scope m.j.w l) a f m.g m.ag) m.ag b.g).bind λc=>(Ea c (λe=>Yb e b)).bind λd=>ite (d<0) (M (a,6))<|(e! c d).bind λj=>(Qd j).bind λk=>ite (k<b.ae) (M (a,3))<|(rn b a).bind λ(g,h)=>M (g,h)
def xe(z:ej) (A:kv) (y:ic) (c:wt):Option (ic×Int):=(Jh z A y).bind λw=>ite (¬w=0) (M (y,1))<|(wk c.g).bind λx=>ite (x=a30) (M (y,3))<|ite (c.g<y.g) (M (y,9))<|(Jo y).bind λ(d,b,a)=>e? (ite (c.a=1) ((Ko z y c d).bind λ(f,g)=>M (f,b,a,y.ag,g))<|ite (c.a=2) ((uk z A y c d b a).bind λ(h,i,j)=>M (d,h,a,i,j))<|ite (c.a=3) ((No A c a).bind λ(k,l)=>M (d,b,k,y.ag,l))<|ite (c.a=4) ((Oo c a).bind λ(m,n)=>M (d,b,m,y.ag,n))<|ite (c.a=5) ((qn z A y c d b a).bind λ(o,p)=>M (d,o,a,y.ag,p))<|ite (c.a=6) ((sn z A y c d b a).bind λ(q,r)=>M (d,q,a,y.ag,r))<|M (d,b,a,y.ag,1)) λ(s,t,u,v,e)=>ite (¬e=0) (M (y,e))<|M (ic.mk (na.mk y.j.Id y.j.Scope y.j.w s) t u c.g v,0)
def Ff(e:ve) (f:Int):Option Bool:=e? ((tc e).bind λb=>ite b ((Pb f).bind λc=>ite c ((Ih e f).bind λd=>M d)<|M a30)<|M a30) λa=>M a
def Vk(c:ve):u3 Int Unit (Int×Int):=λa=>ite (0<=a) ((Ff c a).bind λb=>ite b (M (v? (a,0)))<|M (n? (aa b! (a-1))))<|M (o? ())
def Fh(f:Int) (g:ve) (e:Int):Option (Int×Int):=e? ((tc g).bind λc=>ite c (ite (¬e<1) (M (D1 (31<e)))<|M a29)<|M a29) λb=>ite b (M (0,1))<|(Kq f).bind λa=>ite (¬a.2=0) (M (0,a.2))<|(Zl f).bind λd=>(ja (Vk g) (aa b! ((aa b! (a.1.r+(min e d)))-1))).bind λy=>match y with |.inr v=>M v |.inl _=>M (0,6)
def Cq(j:ej) (i:kv) (h:ic) (c:Int):Option (Int×List cb×Bool):=(Fh c i.am i.bb).bind λa=>ite (¬a.2=0) (M (0,[],a30))<|(xe j i h (wt.mk 2 (max a.1 h.g) c 0 0 0 0 0 (ka.mk 0 0 0 (bz.mk 0 0 0) (js.mk 0 0) 0))).bind λb=>e? (ite (b.2=0) (M (D1 ((a00 b.1.u:Int)<a00 h.u)))<|M a29) λd=>ite d (M (0,[],a30))<|(jC b.1.u (a00 h.u:Int)).bind λe=>(app 32 ([]:List cb) e).bind λf=>M (max a.1 h.g,f,a29)
def Fl(e:ej) (f:kv) (g:ic) (b c:Int):Option Int:=(qb e f g b c).bind λa=>ite ((a00 a:Int)=0) (M 0)<|(e! a (aa b! ((a00 a:Int)-1))).bind λd=>M d.bd
def iq(e:List cb):u3 (Int×Int) Int Unit:=λ(c,d)=>ite (d<a00 e) (e? ((e! e d).bind λa=>ite (a.a=1) (M (aa b! (c+a.ae)))<|ite (a.a=2) (M (aa b! (c-a.ae)))<|M c) λb=>M (n? (b,aa b! (d+1))))<|M (o? c)
def bm(b:List cb):Option Int:=(ja (iq b) (0,0)).bind λy=>match y with |.inr _=>u4 |.inl a=>M a
def zj(i:List cb):u3 (Bool×Bool×Int×Int) (Bool×Bool×Int) Unit:=λ(e,f,a,g)=>ite (g<a00 i) (e? ((e! i g).bind λh=>ite (h.a=1) (M (a29,f,aa b! (a+h.ae)))<|ite (h.a=2) (M (e,a29,a))<|M (e,f,a)) λ(b,c,d)=>M (n? (b,c,d,aa b! (g+1))))<|M (o? (e,f,a))
def Xd(h i j:Int) (g:List cb):Option (se×Int):=(kp h i).bind λe=>ite (¬e.2=0) (M (se.mk 0 0 0 0 0,e.2))<|(ja (zj g) (a30,a30,0,0)).bind λy=>match y with |.inr _=>u4 |.inl (a,b,c)=>(bm g).bind λf=>e? (ite (a=a30) (M 4)<|ite b (M 3)<|ite (j<c) (M 1)<|M 2) λd=>M (se.mk e.1 h i d f,0)
def Fe(k:ej) (l:kv) (i:ic) (a:Int):Option (ma×Int):=(kp i.j.Id a).bind λe=>ite (¬e.2=0) (M (ma.mk 0 0 0 (se.mk 0 0 0 0 0) ([]),e.2))<|e? ((Cq k l i a).bind λb=>ite b.2.2 ((Fl k l i a b.1).bind λh=>M (b.1,b.2.1,h))<|M (-1,([]:List cb),0)) λ(f,d,g)=>(Xd i.j.Id a g d).bind λc=>ite (¬c.2=0) (M (ma.mk 0 0 0 (se.mk 0 0 0 0 0) ([]),c.2))<|M (ma.mk i.j.Id a f c.1 d,0)
def zv(a:List ia):Option ej:=M (ej.mk ([]) ([]) ([fr.mk (z? #[104,111,117,115,101]) (-1) ([mu.mk (z? #[97]) (ek.mk 3 0)]) ([mu.mk (z? #[100]) (ek.mk 3 0)]) ([ke.mk (z? #[98,97,115,101]) 0 (-1) 0 (js.mk 0 109573) ([]) a (z? #[])])]))
def Oj(d:ej) (e:kv) (f:ic) (c:Int):Option (List ot×Int):=(Fe d e f c).bind λa=>ite (¬a.2=0) (M ([],a.2))<|(Zn a.1).bind λb=>M (b.1,b.2)
def Bp(f:Int) (c:(List ma×Int)):u3 ((List (Int×Bool))×Int) (List (Int×Bool)) Unit:=λ(a,b)=>ite (b<a00 c.1) (e? ((e! c.1 b).bind λd=>ite (d.d=f) (M (ZC d.j a29 a))<|M a) λe=>M (n? (e,aa b! (b+1))))<|M (o? a)
def tg(o:ej) (p:kv) (n:List ic) (m:Int):u3 (List ot×(List (Int×Bool))×Int×Int) (List ot) (List ot×Bool):=λ(a,d,b,e)=>ite (e<a00 n) (e? ((e! n e).bind λf=>ite (((Uq d f.j.Id).getD a30)=a29) (M (Sum.inl (a,d,b)))<|(Oj o p f m).bind λc=>ite (¬c.2=0) (M (Sum.inl (a,d,b)))<|if b<a00 c.1 then(Rr c.1 b).bind λj=>(app 1 a j).bind λk=>M (Sum.inr (v? (k,a30)))else(app 1 a c.1).bind λl=>M (Sum.inl (l,ZC f.j.Id a29 d,aa b! (b-(a00 c.1:Int))))) λz=>match z with |.inr v=>M v |.inl (g,h,i)=>M (n? (g,h,i,aa b! (e+1))))<|M (o? a)
def kg(i:ej) (j:kv) (k:List ic) (c:Int) (d:List ot) (f:Int):Option (List ot×Bool):=(cj d).bind λe=>(Rr d e.2).bind λg=>(app 1 ([]:List ot) g).bind λh=>(ja (Bp c e) (([]:List (Int×Bool)),0)).bind λy=>match y with |.inr _=>u4 |.inl a=>(ja (tg i j k c) (h,a,max f 0,0)).bind λy=>match y with |.inr v=>M v |.inl b=>M (b,a29)
def il(f h:List cb):u3 Int Unit Bool:=λe=>e? (ite (e<a00 f) (M (D1 (e<a00 h)))<|M a30) λc=>ite c ((e! f e).bind λa=>(e! h e).bind λb=>ite (¬(a.g=b.g/\a.d=b.d/\a.a=b.a/\a.ae=b.ae)) (M (v? a30))<|M (n? (aa b! (e+1))))<|M (o? ())
def Vp(a b:List cb):Option Bool:=ite (¬(a00 a:Int)=a00 b) (M a30)<|(ja (il a b) 0).bind λy=>match y with |.inr v=>M v |.inl _=>M a29
def Rm(e f:List ka):u3 Int Unit Bool:=λd=>e? (ite (d<a00 e) (M (D1 (d<a00 f)))<|M a30) λc=>ite c ((e! e d).bind λa=>(e! f d).bind λb=>ite (¬(a.Id=b.Id/\a.ay=b.ay/\a.au=b.au/\a.Value.a=b.Value.a/\a.Value.s=b.Value.s/\a.Value.N=b.Value.N/\a.ai.r=b.ai.r/\a.ai.To=b.ai.To/\a.ar=b.ar)) (M (v? a30))<|M (n? (aa b! (d+1))))<|M (o? ())
def ew(a b:List ka):Option Bool:=ite (¬(a00 a:Int)=a00 b) (M a30)<|(ja (Rm a b) 0).bind λy=>match y with |.inr v=>M v |.inl _=>M a29
def Lr(c d:na):Option Bool:=e? (ite (c.Id=d.Id) (ite (c.Scope=d.Scope) (ite (c.w=d.w) ((ew c.ab d.ab).bind λb=>M b)<|M a30)<|M a30)<|M a30) λa=>M a
def Gm(e f:List ml):u3 Int Unit Bool:=λd=>e? (ite (d<a00 e) (M (D1 (d<a00 f)))<|M a30) λc=>ite c ((e! e d).bind λa=>(e! f d).bind λb=>ite (¬(a.Id=b.Id/\a.r=b.r/\a.To=b.To/\a.az=b.az/\a.a3=b.a3/\a.av=b.av/\a.ae=b.ae)) (M (v? a30))<|M (n? (aa b! (d+1))))<|M (o? ())
def Kr(a b:List ml):Option Bool:=ite (¬(a00 a:Int)=a00 b) (M a30)<|(ja (Gm a b) 0).bind λy=>match y with |.inr v=>M v |.inl _=>M a29
def Jr(e f:ic):Option Bool:=e? ((Lr e.j f.j).bind λb=>ite b ((Vp e.u f.u).bind λc=>ite c ((Kr e.af f.af).bind λd=>ite d (ite (e.g=f.g) (M (e.ag==f.ag))<|M a30)<|M a30)<|M a30)<|M a30) λa=>M a
def bl(f g:List ic):u3 Int Unit Bool:=λe=>e? (ite (e<a00 f) (M (D1 (e<a00 g)))<|M a30) λa=>ite a ((e! f e).bind λb=>(e! g e).bind λc=>(Jr b c).bind λd=>ite (d=a30) (M (v? a30))<|M (n? (aa b! (e+1))))<|M (o? ())
def Tp(a b:List ic):Option Bool:=ite (¬(a00 a:Int)=a00 b) (M a30)<|(ja (bl a b) 0).bind λy=>match y with |.inr v=>M v |.inl _=>M a29
def Hm(f g:List se):u3 Int Unit Bool:=λe=>e? (ite (e<a00 f) (M (D1 (e<a00 g)))<|M a30) λc=>ite c ((e! f e).bind λa=>(e! g e).bind λb=>ite (¬(a.Id=b.Id/\a.j=b.j/\a.d=b.d/\a.a=b.a/\a.ae=b.ae)) (M (v? a30))<|M (n? (aa b! (e+1))))<|M (o? ())
def Mr(a b:List se):Option Bool:=ite (¬(a00 a:Int)=a00 b) (M a30)<|(ja (Hm a b) 0).bind λy=>match y with |.inr v=>M v |.inl _=>M a29
def Ak(b:(List ma×Int)):u3 (List se×Int) (List se) Unit:=λ(e,a)=>ite (a<a00 b.1) ((e! b.1 a).bind λc=>(app 40 e ([c.aq])).bind λd=>M (n? (d,aa b! (a+1))))<|M (o? e)
def Km(c:List ot):Option (List se):=(cj c).bind λb=>(ja (Ak b) (([]:List se),0)).bind λy=>match y with |.inr _=>u4 |.inl a=>M a
def tv(e:b6):u3 Int Unit Bool:=λd=>e? (ite (d<a00 e.as) (M (D1 (d<8)))<|M a30) λa=>ite a ((e! e.as d).bind λb=>(Gj b).bind λc=>ite (c=a30) (M (v? a30))<|M (n? (aa b! (d+1))))<|M (o? ())
def Iv(d:b6):Option Bool:=(ja (tv d) 0).bind λy=>match y with |.inr v=>M v |.inl _=>e? (ite ((a00 d.as:Int)<=5) ((Wp d.aw).bind λb=>ite b ((np d.ax).bind λc=>M c)<|M a30)<|M a30) λa=>M a
def rB  : Option b6:=(zv ([ia.mk 3 500])).bind λa=>M (b6.mk a (kv.mk 0 0 20 0 0 0 5 (ve.mk 0 ([]))) ([ic.mk (na.mk 3 0 0 ([ka.mk 0 (-1) 0 (bz.mk 3 0 1) (js.mk 0 109573) 0])) ([]) ([]) 0 (-1)]) 0)
def Dh  : Option Bool:=(rB).bind λb=>(e! b.as 0).bind λl=>(Fe b.aw b.ax l 0).bind λe=>(kg b.aw b.ax b.as 0 ([]) 1099511627776).bind λh=>(kg b.aw b.ax b.as 0 ([]) 10).bind λi=>(Uo b.as h.1 0).bind λj=>(Km h.1).bind λk=>e? (ite (e.2=0) (ite h.2 (ite (i.2=a30) (ite ((a00 i.1:Int)=10) (ite ((a00 j:Int)=1) (ite ((a00 k:Int)=1) (M ((a00 e.1.u:Int) !=1))<|M a29)<|M a29)<|M a29)<|M a29)<|M a29)<|M a29) λf=>ite f (M a30)<|e? (ite (e.1.g=19) ((e! e.1.u 0).bind λc=>ite (c.g=19/\c.d=0/\c.a=1/\c.ae=500) ((e! k 0).bind λa=>ite (a.Id=12288/\a.j=3/\a.d=0/\a.a=2/\a.ae=500) ((e! j 0).bind λd=>ite (d.ag=0) (M (d.g==19))<|M a30)<|M a30)<|M a30)<|M a30) λg=>M g
def cm(a:List ot):Option (List ma×Int):=Za a
def Wt(f:List ma) (g h:Int):u3 Int Unit (ma×Bool):=λe=>ite (e<a00 f) (e? ((e! f e).bind λa=>ite (a.j=g) (M (a.d==h))<|M a30) λb=>ite b ((e! f e).bind λc=>M (v? (c,a29)))<|M (n? (aa b! (e+1))))<|M (o? ())
def aw(a:List ma) (b c:Int):Option (ma×Bool):=(ja (Wt a b c) 0).bind λy=>match y with |.inr v=>M v |.inl _=>M (ma.mk 0 0 0 (se.mk 0 0 0 0 0) ([]),a30)
def Em(k:List ic) (l:Int) (i:(List ma×Int)):u3 (List ic×Int) (List ic) Unit:=λ(m,f)=>ite (f<a00 k) ((e! k f).bind λa=>(aw i.1 a.j.Id l).bind λb=>e? (ite b.2 ((app 32 ([]) a.u).bind λj=>(app 32 j b.1.u).bind λh=>ite (0<=b.1.g) (M (h,b.1.g,l))<|M (h,a.g,a.ag))<|M (a.u,a.g,a.ag)) λ(c,d,e)=>(app 112 m ([ic.mk a.j c a.af d e])).bind λg=>M (n? (g,aa b! (f+1))))<|M (o? m)
def Hr(c:List ic) (d:List ot) (e:Int):Option (List ic):=(cm d).bind λb=>(ja (Em c e b) ([],0)).bind λy=>match y with |.inr _=>u4 |.inl a=>M a
def Yk(b:(List ma×Int)):u3 (List se×Int) (List se) Unit:=λ(e,a)=>ite (a<a00 b.1) ((e! b.1 a).bind λc=>(app 40 e ([c.aq])).bind λd=>M (n? (d,aa b! (a+1))))<|M (o? e)
def Sp(c:List ot):Option (List se):=(cm c).bind λb=>(ja (Yk b) ([],0)).bind λy=>match y with |.inr _=>u4 |.inl a=>M a
def qj(l:b6) (m:List ot):Option Bool:=e? ((Iv l).bind λg=>ite g (M (D1 (20000<(a00 m:Int))))<|M a29) λf=>ite f ((Dh).bind λh=>M h)<|e? ((Uo l.as m l.d).bind λi=>(Hr l.as m l.d).bind λj=>(Tp i j).bind λk=>ite k ((Km m).bind λb=>(Sp m).bind λc=>(Mr b c).bind λd=>ite d ((Dh).bind λe=>M e)<|M a30)<|M a30) λa=>M a
def Up(e f:List ot):u3 Int Unit Bool:=λd=>e? (ite (d<a00 e) (M (D1 (d<a00 f)))<|M a30) λa=>ite a ((e! e d).bind λb=>(e! f d).bind λc=>ite (¬b.N=c.N) (M (v? a30))<|M (n? (aa b! (d+1))))<|M (o? ())
def Gt(a b:List ot):Option Bool:=ite (¬(a00 a:Int)=a00 b) (M a30)<|(ja (Up a b) 0).bind λy=>match y with |.inr v=>M v |.inl _=>M a29
def Vg(g:b6) (h:List Int):u3 (List ot×Int) (List ot) Bool:=λ(d,f)=>ite (f<a00 h) ((e! h f).bind λc=>(kg g.aw g.ax g.as g.d d c).bind λb=>(Za d).bind λa=>e? (ite (¬a.2<0) (ite (¬(a00 d:Int)<a.2) (ite (¬(max c 0)<(aa b! ((a00 b.1:Int)-a.2))) (M (D1 ((a00 b.1:Int)<a.2)))<|M a29)<|M a29)<|M a29) λe=>ite e (M (v? a30))<|M (n? (b.1,aa b! (f+1))))<|M (o? d)
def Ng(l:b6) (m:List Int):Option Bool:=e? ((Iv l).bind λj=>ite j (M (D1 (12<(a00 m:Int))))<|M a29) λi=>ite i ((Dh).bind λk=>M k)<|(kg l.aw l.ax l.as l.d ([]) 1099511627776).bind λh=>(ja (Vg l m) ([],0)).bind λy=>match y with |.inr v=>M v |.inl c=>(kg l.aw l.ax l.as l.d c 1099511627776).bind λa=>(kg l.aw l.ax l.as l.d a.1 0).bind λb=>e? (ite h.2 (ite a.2 (ite b.2 ((Gt a.1 h.1).bind λe=>ite e ((Gt b.1 a.1).bind λf=>ite f ((Dh).bind λg=>M g)<|M a30)<|M a30)<|M a30)<|M a30)<|M a30) λd=>M d
end
end Go.Proofs.Dev
