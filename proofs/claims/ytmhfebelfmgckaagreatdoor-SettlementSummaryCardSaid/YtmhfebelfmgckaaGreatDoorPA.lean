/-
  The functions as plain partial functions, and plain lemmas about them: no condition.
-/
import Derived.Test.YtmhfebelfmgckaaGreatDoorED
import Derived.Lib.SlicesCompact
open Bool renaming true->a35,false->a36
open Option renaming some->M,none->q6
open Decidable renaming decide->s5
open Go.Tm.Ex renaming go->i!,brk->i?,ret->l?
open Go.IntKind renaming i64->b!
open Go.Value renaming int->e!
open And renaming intro->ak
open ByteArray renaming mk->n?
open Eq renaming trans->I?
open Int renaming fdiv->Kae,tdiv->s?,tmod->v?
open List renaming range->o?,length->a00
open Option renaming bind->b?
set_option linter.all false
def a08{p:Prop}(h:p:=by simp; omega):=h
def C'{p:Prop}(h:p:=by repeat (first|exact ua.Ab _|refine ua.cons (q'.refl _) ?_|refine ua.cons (q'.Qa _) ?_)):=h
def U?{p:Prop}(h:p:=by kernel_rfl):=h
def aaE{p:Prop}(h:p:=by simp only[zx, ze, Xs, kh, lh, lf]; exact OK (by simp only[zq, ze])):=h
def aaG{p:Prop}(h:p:=by simp only[zx, ze, Kz, kh, lh, lf]; exact f'.q [(M 0, 1, 0)] rfl o4 (by simp only[zq, ze])):=h
def aaH{p:Prop}(h:p:=by simp;omega):=h
def aaI{p:Prop}(h:p:=by simp only[zx, ze, kh, lh, lf]; rw[Jz]; exact f'.q [(M 0, 0, 0)] rfl o4 (by simp only[zx, zq, ze])):=h
def aaJ{p:Prop}(h:p:=by have:=h.hn;omega):=h
def aaK{p:Prop}(h:p:=by grind[ea,Na,Md]):=h
namespace Go.Tm
def cm:List Int->Int->List Int |[],n=>[n] |x::l,n=>if n<=x then(if n<x then n::x::l else x::l)else x::cm l n
def Vd(l:List Int):List Int:=l.foldl cm []
inductive I' (g:List (List Int)):Int->Int->Prop
 |one {a b:Int} {l:List Int} (h:g[a.toNat]?=M l) (hb:b∈l):I' g a b
 |step {a b c:Int} {l:List Int} (h:I' g a b) (hl:g[b.toNat]?=M l) (hc:c∈l):I' g a c
open Classical in
noncomputable def tO(g:List (List Int)) (a:Int):List Int:=((o? g.length).map λ(k:Nat)=>(k:Int)).filter λb=>s5 (I' g a b)
@[irreducible] def cg:Nat:=1000000
def dG(g:List (List Int)) (out:List Int) (d:Nat):Bool:=!out.contains (d:Int)&&(g.getD d []).all λe=>out.contains e
def Nx(g:List (List Int)):Nat->List Int->List Int×Int |0,out=>(out,0) |n+1,out=>match (o? g.length).find? (dG g out)with |some d=>Nx g n (out++[(d:Int)]) |none=>([],9)
def sx(g:List (List Int)):List Int×Int:=Nx g g.length []
end Go.Tm
set_option maxHeartbeats 1000000
set_option maxRecDepth 100000
namespace Go.Proofs.Dev
open Go Go.Tm
def vD(x:ByteArray):D:=.v (.string x)
instance:f? ByteArray vD:=⟨IB vD.eq_1⟩
def aN7:=j9 @vD.eq_1
def J1(x:List ByteArray):D:=.sl 1 (x.map vD)
instance:f? (List ByteArray) J1:=⟨Fr.s _⟩
def K7:=j9 @J1.eq_1
structure na where
 n:ByteArray
 s:(List ByteArray)
def Vs(x:na):D:=.agg [.v (.string x.n),.sl 1 (x.s.map vD)]
instance:f? na Vs:=⟨IB Vs.eq_1⟩
def B7:=j9 @Vs.eq_1
def Zw(x:List na):D:=.sl 2 (x.map Vs)
instance:f? (List na) Zw:=⟨Fr.s _⟩
def TU:=j9 @Zw.eq_1
def da(x:Int):D:=.v (e! b! x)
instance:f? Int da:=⟨IB da.eq_1⟩
def aN8:=j9 @da.eq_1
structure ej where
 a:Int
 g:Int
def Vg(x:ej):D:=.agg [.v (e! b! x.a),.v (e! b! x.g)]
instance:f? ej Vg:=⟨IB Vg.eq_1⟩
def G7:=j9 @Vg.eq_1
structure hO where
 j:Int
 To:Int
def Xl(x:hO):D:=.agg [.v (e! b! x.j),.v (e! b! x.To)]
instance:f? hO Xl:=⟨IB Xl.eq_1⟩
def jN:=j9 @Xl.eq_1
structure se where
 aa:hO
 Lo:Int
 Hi:Int
 N:Int
def Lv(x:se):D:=.agg [.v (e! b! x.aa.j),.v (e! b! x.aa.To),.v (e! b! x.Lo),.v (e! b! x.Hi),.v (e! b! x.N)]
instance:f? se Lv:=⟨IB Lv.eq_1⟩
def aq7:=j9 @Lv.eq_1
def vE(x:List se):D:=.sl 5 (x.map Lv)
instance:f? (List se) vE:=⟨Fr.s _⟩
def zY:=j9 @vE.eq_1
structure oe where
 n:ByteArray
 af:ej
 Value:ej
 Rows:(List se)
def pj(x:oe):D:=.agg [.v (.string x.n),.v (e! b! x.af.a),.v (e! b! x.af.g),.v (e! b! x.Value.a),.v (e! b! x.Value.g),.sl 5 (x.Rows.map Lv)]
instance:f? oe pj:=⟨IB pj.eq_1⟩
def uY:=j9 @pj.eq_1
def fx(x:List oe):D:=.sl 6 (x.map pj)
instance:f? (List oe) fx:=⟨Fr.s _⟩
def HS:=j9 @fx.eq_1
structure ml where
 n:ByteArray
 an:ej
def nf(x:ml):D:=.agg [.v (.string x.n),.v (e! b! x.an.a),.v (e! b! x.an.g)]
instance:f? ml nf:=⟨IB nf.eq_1⟩
def sY:=j9 @nf.eq_1
def ax(x:List ml):D:=.sl 3 (x.map nf)
instance:f? (List ml) ax:=⟨Fr.s _⟩
def ES:=j9 @ax.eq_1
structure fr where
 Op:Int
 N:Int
def Oi(x:fr):D:=.agg [.v (e! b! x.Op),.v (e! b! x.N)]
instance:f? fr Oi:=⟨IB Oi.eq_1⟩
def E7:=j9 @Oi.eq_1
def Nf(x:List fr):D:=.sl 2 (x.map Oi)
instance:f? (List fr) Nf:=⟨Fr.s _⟩
def VU:=j9 @Nf.eq_1
structure ke where
 n:ByteArray
 u:Int
 al:Int
 ax:Int
 aa:hO
 ag:(List fr)
 Value:(List fr)
 a4:ByteArray
def Ug(x:ke):D:=.agg [.v (.string x.n),.v (e! b! x.u),.v (e! b! x.al),.v (e! b! x.ax),.v (e! b! x.aa.j),.v (e! b! x.aa.To),.sl 2 (x.ag.map Oi),.sl 2 (x.Value.map Oi),.v (.string x.a4)]
instance:f? ke Ug:=⟨IB Ug.eq_1⟩
def F7:=j9 @Ug.eq_1
def Pn(x:List ke):D:=.sl 9 (x.map Ug)
instance:f? (List ke) Pn:=⟨Fr.s _⟩
def WU:=j9 @Pn.eq_1
structure ek where
 n:ByteArray
 ac:Int
 w:(List ml)
 d:(List ml)
 f:(List ke)
def pf(x:ek):D:=.agg [.v (.string x.n),.v (e! b! x.ac),.sl 3 (x.w.map nf),.sl 3 (x.d.map nf),.sl 9 (x.f.map Ug)]
instance:f? ek pf:=⟨IB pf.eq_1⟩
def tY:=j9 @pf.eq_1
def cx(x:List ek):D:=.sl 5 (x.map pf)
instance:f? (List ek) cx:=⟨Fr.s _⟩
def GS:=j9 @cx.eq_1
structure cb where
 r:(List na)
 Tables:(List oe)
 e:(List ek)
def Kv(x:cb):D:=.agg [.sl 2 (x.r.map Vs),.sl 6 (x.Tables.map pj),.sl 5 (x.e.map pf)]
instance:f? cb Kv:=⟨IB Kv.eq_1⟩
def aq8:=j9 @Kv.eq_1
def za(x:Bool):D:=.v (.bool x)
instance:f? Bool za:=⟨IB za.eq_1⟩
def aq6:=j9 @za.eq_1
def sa(x:List Int):D:=.sl 1 (x.map da)
instance:f? (List Int) sa:=⟨Fr.s _⟩
def J7:=j9 @sa.eq_1
def Qd(x:List (List Int)):D:=.sl 1 (x.map sa)
instance:f? (List (List Int)) Qd:=⟨Fr.s _⟩
def YU:=j9 @Qd.eq_1
structure ll where
 Code:Int
 be:Int
 bf:Int
 bg:Int
def tE(x:ll):D:=.agg [.v (e! b! x.Code),.v (e! b! x.be),.v (e! b! x.bf),.v (e! b! x.bg)]
instance:f? ll tE:=⟨IB tE.eq_1⟩
def OP:=j9 @tE.eq_1
def QQ(x:List ej):D:=.sl 2 (x.map Vg)
instance:f? (List ej) QQ:=⟨Fr.s _⟩
def XU:=j9 @QQ.eq_1
structure om where
 r:(List na)
 Tables:(List oe)
 w:(List ej)
 d:(List ej)
 ay:(List ej)
 a6:Bool
def Ws(x:om):D:=.agg [.sl 2 (x.r.map Vs),.sl 6 (x.Tables.map pj),.sl 2 (x.w.map Vg),.sl 2 (x.d.map Vg),.sl 2 (x.ay.map Vg),.v (.bool x.a6)]
instance:f? om Ws:=⟨IB Ws.eq_1⟩
def oN:=j9 @Ws.eq_1
def IK(x:List (List fr)):D:=.sl 1 (x.map Nf)
instance:f? (List (List fr)) IK:=⟨Fr.s _⟩
def RP:=j9 @IK.eq_1
def ZU(x:Int):D:=.v (e! .u8 x)
instance:Fr ZU:=⟨IB ZU.eq_1⟩
def bo4:=j9 @ZU.eq_1
def ql(x:Int):D:=.pt (da x)
instance:Fr ql:=⟨λx=>Fr.h (e:=da) x⟩
def H7:=j9 @ql.eq_1
def Yw(x:ek):D:=.pt (pf x)
instance:Fr Yw:=⟨λx=>Fr.h (e:=pf) x⟩
def BS:=j9 @Yw.eq_1
def Iz(x:ke):D:=.pt (Ug x)
instance:Fr Iz:=⟨λx=>Fr.h (e:=Ug) x⟩
def SU:=j9 @Iz.eq_1
def Xw(x:ml):D:=.pt (nf x)
instance:Fr Xw:=⟨λx=>Fr.h (e:=nf) x⟩
def AS:=j9 @Xw.eq_1
def Hx(x:ByteArray):D:=.pt (vD x)
instance:Fr Hx:=⟨λx=>Fr.h (e:=vD) x⟩
def I7:=j9 @Hx.eq_1
def cC(x:se):D:=.pt (Lv x)
instance:Fr cC:=⟨λx=>Fr.h (e:=Lv) x⟩
def yY:=j9 @cC.eq_1
structure bz where
 a:Int
 g:Int
 N:Int
def Da(x:bz):D:=.agg [.v (e! b! x.a),.v (e! b! x.g),.v (e! b! x.N)]
instance:f? bz Da:=⟨IB Da.eq_1⟩
def vY:=j9 @Da.eq_1
def Ku(x:List bz):D:=.sl 3 (x.map Da)
instance:f? (List bz) Ku:=⟨Fr.s _⟩
def IS:=j9 @Ku.eq_1
structure b7 where
 bh:Int
 bi:Int
 bj:Int
 w:(List bz)
def Il(x:b7):D:=.agg [.v (e! b! x.bh),.v (e! b! x.bi),.v (e! b! x.bj),.sl 3 (x.w.map Da)]
instance:f? b7 Il:=⟨IB Il.eq_1⟩
def QH:=j9 @Il.eq_1
def UA(x:List b7):D:=.sl 4 (x.map Il)
instance:f? (List b7) UA:=⟨Fr.s _⟩
def VF:=j9 @UA.eq_1
def TA(x:b7):D:=.pt (Il x)
instance:Fr TA:=⟨λx=>Fr.h (e:=Il) x⟩
def TF:=j9 @TA.eq_1
structure b0 where
 parent:(List Int)
 priority:(List Int)
 outcome:(List Int)
def Ww(x:b0):D:=.agg [.sl 1 (x.parent.map da),.sl 1 (x.priority.map da),.sl 1 (x.outcome.map da)]
instance:f? b0 Ww:=⟨IB Ww.eq_1⟩
def TG:=j9 @Ww.eq_1
def Bc(x:List Bool):D:=.sl 1 (x.map za)
instance:f? (List Bool) Bc:=⟨Fr.s _⟩
def AY:=j9 @Bc.eq_1
def UH(x:List (List bz)):D:=.sl 1 (x.map Ku)
instance:f? (List (List bz)) UH:=⟨Fr.s _⟩
def vN:=j9 @UH.eq_1
structure ia where
 z:Int
 w:(List bz)
 d:(List bz)
 s:(List (List bz))
 au:(List ej)
 Tables:(List oe)
def Hl(x:ia):D:=.agg [.v (e! b! x.z),.sl 3 (x.w.map Da),.sl 3 (x.d.map Da),.sl 1 (x.s.map Ku),.sl 2 (x.au.map Vg),.sl 6 (x.Tables.map pj)]
instance:f? ia Hl:=⟨IB Hl.eq_1⟩
def aq9:=j9 @Hl.eq_1
structure te where
 nodes:(List fr)
 starts:(List Int)
 env:ia
def ya(x:te):D:=.agg [.sl 2 (x.nodes.map Oi),.sl 1 (x.starts.map da),.v (e! b! x.env.z),.sl 3 (x.env.w.map Da),.sl 3 (x.env.d.map Da),.sl 1 (x.env.s.map Ku),.sl 2 (x.env.au.map Vg),.sl 6 (x.env.Tables.map pj)]
instance:f? te ya:=⟨IB ya.eq_1⟩
def SF:=j9 @ya.eq_1
def Gl(x:Int):D:=.v (e! .u64 x)
instance:Fr Gl:=⟨IB Gl.eq_1⟩
def aN6:=j9 @Gl.eq_1
structure b9 where
 I0:Int
 I1:Int
 I2:Int
def ar0(x:b9):D:=.agg [.v (e! b! x.I0),.v (e! b! x.I1),.v (e! b! x.I2)]
instance:f? b9 ar0:=⟨IB ar0.eq_1⟩
def aN9:=j9 @ar0.eq_1
structure b8 where
 scope:ek
 tables:(List oe)
 date:Int
 rules:(List Int)
 parents:(List Int)
 priorities:(List Int)
def Yl(x:b8):D:=.agg [.v (.string x.scope.n),.v (e! b! x.scope.ac),.sl 3 (x.scope.w.map nf),.sl 3 (x.scope.d.map nf),.sl 9 (x.scope.f.map Ug),.sl 6 (x.tables.map pj),.v (e! b! x.date),.sl 1 (x.rules.map da),.sl 1 (x.parents.map da),.sl 1 (x.priorities.map da)]
instance:f? b8 Yl:=⟨IB Yl.eq_1⟩
def RF:=j9 @Yl.eq_1
def dz(x:b8):D:=.pt (Yl x)
instance:Fr dz:=⟨λx=>Fr.h (e:=Yl) x⟩
def SD:=j9 @dz.eq_1
structure ri where
 z:Int
 w:(List bz)
 s:(List (List bz))
def fM(x:ri):D:=.agg [.v (e! b! x.z),.sl 3 (x.w.map Da),.sl 1 (x.s.map Ku)]
instance:f? ri fM:=⟨IB fM.eq_1⟩
def w7:=j9 @fM.eq_1
structure ot where
 Code:Int
 aq:Int
 u:Int
 bk:Int
def Jv(x:ot):D:=.agg [.v (e! b! x.Code),.v (e! b! x.aq),.v (e! b! x.u),.v (e! b! x.bk)]
instance:f? ot Jv:=⟨IB Jv.eq_1⟩
def kN:=j9 @Jv.eq_1
structure vk where
 scope:ek
 memberScope:ek
 defs:(List Bool)
 memberDefs:(List Bool)
def Qp(x:vk):D:=.agg [.v (.string x.scope.n),.v (e! b! x.scope.ac),.sl 3 (x.scope.w.map nf),.sl 3 (x.scope.d.map nf),.sl 9 (x.scope.f.map Ug),.v (.string x.memberScope.n),.v (e! b! x.memberScope.ac),.sl 3 (x.memberScope.w.map nf),.sl 3 (x.memberScope.d.map nf),.sl 9 (x.memberScope.f.map Ug),.sl 1 (x.defs.map za),.sl 1 (x.memberDefs.map za)]
instance:f? vk Qp:=⟨IB Qp.eq_1⟩
def RH:=j9 @Qp.eq_1
structure ve where
 bd:(List bz)
 f:(List Int)
def Rp(x:ve):D:=.agg [.sl 3 (x.bd.map Da),.sl 1 (x.f.map da)]
instance:f? ve Rp:=⟨IB Rp.eq_1⟩
def SH:=j9 @Rp.eq_1
def VA(x:List ve):D:=.sl 2 (x.map Rp)
instance:f? (List ve) VA:=⟨Fr.s _⟩
def XF:=j9 @VA.eq_1
structure b6 where
 bd:(List bz)
 f:(List Int)
 s:(List ve)
def AF(x:b6):D:=.agg [.sl 3 (x.bd.map Da),.sl 1 (x.f.map da),.sl 2 (x.s.map Rp)]
instance:f? b6 AF:=⟨IB AF.eq_1⟩
def QU:=j9 @AF.eq_1
def Mv(x:vk):D:=.pt (Qp x)
instance:Fr Mv:=⟨λx=>Fr.h (e:=Qp) x⟩
def UF:=j9 @Mv.eq_1
def RU(x:ia):D:=.pt (Hl x)
instance:Fr RU:=⟨λx=>Fr.h (e:=Hl) x⟩
def xY:=j9 @RU.eq_1
structure i6 where
 I0:Int
 I1:Int
def ar1(x:i6):D:=.agg [.v (e! b! x.I0),.v (e! b! x.I1)]
instance:f? i6 ar1:=⟨IB ar1.eq_1⟩
def aO0:=j9 @ar1.eq_1
structure tk where
 a7:Int
 ar:(List Int)
def sE(x:tk):D:=.agg [.v (e! b! x.a7),.sl 1 (x.ar.map da)]
instance:f? tk sE:=⟨IB sE.eq_1⟩
def NP:=j9 @sE.eq_1
structure ma where
 u:Int
 aw:Int
 bb:Int
 a9:Int
 ba:Int
 ah:Int
 bc:Int
 av:tk
def Hh(x:ma):D:=.agg [.v (e! b! x.u),.v (e! b! x.aw),.v (e! b! x.bb),.v (e! b! x.a9),.v (e! b! x.ba),.v (e! b! x.ah),.v (e! b! x.bc),.v (e! b! x.av.a7),.sl 1 (x.av.ar.map da)]
instance:f? ma Hh:=⟨IB Hh.eq_1⟩
def nN:=j9 @Hh.eq_1
structure kv where
 Id:Int
 aq:Int
 ap:Int
 Value:bz
 aa:hO
 ai:Int
def ue(x:kv):D:=.agg [.v (e! b! x.Id),.v (e! b! x.aq),.v (e! b! x.ap),.v (e! b! x.Value.a),.v (e! b! x.Value.g),.v (e! b! x.Value.N),.v (e! b! x.aa.j),.v (e! b! x.aa.To),.v (e! b! x.ai)]
instance:f? kv ue:=⟨IB ue.eq_1⟩
def D7:=j9 @ue.eq_1
def Uj(x:List kv):D:=.sl 9 (x.map ue)
instance:f? (List kv) Uj:=⟨Fr.s _⟩
def UU:=j9 @Uj.eq_1
structure mu where
 Id:Int
 aj:Int
 s:Int
 ab:(List kv)
def pz(x:mu):D:=.agg [.v (e! b! x.Id),.v (e! b! x.aj),.v (e! b! x.s),.sl 9 (x.ab.map ue)]
instance:f? mu pz:=⟨IB pz.eq_1⟩
def lN:=j9 @pz.eq_1
structure ka where
 q:Int
 ad:Int
 Code:Int
def PH(x:ka):D:=.agg [.v (e! b! x.q),.v (e! b! x.ad),.v (e! b! x.Code)]
instance:f? ka PH:=⟨IB PH.eq_1⟩
def qY:=j9 @PH.eq_1
def uE(x:List hO):D:=.sl 2 (x.map Xl)
instance:f? (List hO) uE:=⟨Fr.s _⟩
def yJ:=j9 @uE.eq_1
structure j2 where
 q:Int
 ai:Int
 bl:Int
def Jq(x:j2):D:=.agg [.v (e! b! x.q),.v (e! b! x.ai),.v (e! b! x.bl)]
instance:f? j2 Jq:=⟨IB Jq.eq_1⟩
def ZB:=j9 @Jq.eq_1
def xd(x:List ka):D:=.sl 3 (x.map PH)
instance:f? (List ka) xd:=⟨Fr.s _⟩
def CS:=j9 @xd.eq_1
structure ic where
 z:Int
 q:Int
 a:Int
 ad:Int
def ab(x:ic):D:=.agg [.v (e! b! x.z),.v (e! b! x.q),.v (e! b! x.a),.v (e! b! x.ad)]
instance:f? ic ab:=⟨IB ab.eq_1⟩
def yS:=j9 @ab.eq_1
def Ha(x:List ic):D:=.sl 4 (x.map ab)
instance:f? (List ic) Ha:=⟨Fr.s _⟩
def uN:=j9 @Ha.eq_1
structure po where
 Id:Int
 j:Int
 To:Int
 a1:Int
 a8:Int
 az:Int
 ad:Int
def Eg(x:po):D:=.agg [.v (e! b! x.Id),.v (e! b! x.j),.v (e! b! x.To),.v (e! b! x.a1),.v (e! b! x.a8),.v (e! b! x.az),.v (e! b! x.ad)]
instance:f? po Eg:=⟨IB Eg.eq_1⟩
def PU:=j9 @Eg.eq_1
def Ro(x:List po):D:=.sl 7 (x.map Eg)
instance:f? (List po) Ro:=⟨Fr.s _⟩
def QP:=j9 @Ro.eq_1
structure nb where
 am:mu
 ak:(List ic)
 ao:(List po)
 z:Int
 as:Int
def Ju(x:nb):D:=.agg [.v (e! b! x.am.Id),.v (e! b! x.am.aj),.v (e! b! x.am.s),.sl 9 (x.am.ab.map ue),.sl 4 (x.ak.map ab),.sl 7 (x.ao.map Eg),.v (e! b! x.z),.v (e! b! x.as)]
instance:f? nb Ju:=⟨IB Ju.eq_1⟩
def xS:=j9 @Ju.eq_1
structure pr where
 q:Int
 a2:Int
 a0:Int
 a3:Int
def Zc(x:pr):D:=.agg [.v (e! b! x.q),.v (e! b! x.a2),.v (e! b! x.a0),.v (e! b! x.a3)]
instance:f? pr Zc:=⟨IB Zc.eq_1⟩
def TH:=j9 @Zc.eq_1
def Gc(x:List pr):D:=.sl 4 (x.map Zc)
instance:f? (List pr) Gc:=⟨Fr.s _⟩
def YF:=j9 @Gc.eq_1
structure wt where
 a:Int
 z:Int
 q:Int
 bm:Int
 bn:Int
 bo:Int
 az:Int
 ad:Int
 a5:kv
def YB(x:wt):D:=.agg [.v (e! b! x.a),.v (e! b! x.z),.v (e! b! x.q),.v (e! b! x.bm),.v (e! b! x.bn),.v (e! b! x.bo),.v (e! b! x.az),.v (e! b! x.ad),.v (e! b! x.a5.Id),.v (e! b! x.a5.aq),.v (e! b! x.a5.ap),.v (e! b! x.a5.Value.a),.v (e! b! x.a5.Value.g),.v (e! b! x.a5.Value.N),.v (e! b! x.a5.aa.j),.v (e! b! x.a5.aa.To),.v (e! b! x.a5.ai)]
instance:f? wt YB:=⟨IB YB.eq_1⟩
def rY:=j9 @YB.eq_1
def pN(x:wt):D:=.pt (YB x)
instance:Fr pN:=⟨λx=>Fr.h (e:=YB) x⟩
def zS:=j9 @pN.eq_1
structure j3 where
 To:Int
 ai:Int
def Kq(x:j3):D:=.agg [.v (e! b! x.To),.v (e! b! x.ai)]
instance:f? j3 Kq:=⟨IB Kq.eq_1⟩
def aC:=j9 @Kq.eq_1
def rN(x:List wt):D:=.sl 17 (x.map YB)
instance:f? (List wt) rN:=⟨Fr.s _⟩
def DS:=j9 @rN.eq_1
def ze:=(ak (ak (ak (ak (ak (ak (ak @aN7 @K7) (ak @B7 @TU)) (ak (ak @aN8 @G7) (ak @jN @aq7))) (ak (ak (ak @zY @uY) (ak @HS @sY)) (ak (ak @ES @E7) (ak @VU @F7)))) (ak (ak (ak (ak @WU @tY) (ak @GS @aq8)) (ak (ak @aq6 @J7) (ak @YU @OP))) (ak (ak (ak @XU @oN) (ak @RP @bo4)) (ak (ak @H7 @BS) (ak @SU @AS))))) (ak (ak (ak (ak (ak @I7 @yY) (ak @vY @IS)) (ak (ak @QH @VF) (ak @TF @TG))) (ak (ak (ak @AY @vN) (ak @aq9 @SF)) (ak (ak @aN6 @aN9) (ak @RF @SD)))) (ak (ak (ak (ak @w7 @kN) (ak @RH @SH)) (ak (ak @XF @QU) (ak @UF @xY))) (ak (ak (ak @aO0 @NP) (ak @nN @D7)) (ak (ak @UU @lN) (ak @qY @yJ)))))) (ak (ak (ak (ak @ZB @CS) (ak @yS @uN)) (ak (ak @PU @QP) (ak @xS @TH))) (ak (ak (ak @YF @rY) (ak @zS @aC)) @DS)))
def zz:type_of% (ak @zx @ze):=ak @zx @ze
def zg:type_of% (ak @zq @ze):=ak @zq @ze
def tz{N:Nat}{s S:St}(ρ:Ev) (h:KG (Sq ρ s.m 9) s.t S.t/\mJ ρ s.m ρ S.m:=by first|(simp only[zg];done)|(simp only[zg, *];done)) (hk:yD ρ N=a35:=by rfl) (a:(ρ.filterMap (·.1)).Nodup:=by decide):f' N s S:=f'.q ρ hk a h
def ez{rs:List RV}{o:D}{s:St}(h:iV (Rb s rs) s.m o:=by simp only[zz,zr];exact fq (by first|(simp only[zg];done)|(simp only[zg, *];done)|(simp only[zg, *,List.drop_zero,Nat.zero_add,List.length_map];done))):LB rs o .ret s:=er h
noncomputable section
abbrev p6(a b c:Type):=a->Option (Ex a b c)
def Vk(c:ek):p6 Int Unit Bool:=λa=>ite (a<a00 c.w) ((c! c.w a).bind λb=>ite (80<(b.n.size:Int)) (M (l? a36))<|M (i! (aa b! (a+1))))<|M (i? ())
def Uk(c:ek):p6 Int Unit Bool:=λa=>ite (a<a00 c.d) ((c! c.d a).bind λb=>ite (80<(b.n.size:Int)) (M (l? a36))<|M (i! (aa b! (a+1))))<|M (i? ())
def Tk(d:ek):p6 Int Unit Bool:=λb=>ite (b<a00 d.f) ((c! d.f b).bind λa=>b? (ite (¬80<(a.n.size:Int)) (ite (¬80<(a.a4.size:Int)) (ite (¬50<(a00 a.ag:Int)) (M (s5 (50<(a00 a.Value:Int))))<|M a35)<|M a35)<|M a35) λc=>ite c (M (l? a36))<|M (i! (aa b! (b+1))))<|M (i? ())
def lj(b:ek):Option Bool:=b? (ite (¬80<(b.n.size:Int)) (ite (¬14<(a00 b.w:Int)) (ite (¬14<(a00 b.d:Int)) (M (s5 (60<(a00 b.f:Int))))<|M a35)<|M a35)<|M a35) λa=>ite a (M a36)<|(ca (Vk b) 0).bind λy=>match y with |.inr v=>M v |.inl _=>(ca (Uk b) 0).bind λy=>match y with |.inr v=>M v |.inl _=>(ca (Tk b) 0).bind λy=>match y with |.inr v=>M v |.inl _=>M a35
def Wj(e:cb) (d:Int):p6 Int Unit (Ex Int Unit Bool):=λa=>(c! e.r d).bind λb=>ite (a<a00 b.s) ((c! b.s a).bind λc=>ite (80<(c.size:Int)) (M (l? (l? a36)))<|M (i! (aa b! (a+1))))<|M (i? ())
def Wm(d:cb):p6 Int Unit Bool:=λa=>ite (a<a00 d.r) (b? ((c! d.r a).bind λb=>ite (¬80<(b.n.size:Int)) (M (s5 (20<(a00 b.s:Int))))<|M a35) λc=>ite c (M (l? a36))<|(ca (Wj d a) 0).bind λy=>match y with |.inr v=>M v |.inl _=>M (i! (aa b! (a+1))))<|M (i? ())
def Vm(e:cb):p6 (Int×Int) Unit Bool:=λ(c,a)=>ite (a<a00 e.Tables) ((c! e.Tables a).bind λb=>b? (ite (¬80<(b.n.size:Int)) (M (s5 (150<(aa b! (c+(a00 b.Rows:Int))))))<|M a35) λd=>ite d (M (l? a36))<|M (i! (aa b! (c+(a00 b.Rows:Int)),aa b! (a+1))))<|M (i? ())
def Um(g:cb):p6 (Int×Int) Unit Bool:=λ(c,a)=>ite (a<a00 g.e) ((c! g.e a).bind λb=>b? (if¬60<(aa b! (c+(a00 b.f:Int)))then(lj b).bind λe=>M (!e)else M a35) λd=>ite d (M (l? a36))<|M (i! (aa b! (c+(a00 b.f:Int)),aa b! (a+1))))<|M (i? ())
def xu(b:cb):Option Bool:=b? (ite (¬9<(a00 b.r:Int)) (ite (¬9<(a00 b.Tables:Int)) (M (s5 (5<(a00 b.e:Int))))<|M a35)<|M a35) λa=>ite a (M a36)<|(ca (Wm b) 0).bind λy=>match y with |.inr v=>M v |.inl _=>(ca (Vm b) (0,0)).bind λy=>match y with |.inr v=>M v |.inl _=>(ca (Um b) (0,0)).bind λy=>match y with |.inr v=>M v |.inl _=>M a35
def eu(b:Int):Option Bool:=b? (ite (97<=b) (M (s5 (b<=122)))<|M a36) λa=>M a
def Lx(b:Int):Option Bool:=b? (ite (48<=b) (M (s5 (b<=57)))<|M a36) λa=>M a
def Oe(f:ByteArray):p6 Int Int Unit:=λe=>b? (ite (e<(f.size:Int)) ((tA f e).bind λa=>(eu a).bind λc=>ite (c=a36) ((Lx a).bind λd=>ite (d=a36) (M (a==95))<|M a35)<|M a35)<|M a36) λb=>ite b (M (i! (aa b! (e+1))))<|M (i? e)
def jo(b:ByteArray):Option Int:=(ca (Oe b) 0).bind λy=>match y with |.inr _=>q6 |.inl a=>M a
def ug(b:ByteArray):Option Bool:=b? (ite (b=(n? #[105,102])) (M a35)<|ite (b=(n? #[116,104,101,110])) (M a35)<|ite (b=(n? #[101,108,115,101])) (M a35)<|ite (b=(n? #[111,114])) (M a35)<|ite (b=(n? #[97,110,100])) (M a35)<|ite (b=(n? #[110,111,116])) (M a35)<|ite (b=(n? #[116,114,117,101])) (M a35)<|ite (b=(n? #[102,97,108,115,101])) (M a35)<|ite (b=(n? #[116,111,100,97,121])) (M a35)<|ite (b=(n? #[115,104,97,114,101])) (M a35)<|ite (b=(n? #[100,105,118])) (M a35)<|ite (b=(n? #[114,111,117,110,100])) (M a35)<|ite (b=(n? #[109,105,110])) (M a35)<|ite (b=(n? #[109,97,120])) (M a35)<|ite (b=(n? #[112,108,117,115])) (M a35)<|ite (b=(n? #[109,111,110,116,104,115])) (M a35)<|ite (b=(n? #[100,97,121,115])) (M a35)<|ite (b=(n? #[121,101,97,114,115])) (M a35)<|ite (b=(n? #[121,101,97,114])) (M a35)<|ite (b=(n? #[109,111,110,116,104])) (M a35)<|ite (b=(n? #[116,97,98])) (M a35)<|ite (b=(n? #[98,97,110,100])) (M a35)<|ite (b=(n? #[99,111,117,110,116])) (M a35)<|ite (b=(n? #[115,117,109])) (M a35)<|ite (b=(n? #[97,108,108])) (M a35)<|ite (b=(n? #[97,110,121])) (M a35)<|ite (b=(n? #[109,111,115,116])) (M a35)<|ite (b=(n? #[101,110,117,109])) (M a35)<|ite (b=(n? #[116,97,98,108,101])) (M a35)<|ite (b=(n? #[114,111,119])) (M a35)<|ite (b=(n? #[115,99,111,112,101])) (M a35)<|ite (b=(n? #[109,101,109,98,101,114,115])) (M a35)<|ite (b=(n? #[105,110,112,117,116])) (M a35)<|ite (b=(n? #[100,101,102])) (M a35)<|ite (b=(n? #[114,117,108,101])) (M a35)<|ite (b=(n? #[111,102])) (M a35)<|ite (b=(n? #[111,118,101,114])) (M a35)<|ite (b=(n? #[112,114,105,111])) (M a35)<|ite (b=(n? #[102,114,111,109])) (M a35)<|ite (b=(n? #[116,111])) (M a35)<|ite (b=(n? #[101,110,100])) (M a35)<|ite (b=(n? #[119,104,101,110])) (M a35)<|ite (b=(n? #[105,115])) (M a35)<|ite (b=(n? #[115,114,99])) (M a35)<|ite (b=(n? #[98,111,111,108])) (M a35)<|ite (b=(n? #[105,110,116])) (M a35)<|ite (b=(n? #[109,111,110,101,121])) (M a35)<|ite (b=(n? #[114,97,116,101])) (M a35)<|ite (b=(n? #[100,97,116,101])) (M a35)<|ite (b=(n? #[100,111,119,110])) (M a35)<|ite (b=(n? #[117,112])) (M a35)<|ite (b=(n? #[122,101,114,111])) (M a35)<|ite (b=(n? #[97,119,97,121])) (M a35)<|ite (b=(n? #[104,97,108,102])) (M a35)<|M (s5 (b=(n? #[101,118,101,110])))) λa=>ite a (M a35)<|M a36
def fc(f:ByteArray):Option Bool:=b? (ite (¬f=(n? #[])) ((tA f 0).bind λb=>(eu b).bind λc=>ite c ((jo f).bind λd=>ite (d=(f.size:Int)) (ite ((f.size:Int)<=16) ((ug f).bind λe=>M (!e))<|M a36)<|M a36)<|M a36)<|M a36) λa=>M a
def Ce(d:List na) (e:(na->Option Bool)):p6 Int Unit Int:=λc=>ite (c<a00 d) ((c! d c).bind λa=>(e a).bind λb=>ite b (M (l? c))<|M (i! (aa b! (c+1))))<|M (i? ())
def Rc(a:List na) (b:(na->Option Bool)):Option Int:=(ca (Ce a b) 0).bind λy=>match y with |.inr v=>M v |.inl _=>M (-1)
def ub(b:List na) (c:(na->Option Bool)):Option Bool:=(Rc b c).bind λa=>M (s5 (0<=a))
def ki(a:na) (b:ByteArray):Option Bool:=M (s5 (a.n=b))
def Pr(c:List na) (d:ByteArray):Option Bool:=(ub c (λa=>ki a d)).bind λb=>M b
def Ye(c:List ByteArray) (d:ByteArray):p6 Int Unit Int:=λb=>ite (b<a00 c) ((c! c b).bind λa=>ite (d=a) (M (l? b))<|M (i! (aa b! (b+1))))<|M (i? ())
def Xk(a:List ByteArray) (b:ByteArray):Option Int:=(ca (Ye a b) 0).bind λy=>match y with |.inr v=>M v |.inl _=>M (-1)
def Xe(b:List ByteArray) (c:ByteArray):Option Bool:=(Xk b c).bind λa=>M (s5 (0<=a))
def Zn(f:na):p6 Int Unit (Int×Int):=λa=>ite (a<a00 f.s) ((c! f.s a).bind λb=>(fc b).bind λc=>ite (c=a36) (M (l? (2,aa b! (100+a))))<|(Fw f.s a).bind λd=>(Xe d b).bind λe=>ite e (M (l? (7,aa b! (100+a))))<|M (i! (aa b! (a+1))))<|M (i? ())
def au(e:cb) (f:Int) (d:na):Option (Int×Int):=(fc d.n).bind λa=>ite (a=a36) (M (2,0))<|(Fw e.r f).bind λb=>(Pr b d.n).bind λc=>ite c (M (7,0))<|ite ((a00 d.s:Int)=0) (M (5,0))<|ite (16<(a00 d.s:Int)) (M (4,116))<|(ca (Zn d) 0).bind λy=>match y with |.inr v=>M v |.inl _=>M (0,0)
def fm(d:cb):p6 Int Unit ll:=λc=>ite (c<a00 d.r) ((c! d.r c).bind λb=>(au d c b).bind λa=>ite (¬a.1=0) (M (l? (ll.mk a.1 1 c a.2)))<|M (i! (aa b! (c+1))))<|M (i? ())
def Tv(a:cb):Option ll:=ite (8<(a00 a.r:Int)) (M (ll.mk 4 1 8 0))<|(ca (fm a) 0).bind λy=>match y with |.inr v=>M v |.inl _=>M (ll.mk 0 0 0 0)
def kd(c:ej) (d:List na):Option Bool:=b? (ite (c.a=1) (M a35)<|ite (c.a=2) (M a35)<|ite (c.a=3) (M a35)<|ite (c.a=4) (M a35)<|M (c.a==5)) λa=>ite a (M (c.g==0))<|ite (c.a=6) (b? (ite (0<=c.g) (M (s5 (c.g<a00 d)))<|M a36) λb=>M b)<|M a36
def Tc(c:ej) (d:List na):Option (Int×Int):=(kd c d).bind λa=>ite (a=a36) (M (0,-1))<|ite (c.a=1) (M (0,1))<|ite (c.a=2) (M (-1000000000000,1000000000000))<|ite (c.a=3) (M (-1000000000000000,1000000000000000))<|ite (c.a=4) (M (-1000000000,1000000000))<|ite (c.a=5) (M (0,109572))<|(c! d c.g).bind λb=>M (0,aa b! ((a00 b.s:Int)-1))
def ie(b:hO):Option Bool:=b? (ite (0<=b.j) (ite (b.j<=b.To) (M (s5 (b.To<=109573)))<|M a36)<|M a36) λa=>M a
def Xb(d:List se) (e:(se->Option Bool)):p6 Int Unit (Int×Bool):=λc=>ite (c<a00 d) ((c! d c).bind λa=>(e a).bind λb=>ite b (M (l? (c,a35)))<|M (i! (aa b! (c+1))))<|M (i? ())
def vc(a:List se) (b:(se->Option Bool)):Option (Int×Bool):=(ca (Xb a b) 0).bind λy=>match y with |.inr v=>M v |.inl _=>M (0,a36)
def Dd(c:hO):Option Bool:=b? ((ie c).bind λb=>ite b (M (s5 (c.j<c.To)))<|M a36) λa=>M a
def Bn(d e:hO):Option (hO×Bool):=b? ((Dd d).bind λb=>ite b ((Dd e).bind λc=>M (!c))<|M a35) λa=>ite a (M (hO.mk 0 0,a36))<|ite ((min d.To e.To)<=(max d.j e.j)) (M (hO.mk 0 0,a36))<|M (hO.mk (max d.j e.j) (min d.To e.To),a35)
def Ms(c d:se):Option Bool:=(Bn c.aa d.aa).bind λb=>b? (ite b.2 (M (s5 ((max c.Lo d.Lo)<(min c.Hi d.Hi))))<|M a36) λa=>M a
def Ze(b c:se):Option Bool:=(Ms b c).bind λa=>M a
def Xm(l:oe) (d k:(Int×Int)):p6 Int Unit (Int×Int):=λb=>ite (b<a00 l.Rows) ((c! l.Rows b).bind λa=>b? ((ie a.aa).bind λh=>ite h (ite (¬a.aa.j=a.aa.To) (M (s5 (a.Hi<=a.Lo)))<|M a35)<|M a35) λe=>ite e (M (l? (b,3)))<|b? (ite (¬a.Lo<d.1) (ite (¬d.2<a.Lo) (ite (¬(aa b! (a.Hi-1))<d.1) (M (s5 (d.2<(aa b! (a.Hi-1)))))<|M a35)<|M a35)<|M a35) λf=>ite f (M (l? (b,3)))<|b? (ite (¬a.N<k.1) (M (s5 (k.2<a.N)))<|M a35) λg=>ite g (M (l? (b,3)))<|(Fw l.Rows b).bind λi=>(vc i (λc=>Ze c a)).bind λj=>ite j.2 (M (l? (b,11)))<|M (i! (aa b! (b+1))))<|M (i? ())
def Ls(f:oe) (g:List na):Option (Int×Int):=ite (64<(a00 f.Rows:Int)) (M (64,4))<|b? ((kd f.af g).bind λb=>ite b ((kd f.Value g).bind λc=>M (!c))<|M a35) λa=>ite a (M (-1,8))<|(Tc f.af g).bind λd=>(Tc f.Value g).bind λe=>(ca (Xm f d e) 0).bind λy=>match y with |.inr v=>M v |.inl _=>M (0,0)
def Pd(d:List oe) (e:(oe->Option Bool)):p6 Int Unit Int:=λc=>ite (c<a00 d) ((c! d c).bind λa=>(e a).bind λb=>ite b (M (l? c))<|M (i! (aa b! (c+1))))<|M (i? ())
def tc(a:List oe) (b:(oe->Option Bool)):Option Int:=(ca (Pd a b) 0).bind λy=>match y with |.inr v=>M v |.inl _=>M (-1)
def ib(b:List oe) (c:(oe->Option Bool)):Option Bool:=(tc b c).bind λa=>M (s5 (0<=a))
def Og(a:oe) (b:ByteArray):Option Bool:=M (s5 (a.n=b))
def bt(c:List oe) (d:ByteArray):Option Bool:=(ib c (λa=>Og a d)).bind λb=>M b
def qk(j:cb):p6 Int Unit ll:=λk=>ite (k<a00 j.Tables) ((c! j.Tables k).bind λc=>(Ls c j.r).bind λb=>b? ((fc c.n).bind λh=>ite (h=a36) (M (2,0))<|b? ((Pr j.r c.n).bind λi=>ite (i=a36) ((Fw j.Tables k).bind λf=>(bt f c.n).bind λg=>M g)<|M a35) λd=>ite d (M (7,0))<|ite (¬b.2=0) (ite (¬b.1=(-1)) (M (b.2,aa b! (100+b.1)))<|M (b.2,0))<|M (0,0)) λ(a,e)=>ite (¬a=0) (M (l? (ll.mk a 2 k e)))<|M (i! (aa b! (k+1))))<|M (i? ())
def Du(a:cb):Option ll:=ite (8<(a00 a.Tables:Int)) (M (ll.mk 4 2 8 0))<|(ca (qk a) 0).bind λy=>match y with |.inr v=>M v |.inl _=>M (ll.mk 0 0 0 0)
def rm(d:List ml):p6 (List ej×Int) (List ej) Unit:=λ(e,c)=>ite (c<a00 d) ((c! d c).bind λa=>(app 16 e ([a.an])).bind λb=>M (i! (b,aa b! (c+1))))<|M (i? e)
def rk(b:List ml):Option (List ej):=(ca (rm b) (([]:List ej),0)).bind λy=>match y with |.inr _=>q6 |.inl a=>M a
def Hg(i:cb) (j:Int):Option om:=(c! i.e j).bind λa=>(rk a.w).bind λe=>(rk a.d).bind λf=>b? (b? (ite (0<=a.ac) (M (s5 (a.ac<a00 i.e)))<|M a36) λc=>ite c ((c! i.e a.ac).bind λg=>(rk g.d).bind λh=>M (h,a35))<|M (([]:List ej),a36)) λ(d,b)=>M (om.mk i.r i.Tables e f d b)
def Wl(a:List (List Int)) (b:Int):Option (List Int):=ite (a00 a<=1048576/\(∀l∈a,a00 l<=1048576/\∀e∈l,0<=e/\e<a00 a)/\0<=b/\b<a00 a) (M (tO a b)) q6
def Wa(a:List Int):Option (List Int):=ite (a00 a<=8796093022208) (M (a.mergeSort λx y=>s5 (x<=y))) q6
def La(a:List Int):Option (List Int):=ite (a00 a<=8796093022208) (M (Go.Lib.compact a)) q6
def dn(c:List Int):Option (List Int):=(Wa c).bind λa=>(La a).bind λb=>M b
def ik(m:List fr):p6 (List Int×List Int×List Int×Int) (List Int×List Int×List Int) Unit:=λ(k,l,b,g)=>ite (g<a00 m) (b? ((c! m g).bind λa=>ite (a.Op=7) ((app 8 k ([a.N])).bind λj=>M (j,l,b))<|ite (a.Op=8) ((app 8 l ([a.N])).bind λh=>M (k,h,b))<|b? (ite (a.Op=36) (M a35)<|ite (a.Op=37) (M a35)<|ite (a.Op=38) (M a35)<|M (a.Op==39)) λc=>ite c ((app 8 b ([a.N])).bind λi=>M (k,l,i))<|M (k,l,b)) λ(d,e,f)=>M (i! (d,e,f,aa b! (g+1))))<|M (i? (k,l,b))
def Lg(g:List fr):Option (List Int×List Int×List Int):=(ca (ik g) (([]:List Int),([]:List Int),([]:List Int),0)).bind λy=>match y with |.inr _=>q6 |.inl (a,b,c)=>(dn a).bind λd=>(dn b).bind λe=>(dn c).bind λf=>M (d,e,f)
def Zg(h:Int) (f:(List Int×List Int×List Int)):p6 (List Int×Int) (List Int) Unit:=λ(b,c)=>ite (c<a00 f.2.1) (b? ((c! f.2.1 c).bind λe=>b? (ite (0<=e) (M (s5 (e<h)))<|M a36) λg=>ite g ((app 8 b ([e])).bind λd=>M d)<|M b) λa=>M (i! (a,aa b! (c+1))))<|M (i? b)
def Yg(h:Int) (g:(List Int×List Int×List Int)):p6 (List Int×Int) (List Int) Unit:=λ(a,b)=>ite (b<a00 g.2.1) (b? ((c! g.2.1 b).bind λc=>b? (ite (0<=c) (M (s5 (c<h)))<|M a36) λd=>ite d ((app 8 a ([c])).bind λf=>M f)<|M a) λe=>M (i! (e,aa b! (b+1))))<|M (i? a)
def Af(e:ke) (f:Int):Option (List Int):=(Lg e.ag).bind λc=>(Lg e.Value).bind λd=>(ca (Zg f c) (([]:List Int),0)).bind λy=>match y with |.inr _=>q6 |.inl a=>(ca (Yg f d) (a,0)).bind λy=>match y with |.inr _=>q6 |.inl b=>M b
def ck(c:List Int):Option (List Int):=(Wa c).bind λa=>(La a).bind λb=>M b
def Yc(a:ek):Option (List (List Int)):=ite (a00 a.d<=1048576/\a.f.length<=1048576/\(∀r∈a.f,a00 r.ag<=1048576/\r.Value.length<=1048576)) ((o? a.d.length).mapM λ(d:Nat)=>((a.f.filter λ(r:ke)=>r.u==(d:Int)).mapM λr=>Af r a.d.length).bind λls=>M (Vd ls.flatten)) q6
def Xc(f:ek) (e:Int):Option (List Int):=b? (ite (¬e<0) (M (s5 ((a00 f.d:Int)<=e)))<|M a35) λa=>ite a (M ([]))<|(Yc f).bind λb=>(Wl b e).bind λc=>M c
def Od(d:List ek) (e:(ek->Option Bool)):p6 Int Unit Int:=λc=>ite (c<a00 d) ((c! d c).bind λa=>(e a).bind λb=>ite b (M (l? c))<|M (i! (aa b! (c+1))))<|M (i? ())
def qc(a:List ek) (b:(ek->Option Bool)):Option Int:=(ca (Od a b) 0).bind λy=>match y with |.inr v=>M v |.inl _=>M (-1)
def gb(b:List ek) (c:(ek->Option Bool)):Option Bool:=(qc b c).bind λa=>M (s5 (0<=a))
def Re(a b:ek):Option Bool:=M (s5 (a.n=b.n))
def Gd(a b:ml):Option Bool:=M (s5 (a.n=b.n))
def Nd(d:List ml) (e:(ml->Option Bool)):p6 Int Unit Int:=λc=>ite (c<a00 d) ((c! d c).bind λa=>(e a).bind λb=>ite b (M (l? c))<|M (i! (aa b! (c+1))))<|M (i? ())
def pc(a:List ml) (b:(ml->Option Bool)):Option Int:=(ca (Nd a b) 0).bind λy=>match y with |.inr v=>M v |.inl _=>M (-1)
def Pa(b:List ml) (c:(ml->Option Bool)):Option Bool:=(pc b c).bind λa=>M (s5 (0<=a))
def bo(i:cb) (h:ml) (j c:List ml):Option Int:=(fc h.n).bind λd=>ite (d=a36) (M 2)<|b? ((Pa j (λa=>Gd a h)).bind λe=>ite (e=a36) ((Pa c (λa=>Gd a h)).bind λf=>M f)<|M a35) λb=>ite b (M 7)<|(kd h.an i.r).bind λg=>ite (g=a36) (M 8)<|M 0
def De(d:List ke) (e:(ke->Option Bool)):p6 Int Unit Int:=λc=>ite (c<a00 d) ((c! d c).bind λa=>(e a).bind λb=>ite b (M (l? c))<|M (i! (aa b! (c+1))))<|M (i? ())
def Sc(a:List ke) (b:(ke->Option Bool)):Option Int:=(ca (De a b) 0).bind λy=>match y with |.inr v=>M v |.inl _=>M (-1)
def vb(b:List ke) (c:(ke->Option Bool)):Option Bool:=(Sc b c).bind λa=>M (s5 (0<=a))
def Tf(a b:ke):Option Bool:=M (s5 (a.n=b.n))
def w!(b a:ByteArray):Option Bool:=ite (a.size=1) (M (b.data.toList.contains (a.data.toList.headD 0))) q6
def uk(d:ByteArray):p6 Int Unit Bool:=λa=>ite (a<(d.size:Int)) (b? ((tA d a).bind λb=>ite (¬b<32) (M (s5 (126<b)))<|M a35) λc=>ite c (M (l? a36))<|M (i! (aa b! (a+1))))<|M (i? ())
def Up(c:ByteArray):Option Bool:=b? (ite (¬64<(c.size:Int)) ((w! c (n? #[34])).bind λb=>M b)<|M a35) λa=>ite a (M a36)<|(ca (uk c) 0).bind λy=>match y with |.inr v=>M v |.inl _=>M a35
def cn(d:Int):Option Int:=b? (ite (d=1) (M a35)<|ite (d=2) (M a35)<|ite (d=3) (M a35)<|ite (d=4) (M a35)<|ite (d=5) (M a35)<|ite (d=6) (M a35)<|ite (d=7) (M a35)<|ite (d=8) (M a35)<|ite (d=9) (M a35)<|ite (d=35) (M a35)<|ite (d=36) (M a35)<|ite (d=37) (M a35)<|ite (d=38) (M a35)<|M (d==39)) λa=>ite a (M 0)<|b? (ite (d=10) (M a35)<|ite (d=25) (M a35)<|ite (d=31) (M a35)<|ite (d=32) (M a35)<|ite (d=33) (M a35)<|M (d==34)) λb=>ite b (M 1)<|b? (ite (d=11) (M a35)<|ite (d=12) (M a35)<|ite (d=13) (M a35)<|ite (d=14) (M a35)<|ite (d=15) (M a35)<|ite (d=16) (M a35)<|ite (d=17) (M a35)<|ite (d=18) (M a35)<|ite (d=19) (M a35)<|ite (d=20) (M a35)<|ite (d=21) (M a35)<|ite (d=22) (M a35)<|ite (d=23) (M a35)<|ite (d=24) (M a35)<|ite (d=27) (M a35)<|ite (d=28) (M a35)<|ite (d=29) (M a35)<|M (d==30)) λc=>ite c (M 2)<|ite (d=26) (M 3)<|M (-1)
def Zl(m:List fr):p6 (List Int×List Int×Int) (List Int×List Int) (List Int×Int×Int):=λ(g,c,a)=>ite (a<a00 m) ((c! m a).bind λl=>(cn l.Op).bind λf=>ite (f<0) (M (l? ([],a,2)))<|ite ((a00 c:Int)<f) (M (l? ([],a,5)))<|(c! g a).bind λn=>(put g a a).bind λb=>b? (ite (0<f) ((c! c (aa b! ((a00 c:Int)-f))).bind λh=>(c! b a).bind λo=>(put b a h).bind λi=>M i)<|M b) λd=>(Fw c (aa b! ((a00 c:Int)-f))).bind λj=>(c! d a).bind λk=>(app 8 j ([k])).bind λe=>ite (12<(a00 e:Int)) (M (l? ([],a,16)))<|M (i! (d,e,aa b! (a+1))))<|M (i? (g,c))
def Un(d:List fr):Option (List Int×Int×Int):=ite (48<(a00 d:Int)) (M ([],0,4))<|ite ((a00 d:Int)=0) (M ([],0,5))<|(fD 8 0 (a00 d:Int) (a00 d:Int)).bind λc=>(ca (Zl d) (c,([]:List Int),0)).bind λy=>match y with |.inr v=>M v |.inl (a,b)=>ite (1<(a00 b:Int)) (M ([],(a00 d:Int),4))<|M (a,0,0)
def Jr(b:Int):Option Bool:=b? (ite (b=1) (M a35)<|ite (b=2) (M a35)<|ite (b=3) (M a35)<|ite (b=4) (M a35)<|ite (b=5) (M a35)<|ite (b=6) (M a35)<|ite (b=7) (M a35)<|ite (b=8) (M a35)<|ite (b=14) (M a35)<|ite (b=15) (M a35)<|ite (b=16) (M a35)<|ite (b=33) (M a35)<|ite (b=34) (M a35)<|ite (b=36) (M a35)<|ite (b=37) (M a35)<|ite (b=38) (M a35)<|M (b==39)) λa=>ite a (M a35)<|M a36
def we(c d:Int) (e:om):Option (ej×Int):=(Tc (ej.mk d 0) e.r).bind λa=>b? (ite (¬c<a.1) (M (s5 (a.2<c)))<|M a35) λb=>ite b (M (ej.mk 0 0,3))<|M (ej.mk d 0,0)
def Yt(c:Int) (d:om):Option (ej×Int):=ite (c<0) (M (ej.mk 0 0,3))<|b? (if¬(a00 d.r:Int)<=(aa b! (s? c 16))then(c! d.r (aa b! (s? c 16))).bind λb=>M (s5 ((a00 b.s:Int)<=(v? c 16)))else M a35) λa=>ite a (M (ej.mk 0 0,6))<|M (ej.mk 6 (aa b! (s? c 16)),0)
def xc(d:Int) (e:List ej) (f:om):Option (ej×Int):=b? (ite (¬d<0) (M (s5 ((a00 e:Int)<=d)))<|M a35) λb=>ite b (M (ej.mk 0 0,6))<|(c! e d).bind λa=>(kd a f.r).bind λc=>ite (c=a36) (M (ej.mk 0 0,8))<|M (a,0)
def fi(b:Int):Option Bool:=b? (ite (0<=b) (M (s5 (b<=5)))<|M a36) λa=>M a
def lk(j:fr) (l:ej) (k:om):Option (ej×Int):=b? (ite (j.Op=34) (b? (ite (¬j.N<0) ((fi (v? j.N 8)).bind λi=>M (!i))<|M a35) λg=>ite g (M (Sum.inr (ej.mk 0 0,3)))<|M (Sum.inl (aa b! (s? j.N 8))))<|M (Sum.inl j.N)) λz=>match z with |.inr v=>M v |.inl d=>b? (ite (¬d<0) (M (s5 ((a00 k.Tables:Int)<=d)))<|M a35) λh=>ite h (M (ej.mk 0 0,6))<|(c! k.Tables d).bind λa=>b? ((kd a.af k.r).bind λe=>ite e ((kd a.Value k.r).bind λf=>ite f (M (!((l.a==a.af.a)&&(l.g==a.af.g))))<|M a35)<|M a35) λb=>ite b (M (ej.mk 0 0,8))<|ite (j.Op=34) (b? (ite (a.af.a=3) (M (a.Value.a !=4))<|M a35) λc=>ite c (M (ej.mk 0 0,8))<|M (a.af,0))<|M (a.Value,0)
def Mh(b:Int):Option Bool:=b? (ite (¬b=2) (ite (¬b=3) (M (b==4))<|M a35)<|M a35) λa=>M a
def Mg(e:fr) (f:om):Option (ej×Int):=ite (f.a6=a36) (M (ej.mk 0 0,6))<|ite (e.Op=35) (M (ej.mk 2 0,0))<|(xc e.N f.ay f).bind λa=>ite (¬a.2=0) (M (ej.mk 0 0,a.2))<|b? (ite (e.Op=36) (ite (¬a.1.a=2) (M (a.1.a==3))<|M a35)<|b? (ite (e.Op=37) (M a35)<|M (e.Op==38)) λd=>ite d (M (a.1.a==1))<|ite (e.Op=39) ((Mh a.1.a).bind λc=>ite (c=a36) (M (a.1.a==5))<|M a35)<|M a36) λb=>ite (b=a36) (M (ej.mk 0 0,8))<|M (a.1,0)
def Tn(f d e:Int):Option (ej×Bool):=ite (f=14) (b? (ite (e=4) (ite (¬d=3) (M (d==4))<|M a35)<|M a36) λb=>M (ej.mk d 0,b))<|ite (e=2) (b? (ite (¬d=2) (M (d==3))<|M a35) λc=>M (ej.mk d 0,c))<|b? (ite (f=15) (ite (d=3) (M (e==3))<|M a36)<|M a36) λa=>ite a (M (ej.mk 4 0,a35))<|M (ej.mk 0 0,a36)
def Ja(J:Int) (U:List ej):Option (ej×Bool):=ite (J=10) ((c! U 0).bind λx2=>(Mh x2.a).bind λx3=>M (x2,x3))<|ite (J=25) ((c! U 0).bind λx5=>M (ej.mk 1 0,x5.a==1))<|b? (ite (J=11) (M a35)<|M (J==12)) λj7=>ite j7 (b? ((c! U 0).bind λf=>(c! U 1).bind λg=>ite (f.a=g.a/\f.g=g.g) ((Mh f.a).bind λN=>M (f.a,f.g,N))<|M (f.a,f.g,a36)) λ(n,o,p)=>M (ej.mk n o,p))<|b? (ite (J=13) (M a35)<|ite (J=14) (M a35)<|M (J==15)) λq=>ite q ((c! U 0).bind λO=>(c! U 1).bind λP=>(Tn J O.a P.a).bind λh=>M (h.1,h.2))<|ite (J=16) (b? ((c! U 0).bind λc=>ite (c.a=3) ((c! U 1).bind λQ=>M (c.a,c.g,Q.a==3))<|M (c.a,c.g,a36)) λ(r,s,t)=>M (ej.mk r s,t))<|b? (ite (J=17) (M a35)<|M (J==18)) λu=>ite u (b? ((c! U 0).bind λa=>(c! U 1).bind λi=>ite (a.a=i.a/\a.g=i.g) ((Mh a.a).bind λR=>ite (R=a36) (M (a.a,a.g,a.a==5))<|M (a.a,a.g,a35))<|M (a.a,a.g,a36)) λ(v,w,x)=>M (ej.mk v w,x))<|b? (ite (J=19) (M a35)<|M (J==20)) λy=>ite y ((c! U 0).bind λj=>(c! U 1).bind λk=>M (ej.mk 1 0,(j.a==k.a)&&(j.g==k.g)))<|b? (ite (J=21) (M a35)<|M (J==22)) λz=>ite z (b? ((c! U 0).bind λe=>(c! U 1).bind λl=>ite (e.a=l.a/\e.g=l.g) ((Mh e.a).bind λS=>ite (S=a36) (M (e.a==5))<|M a35)<|M a36) λA=>M (ej.mk 1 0,A))<|b? (ite (J=23) (M a35)<|M (J==24)) λB=>ite B (b? ((c! U 0).bind λT=>ite (T.a=1) ((c! U 1).bind λj6=>M (j6.a==1))<|M a36) λC=>M (ej.mk 1 0,C))<|ite (J=26) (b? ((c! U 1).bind λb=>(c! U 0).bind λV=>ite (V.a=1) ((c! U 2).bind λm=>M (b.a,b.g,(b.a==m.a)&&(b.g==m.g)))<|M (b.a,b.g,a36)) λ(D,E,F)=>M (ej.mk D E,F))<|b? (ite (J=27) (M a35)<|M (J==28)) λG=>ite G (b? ((c! U 0).bind λd=>ite (d.a=5) ((c! U 1).bind λW=>M (d.a,d.g,W.a==2))<|M (d.a,d.g,a36)) λ(H,I,j8)=>M (ej.mk H I,j8))<|b? (ite (J=29) (M a35)<|M (J==30)) λK=>ite K (b? ((c! U 0).bind λX=>ite (X.a=5) ((c! U 1).bind λY=>M (Y.a==5))<|M a36) λL=>M (ej.mk 2 0,L))<|b? (ite (J=31) (M a35)<|M (J==32)) λj4=>ite j4 ((c! U 0).bind λZ=>M (ej.mk 2 0,Z.a==5))<|M (ej.mk 0 0,a36)
def va(q:fr) (s:List ej) (r:om):Option (ej×Int):=b? (ite (q.Op=1) ((we q.N 1 r).bind λm=>M (Sum.inr (m.1,m.2)))<|ite (q.Op=2) ((we q.N 2 r).bind λn=>M (Sum.inr (n.1,n.2)))<|ite (q.Op=3) ((we q.N 3 r).bind λo=>M (Sum.inr (o.1,o.2)))<|ite (q.Op=4) ((we q.N 4 r).bind λp=>M (Sum.inr (p.1,p.2)))<|ite (q.Op=5) ((we q.N 5 r).bind λa=>M (Sum.inr (a.1,a.2)))<|ite (q.Op=6) ((Yt q.N r).bind λb=>M (Sum.inr (b.1,b.2)))<|ite (q.Op=7) ((xc q.N r.w r).bind λc=>M (Sum.inr (c.1,c.2)))<|ite (q.Op=8) ((xc q.N r.d r).bind λd=>M (Sum.inr (d.1,d.2)))<|ite (q.Op=9) (M (Sum.inr (ej.mk 5 0,0)))<|b? (ite (q.Op=33) (M a35)<|M (q.Op==34)) λh=>ite h ((c! s 0).bind λk=>(lk q k r).bind λe=>M (Sum.inr (e.1,e.2)))<|b? (ite (q.Op=35) (M a35)<|ite (q.Op=36) (M a35)<|ite (q.Op=37) (M a35)<|ite (q.Op=38) (M a35)<|M (q.Op==39)) λi=>ite i ((Mg q r).bind λf=>M (Sum.inr (f.1,f.2)))<|b? (ite (q.Op=14) (M a35)<|ite (q.Op=15) (M a35)<|M (q.Op==16)) λj=>ite j ((fi q.N).bind λl=>ite (l=a36) (M (Sum.inr (ej.mk 0 0,3)))<|M (Sum.inl ()))<|M (Sum.inl ())) λz=>match z with |.inr v=>M v |.inl _=>(Ja q.Op s).bind λg=>ite (g.2=a36) (M (ej.mk 0 0,8))<|M (g.1,0)
def Ir(k:List fr) (l:om):p6 (List ej×Int) (List ej) (ej×Int×Int):=λ(b,c)=>ite (c<a00 k) ((c! k c).bind λe=>b? (ite (¬e.N=0) ((Jr e.Op).bind λj=>M (!j))<|M a36) λi=>ite i (M (l? (ej.mk 0 0,c,2)))<|(cn e.Op).bind λd=>(pK b (aa b! ((a00 b:Int)-d))).bind λf=>(va e f l).bind λa=>ite (¬a.2=0) (M (l? (ej.mk 0 0,c,a.2)))<|(Fw b (aa b! ((a00 b:Int)-d))).bind λg=>(app 16 g ([a.1])).bind λh=>M (i! (h,aa b! (c+1))))<|M (i? b)
def gy(d:List fr) (e:om):Option (ej×Int×Int):=(Un d).bind λb=>ite (¬b.2.2=0) (M (ej.mk 0 0,b.2.1,b.2.2))<|(ca (Ir d e) (([]:List ej),0)).bind λy=>match y with |.inr v=>M v |.inl a=>(c! a 0).bind λc=>M (c,0,0)
def Cq(c:List fr) (d:om) (b:ej):Option Int:=(gy c d).bind λa=>ite (¬a.2.2=0) (M a.2.2)<|ite (¬(a.1.a=b.a/\a.1.g=b.g)) (M 8)<|M 0
def eo(e:ke) (c:List ke):p6 (Int×Int) Int Unit:=λ(a,b)=>ite (b<a00 c) (b? ((c! c b).bind λf=>ite (f.u=e.u) (M (aa b! (a+1)))<|M a) λd=>M (i! (d,aa b! (b+1))))<|M (i? a)
def bu(q:ek) (r:Int) (s:om):Option Int:=(c! q.f r).bind λa=>(Fw q.f r).bind λp=>(ca (eo a p) (0,0)).bind λy=>match y with |.inr _=>q6 |.inl d=>(fc a.n).bind λi=>ite (i=a36) (M 2)<|(Fw q.f r).bind λj=>(vb j (λc=>Tf c a)).bind λk=>ite k (M 7)<|b? (ite (¬a.u<0) (M (s5 ((a00 q.d:Int)<=a.u)))<|M a35) λe=>ite e (M 6)<|b? (ite (¬a.al=(-1)) (ite (¬a.al<0) (ite (¬r<=a.al) ((c! q.f a.al).bind λl=>M (l.u !=a.u))<|M a35)<|M a35)<|M a36) λf=>ite f (M 9)<|b? (ite (¬a.ax<0) (M (s5 (9<a.ax)))<|M a35) λg=>ite g (M 3)<|b? (ite (¬a.aa.j<0) (ite (¬a.aa.To<=a.aa.j) (M (s5 (109573<a.aa.To)))<|M a35)<|M a35) λh=>ite h (M 3)<|ite (8<=d) (M 4)<|(Up a.a4).bind λm=>ite (m=a36) (M 2)<|b? (ite (0<(a00 a.ag:Int)) ((Cq a.ag s (ej.mk 1 0)).bind λb=>ite (¬b=0) (M (Sum.inr b))<|M (Sum.inl ()))<|M (Sum.inl ())) λz=>match z with |.inr v=>M v |.inl _=>(c! q.d a.u).bind λn=>(Cq a.Value s n.an).bind λo=>M o
def Vi(c:List Int) (d:Int):p6 Int Unit Int:=λb=>ite (b<a00 c) ((c! c b).bind λa=>ite (d=a) (M (l? b))<|M (i! (aa b! (b+1))))<|M (i? ())
def Js(a:List Int) (b:Int):Option Int:=(ca (Vi a b) 0).bind λy=>match y with |.inr v=>M v |.inl _=>M (-1)
def bg(b:List Int) (c:Int):Option Bool:=(Js b c).bind λa=>M (s5 (0<=a))
def qm(f:cb) (c:ek):p6 Int Unit (Int×Int):=λa=>ite (a<a00 c.w) ((c! c.w a).bind λd=>(Fw c.w a).bind λe=>(bo f d e ([])).bind λb=>ite (¬b=0) (M (l? (b,aa b! (100+a))))<|M (i! (aa b! (a+1))))<|M (i? ())
def km(f:cb) (c:ek):p6 Int Unit (Int×Int):=λa=>ite (a<a00 c.d) ((c! c.d a).bind λd=>(Fw c.d a).bind λe=>(bo f d c.w e).bind λb=>ite (¬b=0) (M (l? (b,aa b! (200+a))))<|M (i! (aa b! (a+1))))<|M (i? ())
def im(d:ek) (c:om):p6 Int Unit (Int×Int):=λa=>ite (a<a00 d.f) ((bu d a c).bind λb=>ite (¬b=0) (M (l? (b,aa b! (300+a))))<|M (i! (aa b! (a+1))))<|M (i? ())
def gm(d:ek):p6 Int Unit (Int×Int):=λa=>ite (a<a00 d.d) ((Xc d a).bind λb=>(bg b a).bind λc=>ite c (M (l? (9,aa b! (200+a))))<|M (i! (aa b! (a+1))))<|M (i? ())
def Nr(l:cb) (m:Int):Option (Int×Int):=(c! l.e m).bind λa=>(Fw l.e m).bind λf=>b? ((Pr l.r a.n).bind λh=>ite (h=a36) ((bt l.Tables a.n).bind λi=>ite (i=a36) ((gb f (λb=>Re b a)).bind λj=>M j)<|M a35)<|M a35) λg=>(fc a.n).bind λk=>ite (k=a36) (M (2,0))<|ite g (M (7,0))<|b? (ite (¬a.ac=(-1)) (ite (¬a.ac<0) (ite (¬m<=a.ac) ((c! f a.ac).bind λd=>M (d.ac !=(-1)))<|M a35)<|M a35)<|M a36) λc=>ite c (M (6,0))<|ite (12<(a00 a.w:Int)) (M (4,112))<|ite (12<(a00 a.d:Int)) (M (4,212))<|(ca (qm l a) 0).bind λy=>match y with |.inr v=>M v |.inl _=>(ca (km l a) 0).bind λy=>match y with |.inr v=>M v |.inl _=>(Hg l m).bind λe=>(ca (im a e) 0).bind λy=>match y with |.inr v=>M v |.inl _=>(ca (gm a) 0).bind λy=>match y with |.inr v=>M v |.inl _=>M (0,0)
def pk(c:cb):p6 Int Unit ll:=λb=>ite (b<a00 c.e) ((Nr c b).bind λa=>ite (¬a.1=0) (M (l? (ll.mk a.1 3 b a.2)))<|M (i! (aa b! (b+1))))<|M (i? ())
def Cu(a:cb):Option ll:=ite (4<(a00 a.e:Int)) (M (ll.mk 4 3 4 0))<|(ca (pk a) 0).bind λy=>match y with |.inr v=>M v |.inl _=>M (ll.mk 0 0 0 0)
def rp(d:cb):Option ll:=(Tv d).bind λa=>ite (¬a.Code=0) (M a)<|(Du d).bind λb=>ite (¬b.Code=0) (M b)<|(Cu d).bind λc=>M c
def mg(q:List ke) (r:(ke->Option Bool)):p6 (List Int×List Int×List Int×Int) (List Int×List Int) Unit:=λ(p,h,i,a)=>ite (a<a00 q) (b? ((c! q a).bind λd=>b? (b? (ite (0<=d.al) (M (s5 (d.al<a)))<|M a36) λo=>ite o ((c! i d.al).bind λj=>M j)<|M (-1)) λc=>(c! i a).bind λs=>(put i a c).bind λb=>(r d).bind λk=>ite k ((c! b a).bind λt=>(put b a (a00 p:Int)).bind λl=>(app 8 p ([a])).bind λm=>(app 8 h ([c])).bind λn=>M (m,n,l))<|M (p,h,b)) λ(e,f,g)=>M (i! (e,f,g,aa b! (a+1))))<|M (i? (p,h))
def Gg(d:List ke) (e:(ke->Option Bool)):Option (List Int×List Int):=(fD 8 0 (a00 d:Int) (a00 d:Int)).bind λc=>(ca (mg d e) (([]:List Int),([]:List Int),c,0)).bind λy=>match y with |.inr _=>q6 |.inl (a,b)=>M (a,b)
def bc(c:hO) (d:Int):Option Bool:=b? ((ie c).bind λb=>ite b (ite (c.j<=d) (M (s5 (d<c.To)))<|M a36)<|M a36) λa=>M a
def av(b:List fr):Option (List Int×Int):=(Un b).bind λa=>M (a.1,a.2.2)
def Fg(c:ke) (d e:Int):Option Bool:=b? (ite (c.u=d) ((bc c.aa e).bind λb=>M b)<|M a36) λa=>M a
def qj(h:ek) (b:(List Int×List Int)):p6 (List Int×Int) (List Int) Unit:=λ(g,a)=>ite (a<a00 b.1) ((c! b.1 a).bind λc=>(c! h.f c).bind λd=>(app 8 g ([d.ax])).bind λe=>M (i! (e,aa b! (a+1))))<|M (i? g)
def Qn(d:ek) (e g:Int):Option (List Int×List Int×List Int):=(Gg d.f (λa=>Fg a e g)).bind λc=>(ca (qj d c) (([]:List Int),0)).bind λy=>match y with |.inr _=>q6 |.inl b=>M (c.1,c.2,b)
def fk(f:te):p6 (List Int×Int×Int) (List Int) Unit:=λ(b,d,a)=>ite (0<=a) ((c! b a).bind λg=>(put b a d).bind λe=>(c! f.starts d).bind λc=>M (i! (e,aa b! (c-1),aa b! (a-1))))<|M (i? b)
def Of(e:te) (f:Int):Option (List Int):=(c! e.nodes f).bind λd=>(cn d.Op).bind λb=>(fD 8 0 b b).bind λc=>(ca (fk e) (c,aa b! (f-1),aa b! ((a00 c:Int)-1))).bind λy=>match y with |.inr _=>q6 |.inl a=>M a
def Sp(g:fr):Option Bool:=b? ((cn g.Op).bind λe=>ite (¬e<0) (ite (¬g.N=0) ((Jr g.Op).bind λf=>M (!f))<|M a36)<|M a35) λc=>ite c (M a36)<|b? (ite (g.Op=14) (M a35)<|ite (g.Op=15) (M a35)<|M (g.Op==16)) λd=>ite d (b? (ite (0<=g.N) (M (s5 (g.N<=5)))<|M a36) λa=>M a)<|ite (g.Op=34) (b? (ite (0<=g.N) (M (s5 ((v? g.N 8)<=5)))<|M a36) λb=>M b)<|ite (g.Op=6) (M (s5 (0<=g.N)))<|M a35
def fy(g:fr) (h:ia):Option Bool:=ite (g.Op=7) (b? (ite (0<=g.N) (M (s5 (g.N<a00 h.w)))<|M a36) λd=>M d)<|ite (g.Op=8) (b? (ite (0<=g.N) (ite (g.N<a00 h.d) ((c! h.d g.N).bind λf=>M (f.a !=0))<|M a36)<|M a36) λe=>M e)<|ite (g.Op=33) (b? (ite (0<=g.N) (M (s5 (g.N<a00 h.Tables)))<|M a36) λa=>M a)<|ite (g.Op=34) (M (s5 ((aa b! (s? g.N 8))<(a00 h.Tables:Int))))<|b? (ite (g.Op=36) (M a35)<|ite (g.Op=37) (M a35)<|ite (g.Op=38) (M a35)<|M (g.Op==39)) λb=>ite b (b? (ite (0<=g.N) (M (s5 (g.N<a00 h.au)))<|M a36) λc=>M c)<|M a35
def Tb(h:bz):Option Bool:=b? (ite (¬h.a=6) (M (h.g !=0))<|M a36) λe=>ite e (M a36)<|ite (h.a=1) (b? (ite (¬h.N=0) (M (h.N==1))<|M a35) λf=>M f)<|ite (h.a=2) (b? (ite ((-1000000000000)<=h.N) (M (s5 (h.N<=1000000000000)))<|M a36) λg=>M g)<|ite (h.a=3) (b? (ite ((-1000000000000000)<=h.N) (M (s5 (h.N<=1000000000000000)))<|M a36) λa=>M a)<|ite (h.a=4) (b? (ite ((-1000000000)<=h.N) (M (s5 (h.N<=1000000000)))<|M a36) λb=>M b)<|ite (h.a=5) (b? (ite (0<=h.N) (M (s5 (h.N<=109572)))<|M a36) λc=>M c)<|ite (h.a=6) (b? (ite (0<=h.g) (ite (h.g<8) (ite (0<=h.N) (M (s5 (h.N<16)))<|M a36)<|M a36)<|M a36) λd=>M d)<|M a36
def Jc(d:List bz):p6 Int Unit Bool:=λc=>ite (c<a00 d) ((c! d c).bind λa=>(Tb a).bind λb=>ite (b=a36) (M (l? a36))<|M (i! (aa b! (c+1))))<|M (i? ())
def qg(a:List bz):Option Bool:=(ca (Jc a) 0).bind λy=>match y with |.inr v=>M v |.inl _=>M a35
def Ys(c:bz) (d:ej):Option Bool:=b? ((Tb c).bind λb=>ite b (ite (c.a=d.a) (M (c.g==d.g))<|M a36)<|M a36) λa=>M a
def Oj(b:Int):Option Bool:=b? (ite (¬b=2) (ite (¬b=3) (M (b==4))<|M a35)<|M a35) λa=>M a
def Oc(e:Int) (d:ej):Option Bool:=ite (¬d.g=0) (M a36)<|ite (e=36) (b? (ite (¬d.a=2) (M (d.a==3))<|M a35) λa=>M a)<|ite (e=39) (b? ((Oj d.a).bind λc=>ite (c=a36) (M (d.a==5))<|M a35) λb=>M b)<|M (d.a==1)
def Na(c b:Int):Option Bool:=ite (c=10) ((Oj b).bind λa=>M a)<|ite (c=25) (M (b==1))<|M (b==5)
def je(b c:bz):Option Bool:=b? (ite (b.a=c.a) (M (b.g==c.g))<|M a36) λa=>M a
def Aa(v:Int) (u w:bz):Option Bool:=b? (ite (v=11) (M a35)<|M (v==12)) λq=>ite q (b? ((je u w).bind λs=>ite s ((Oj u.a).bind λt=>M t)<|M a36) λr=>M r)<|ite (v=13) (b? (ite (w.a=2) (ite (¬u.a=2) (M (u.a==3))<|M a35)<|M a36) λa=>M a)<|ite (v=14) (b? (ite (w.a=4) (ite (¬u.a=3) (M (u.a==4))<|M a35)<|M a36) λb=>M b)<|ite (v=15) (ite (w.a=2) (b? (ite (¬u.a=2) (M (u.a==3))<|M a35) λc=>M c)<|b? (ite (u.a=3) (M (w.a==3))<|M a36) λd=>M d)<|ite (v=16) (b? (ite (u.a=3) (M (w.a==3))<|M a36) λe=>M e)<|b? (ite (v=17) (M a35)<|ite (v=18) (M a35)<|ite (v=21) (M a35)<|M (v==22)) λf=>ite f (b? ((je u w).bind λn=>ite n ((Oj u.a).bind λo=>ite (o=a36) (M (u.a==5))<|M a35)<|M a36) λg=>M g)<|b? (ite (v=19) (M a35)<|M (v==20)) λh=>ite h ((je u w).bind λp=>M p)<|b? (ite (v=23) (M a35)<|M (v==24)) λi=>ite i (b? (ite (u.a=1) (M (w.a==1))<|M a36) λj=>M j)<|b? (ite (v=27) (M a35)<|M (v==28)) λk=>ite k (b? (ite (u.a=5) (M (w.a==2))<|M a36) λl=>M l)<|b? (ite (u.a=5) (M (w.a==5))<|M a36) λm=>M m
def ea(y:fr) (z:List bz) (A:ia):Option Bool:=ite (y.Op=7) ((c! A.w y.N).bind λt=>(Tb t).bind λu=>M u)<|ite (y.Op=8) ((c! A.d y.N).bind λv=>(Tb v).bind λw=>M w)<|ite (y.Op=33) ((c! A.Tables y.N).bind λs=>b? ((c! z 0).bind λx=>(Ys x s.af).bind λf=>ite f (ite (1<=s.Value.a) (M (s5 (s.Value.a<=6)))<|M a36)<|M a36) λb=>M b)<|ite (y.Op=34) ((c! A.Tables (aa b! (s? y.N 8))).bind λa=>b? ((c! z 0).bind λg=>ite (g.a=3) (ite (a.af.a=3/\a.af.g=0) (M ((a.Value.a==4)&&(a.Value.g==0)))<|M a36)<|M a36) λc=>M c)<|b? (ite (y.Op=36) (M a35)<|ite (y.Op=37) (M a35)<|ite (y.Op=38) (M a35)<|M (y.Op==39)) λd=>ite d ((c! A.au y.N).bind λh=>(Oc y.Op h).bind λi=>M i)<|ite ((a00 z:Int)=1) ((c! z 0).bind λj=>(Na y.Op j.a).bind λk=>M k)<|ite ((a00 z:Int)=2) ((c! z 0).bind λl=>(c! z 1).bind λm=>(Aa y.Op l m).bind λn=>M n)<|ite ((a00 z:Int)=3) (b? ((c! z 0).bind λo=>ite (o.a=1) ((c! z 1).bind λp=>(c! z 2).bind λq=>(je p q).bind λr=>M r)<|M a36) λe=>M e)<|M a35
def vd(p:fr) (q:ia) (o:ej):p6 (Int×Int×Int×Int) (Int×Int×Int) (bz×Int):=λ(d,e,c,b)=>ite (b<a00 q.s) (b? ((c! q.s b).bind λf=>b? (ite (¬(a00 f:Int)<=p.N) ((c! f p.N).bind λl=>M (l.a==0))<|M a35) λg=>ite g (M (Sum.inr (l? (bz.mk 0 0 0,6))))<|(c! f p.N).bind λa=>(Ys a o).bind λm=>ite (m=a36) (M (Sum.inr (l? (bz.mk 0 0 0,8))))<|ite (p.Op=36) ((Tb (bz.mk d e (aa b! (c+a.N)))).bind λn=>ite (n=a36) (M (Sum.inr (l? (bz.mk 0 0 0,3))))<|M (Sum.inl (d,e,aa b! (c+a.N))))<|ite (p.Op=37) (M (Sum.inl (d,e,min c a.N)))<|ite (p.Op=38) (M (Sum.inl (d,e,max c a.N)))<|ite (p.Op=39) (b? (ite (¬b=0) (M (s5 (c<a.N)))<|M a35) λh=>ite h (M (Sum.inl (a.a,a.g,a.N)))<|M (Sum.inl (d,e,c)))<|M (Sum.inl (d,e,c))) λz=>match z with |.inr v=>M v |.inl (i,j,k)=>M (i! (i,j,k,aa b! (b+1))))<|M (i? (d,e,c))
def Pf(h:fr) (i:ia):Option (bz×Int):=(c! i.au h.N).bind λd=>b? (ite (h.Op=37) (M 1)<|M 0) λe=>b? (ite (h.Op=39) (M ((a00 i.s:Int)==0))<|M a36) λf=>ite f (M (bz.mk 0 0 0,6))<|(ca (vd h i d) (d.a,d.g,e,0)).bind λy=>match y with |.inr v=>M v |.inl (a,b,c)=>M (bz.mk a b c,0)
def Tg(c:se) (e d:Int):Option Bool:=b? ((bc c.aa e).bind λb=>ite b (ite (c.Lo<=d) (M (s5 (d<c.Hi)))<|M a36)<|M a36) λa=>M a
def Gw(c:oe) (d e:Int):Option (Int×Bool):=(vc c.Rows (λa=>Tg a d e)).bind λb=>M (b.1,b.2)
def uf(a b:Int):Option (Int×Int):=ite (0<=a/\a<18446744073709551616/\0<=b/\b<18446744073709551616) (M (a*b / 18446744073709551616,a*b % 18446744073709551616)) q6
def Qg(a b c:Int):Option (Int×Int):=ite (0<=a/\a<c/\0<=b/\b<18446744073709551616/\c<18446744073709551616) (M ((a*18446744073709551616+b) / c,(a*18446744073709551616+b) % c)) q6
def bl(e d:Int):Option (Int×Int×Bool):=b? (ite (d<0) (M (aa .u64 (-(aa .u64 d))))<|M (aa .u64 d)) λc=>(uf (aa .u64 e) c).bind λb=>ite (1000000<=b.1) (M (0,0,a36))<|(Qg b.1 b.2 1000000).bind λa=>ite (1000000000000000<a.1) (M (0,0,a36))<|ite (d<0) (M (aa b! (-(aa b! a.1)),aa b! (-(aa b! a.2)),a35))<|M (aa b! a.1,aa b! a.2,a35)
def fj(b:Int):Option Bool:=b? (ite (0<=b) (M (s5 (b<=5)))<|M a36) λa=>M a
def wg(b c:Int):Option Bool:=b? (ite (¬c<b) (M (s5 (b<(aa b! (-c)))))<|M a35) λa=>M a
def vf(a:Int):Option Int:=ite (a<0) (M (aa .u64 (-(aa .u64 a))))<|M (aa .u64 a)
def Uf(f e g:Int) (c:Bool) (a:Int):Option Int:=ite (e=0) (M f)<|b? (ite (a=0) (M c)<|ite (a=1) (M (!c))<|ite (a=3) (M a35)<|ite (a=4) (M (s5 ((aa .u64 (g-e))<=e)))<|ite (a=5) (ite (¬(aa .u64 (g-e))<e) (ite (e=(aa .u64 (g-e))) (M ((v? f 2)==1))<|M a36)<|M a35)<|M a36) λd=>b? (ite d (M (aa .u64 (f+1)))<|M f) λb=>M b
def ft(a:Int) (b:Bool):Option Int:=ite b (M (aa b! (-(aa b! a))))<|M (aa b! a)
def vg(l k m:Int):Option (Int×Int):=(fj m).bind λh=>ite (h=a36) (M (0,1))<|ite (k=0) (M (0,12))<|b? ((wg l 4611686018427387904).bind λi=>ite (i=a36) ((wg k 4611686018427387904).bind λj=>M j)<|M a35) λg=>ite g (M (0,3))<|(vf l).bind λf=>(vf k).bind λa=>(quo .u64 f a).bind λb=>(rem .u64 f a).bind λc=>(Uf b c a (!((s5 (l<0))==(s5 (k<0)))) m).bind λd=>(ft d (!((s5 (l<0))==(s5 (k<0))))).bind λe=>M (e,0)
def Ns(f e g:Int):Option (Int×Int):=b? (ite (¬(aa b! (f+(aa b! (s? e 1000000))))<(-2000000000000000)) (M (s5 (2000000000000000<(aa b! (f+(aa b! (s? e 1000000)))))))<|M a35) λd=>ite d (M (0,3))<|b? (ite (1<(aa b! (f+(aa b! (s? e 1000000))))) (M (aa b! ((v? (aa b! (f+(aa b! (s? e 1000000)))) 2)+2)))<|ite ((aa b! (f+(aa b! (s? e 1000000))))<(-1)) (M (aa b! ((v? (aa b! (f+(aa b! (s? e 1000000)))) 2)-2)))<|M (v? (aa b! (f+(aa b! (s? e 1000000)))) 2)) λb=>(vg (aa b! ((aa b! (b*1000000))+(v? e 1000000))) 1000000 g).bind λa=>ite (¬a.2=0) (M (0,a.2))<|b? (ite (¬(aa b! ((aa b! ((aa b! (f+(aa b! (s? e 1000000))))-b))+a.1))<(-1000000000000000)) (M (s5 (1000000000000000<(aa b! ((aa b! ((aa b! (f+(aa b! (s? e 1000000))))-b))+a.1)))))<|M a35) λc=>ite c (M (0,3))<|M (aa b! ((aa b! ((aa b! (f+(aa b! (s? e 1000000))))-b))+a.1),0)
def Cg(j:oe) (l k:Int):p6 (Int×Int×Int) (Int×Int) (Int×Int):=λ(b,c,d)=>ite (d<a00 j.Rows) (b? ((c! j.Rows d).bind λa=>b? ((bc a.aa l).bind λi=>ite i (M (s5 ((min a.Hi k)<=(max a.Lo 0))))<|M a35) λf=>ite f (M (Sum.inl (b,c)))<|(bl (aa b! ((min a.Hi k)-(max a.Lo 0))) a.N).bind λe=>ite (e.2.2=a36) (M (Sum.inr (l? (0,3))))<|M (Sum.inl (aa b! (b+e.1),aa b! (c+e.2.1)))) λz=>match z with |.inr v=>M v |.inl (g,h)=>M (i! (g,h,aa b! (d+1))))<|M (i? (b,c))
def Zk(h:oe) (j i d:Int):Option (Int×Int):=b? (ite (¬d<0) (M (s5 (5<d)))<|M a35) λe=>ite e (M (0,1))<|b? (ite (h.af.a=3/\h.af.g=0) (M (!((h.Value.a==4)&&(h.Value.g==0))))<|M a35) λf=>ite f (M (0,8))<|b? (ite (¬i<(-1000000000000000)) (M (s5 (1000000000000000<i)))<|M a35) λg=>ite g (M (0,3))<|(ca (Cg h j i) (0,0,0)).bind λy=>match y with |.inr v=>M v |.inl (b,c)=>(Ns b c d).bind λa=>M (a.1,a.2)
def bj(a:Bool):Option bz:=ite a (M (bz.mk 1 0 1))<|M (bz.mk 1 0 0)
def Zx(b:Int):Option Bool:=b? (ite ((v? b 4)=0) (ite ((v? b 100)=0) (M ((v? b 400)==0))<|M a35)<|M a36) λa=>M a
def re(f e:Int):Option Int:=b? (ite (¬e<1) (M (s5 (12<e)))<|M a35) λa=>ite a (M 0)<|b? (ite (e=2) ((Zx f).bind λc=>M c)<|M a36) λb=>ite b (M 29)<|(c! mL (aa b! (e-1))).bind λd=>M d
def Er(a:Int):Option Int:=M (aa b! ((aa b! ((aa b! (s? a 4))-(aa b! (s? a 100))))+(aa b! (s? a 400))))
def Yj(c:Int):Option Int:=(Er (aa b! (c-1))).bind λa=>(Er 1899).bind λb=>M (aa b! ((aa b! ((aa b! ((aa b! (c-1900))*365))+a))-b))
def Gr(b:Int):Option Bool:=b? (ite (0<=b) (M (s5 (b<=109572)))<|M a36) λa=>M a
def Bq(c:Int):p6 Int Int Unit:=λa=>(Yj (aa b! (a+1))).bind λb=>ite (b<=c) (M (i! (aa b! (a+1))))<|M (i? a)
def Aq(d:Int):p6 (Int×Int) Unit (Int×Int×Int):=λ(c,a)=>ite (a<12) ((re d (aa b! (a+1))).bind λb=>ite (c<b) (M (l? (d,aa b! (a+1),aa b! (c+1))))<|M (i! (aa b! (c-b),aa b! (a+1))))<|M (i? ())
def Zm(d:Int):Option (Int×Int×Int):=(Gr d).bind λb=>ite (b=a36) (M (0,0,0))<|(ca (Bq d) (aa b! (1900+(aa b! (s? d 366))))).bind λy=>match y with |.inr _=>q6 |.inl a=>(Yj a).bind λc=>(ca (Aq a) (aa b! (d-c),0)).bind λy=>match y with |.inr v=>M v |.inl _=>M (0,0,0)
def gk(d:Int) (c:bz):Option bz:=ite (d=10) (M (bz.mk c.a 0 (aa b! (-c.N))))<|ite (d=25) ((bj (c.N==0)).bind λb=>M b)<|(Zm c.N).bind λa=>ite (d=31) (M (bz.mk 2 0 a.1))<|M (bz.mk 2 0 a.2.1)
def Uv(o p n h:Int):Option (Int×Int):=(fj h).bind λj=>ite (j=a36) (M (0,1))<|ite (n=0) (M (0,12))<|b? ((wg o 1000000000000000).bind λk=>ite (k=a36) ((wg p 1000000000).bind λl=>ite (l=a36) ((wg n 1000000000).bind λm=>M m)<|M a35)<|M a35) λi=>ite i (M (0,3))<|(vf o).bind λe=>(vf p).bind λf=>(uf e f).bind λa=>(vf n).bind λb=>ite (b<=a.1) (M (0,3))<|(Qg a.1 a.2 b).bind λc=>ite (1000000000000000<c.1) (M (0,3))<|(Uf c.1 c.2 b (!((!((s5 (o<0))==(s5 (p<0))))==(s5 (n<0)))) h).bind λd=>ite (1000000000000000<d) (M (0,3))<|(ft d (!((!((s5 (o<0))==(s5 (p<0))))==(s5 (n<0))))).bind λg=>M (g,0)
def vx(b c d:Int):Option (Int×Int):=(Uv b c 1000000 d).bind λa=>M (a.1,a.2)
def Qv(c d:Int):Option (Int×Int):=(uf (aa .u64 (max c (aa b! (-c)))) (aa .u64 (max d (aa b! (-d))))).bind λa=>b? (ite (a.1=0) (M (s5 (1000000000000000<a.2)))<|M a35) λb=>ite b (M (0,3))<|ite (¬(s5 (c<0))=(s5 (d<0))) (M (aa b! (-(aa b! a.2)),0))<|M (aa b! a.2,0)
def ko(b:Int):Option Bool:=b? (ite (0<=b) (M (s5 (b<=5)))<|M a36) λa=>M a
def tm(b c:Int):Option Bool:=b? (ite (¬c<b) (M (s5 (b<(aa b! (-c)))))<|M a35) λa=>M a
def RE(g h i:Int):Option (Int×Int):=(ko i).bind λd=>ite (d=a36) (M (0,1))<|b? ((tm g 1000000000).bind λe=>ite (e=a36) ((tm h 1000000000).bind λf=>M f)<|M a35) λc=>ite c (M (0,3))<|(vg (aa b! (g*h)) 1000000 i).bind λa=>ite (¬a.2=0) (M (0,a.2))<|(tm a.1 1000000000).bind λb=>ite b (M (0,3))<|M (a.1,0)
def fu(g f h:Int):Option (Int×Int):=(fj h).bind λd=>ite (d=a36) (M (0,1))<|ite (f<1) (M (0,12))<|b? ((wg g 1000000000000000).bind λe=>ite (e=a36) (M (s5 (1000000000000000<f)))<|M a35) λc=>ite c (M (0,3))<|(vg g f h).bind λa=>ite (¬a.2=0) (M (0,a.2))<|(wg (aa b! (a.1*f)) 1000000000000000).bind λb=>ite b (M (0,3))<|M (aa b! (a.1*f),0)
def ju(f d e:Int) (b:Bool) (a:Int):Option Bool:=ite (d=0) (M a36)<|ite (a=0) (M b)<|ite (a=1) (M (!b))<|ite (a=3) (M a35)<|ite (a=4) (M (s5 ((aa .u64 (e-d))<=d)))<|ite (a=5) (b? (ite (¬(aa .u64 (e-d))<d) (ite (d=(aa .u64 (e-d))) (M ((v? f 2)==1))<|M a36)<|M a35) λc=>M c)<|M a36
def Qr(k j l:Int):Option (Int×Int):=(ko l).bind λg=>ite (g=a36) (M (0,1))<|ite (j=0) (M (0,12))<|b? ((tm k 1000000000000000).bind λh=>ite (h=a36) ((tm j 1000000000000000).bind λi=>M i)<|M a35) λf=>ite f (M (0,3))<|(uf (aa .u64 (max k (aa b! (-k)))) 1000000).bind λe=>ite ((aa .u64 (max j (aa b! (-j))))<=e.1) (M (0,3))<|(Qg e.1 e.2 (aa .u64 (max j (aa b! (-j))))).bind λa=>ite (1000000000<a.1) (M (0,3))<|b? ((ju a.1 a.2 (aa .u64 (max j (aa b! (-j)))) (!((s5 (k<0))==(s5 (j<0)))) l).bind λd=>ite d (M (aa b! ((aa b! a.1)+1)))<|M (aa b! a.1)) λb=>ite (1000000000<b) (M (0,3))<|b? (ite (¬(s5 (k<0))=(s5 (j<0))) (M (aa b! (-b)))<|M b) λc=>M (c,0)
def Ub(l:fr) (k m:bz):Option (bz×Int):=b? (ite (l.Op=13) ((Qv k.N m.N).bind λg=>M (k.a,g.1,g.2))<|b? (ite (l.Op=14) (M (k.a==3))<|M a36) λj=>ite j ((vx k.N m.N l.N).bind λh=>M (k.a,h.1,h.2))<|ite (l.Op=14) ((RE k.N m.N l.N).bind λi=>M (k.a,i.1,i.2))<|ite (l.Op=16) ((fu k.N m.N l.N).bind λa=>M (k.a,a.1,a.2))<|ite (m.a=2) ((vg k.N m.N l.N).bind λb=>M (k.a,b.1,b.2))<|(Qr k.N m.N l.N).bind λc=>M (4,c.1,c.2)) λ(d,e,f)=>M (bz.mk d 0 e,f)
def fe(d e:Int):p6 (Int×Int) Int Unit:=λ(b,a)=>ite (a<(aa b! (e-1))) ((re d (aa b! (a+1))).bind λc=>M (i! (aa b! (b+c),aa b! (a+1))))<|M (i? b)
def Tl(e f g:Int):Option (Int×Int):=b? (ite (¬e<1900) (ite (¬2199<e) (ite (¬f<1) (ite (¬12<f) (ite (¬g<1) ((re e f).bind λc=>M (s5 (c<g)))<|M a35)<|M a35)<|M a35)<|M a35)<|M a35) λb=>ite b (M (0,3))<|(Yj e).bind λd=>(ca (fe e f) (d,0)).bind λy=>match y with |.inr _=>q6 |.inl a=>M (aa b! ((aa b! (a+g))-1),0)
def mf(h g:Int):Option (Int×Int):=b? ((Gr h).bind λf=>ite f (ite (¬g<(-3600)) (M (s5 (3600<g)))<|M a35)<|M a35) λd=>ite d (M (0,3))<|(Zm h).bind λa=>b? (ite (¬(aa b! ((aa b! ((aa b! ((aa b! ((aa b! (a.1-1900))*12))+a.2.1))-1))+g))<0) (M (s5 (3599<(aa b! ((aa b! ((aa b! ((aa b! ((aa b! (a.1-1900))*12))+a.2.1))-1))+g)))))<|M a35) λe=>ite e (M (0,3))<|(re (aa b! (1900+(aa b! (s? (aa b! ((aa b! ((aa b! ((aa b! ((aa b! (a.1-1900))*12))+a.2.1))-1))+g)) 12)))) (aa b! ((v? (aa b! ((aa b! ((aa b! ((aa b! ((aa b! (a.1-1900))*12))+a.2.1))-1))+g)) 12)+1))).bind λc=>(Tl (aa b! (1900+(aa b! (s? (aa b! ((aa b! ((aa b! ((aa b! ((aa b! (a.1-1900))*12))+a.2.1))-1))+g)) 12)))) (aa b! ((v? (aa b! ((aa b! ((aa b! ((aa b! ((aa b! (a.1-1900))*12))+a.2.1))-1))+g)) 12)+1)) (min a.2.2 c)).bind λb=>M (b.1,b.2)
def lg(i j:Int):Option Int:=b? ((Gr i).bind λg=>ite g ((Gr j).bind λh=>ite h (M (s5 (j<i)))<|M a35)<|M a35) λf=>ite f (M 0)<|(Zm i).bind λc=>(Zm j).bind λd=>b? ((mf i (aa b! (12*(aa b! (d.1-c.1))))).bind λe=>b? (ite (e.2=0) (M (s5 (j<e.1)))<|M a35) λa=>ite a (M (aa b! ((aa b! (d.1-c.1))-1)))<|M (aa b! (d.1-c.1))) λb=>M (max b 0)
def Ma(u:fr) (v w:bz):Option (bz×Int):=b? (ite (u.Op=11) (M a35)<|M (u.Op==27)) λs=>ite s (M (bz.mk v.a 0 (aa b! (v.N+w.N)),0))<|ite (u.Op=12) (M (bz.mk v.a 0 (aa b! (v.N-w.N)),0))<|b? (ite (u.Op=13) (M a35)<|ite (u.Op=14) (M a35)<|ite (u.Op=15) (M a35)<|M (u.Op==16)) λt=>ite t ((Ub u v w).bind λe=>M (e.1,e.2))<|b? (ite (u.Op=17) (M a35)<|M (u.Op==18)) λg=>ite g (ite ((u.Op==17)=(s5 (w.N<v.N))) (M (w,0))<|M (v,0))<|ite (u.Op=19) ((bj (v.N==w.N)).bind λn=>M (n,0))<|ite (u.Op=20) ((bj (v.N !=w.N)).bind λo=>M (o,0))<|ite (u.Op=21) ((bj (s5 (v.N<w.N))).bind λp=>M (p,0))<|ite (u.Op=22) ((bj (s5 (v.N<=w.N))).bind λq=>M (q,0))<|ite (u.Op=23) (b? (ite (v.N=1) ((bj (w.N==1)).bind λa=>M (a.a,a.g,a.N))<|(bj a36).bind λb=>M (b.a,b.g,b.N)) λ(h,i,j)=>M (bz.mk h i j,0))<|ite (u.Op=24) (b? (if¬v.N=1 then(bj (w.N==1)).bind λc=>M (c.a,c.g,c.N)else(bj a35).bind λd=>M (d.a,d.g,d.N)) λ(k,l,m)=>M (bz.mk k l m,0))<|ite (u.Op=28) ((mf v.N w.N).bind λf=>M (bz.mk 5 0 f.1,f.2))<|ite (u.Op=29) (M (bz.mk 2 0 (aa b! (w.N-v.N)),0))<|(lg v.N w.N).bind λr=>M (bz.mk 2 0 r,0)
def qa(u:fr) (v:List bz) (x:ia):Option (bz×Int):=b? (ite (u.Op=1) (M a35)<|ite (u.Op=2) (M a35)<|ite (u.Op=3) (M a35)<|ite (u.Op=4) (M a35)<|M (u.Op==5)) λs=>ite s (M (bz.mk u.Op 0 u.N,0))<|ite (u.Op=6) (M (bz.mk 6 (aa b! (s? u.N 16)) (v? u.N 16),0))<|ite (u.Op=7) ((c! x.w u.N).bind λt=>M (t,0))<|ite (u.Op=8) ((c! x.d u.N).bind λg=>M (g,0))<|ite (u.Op=9) (M (bz.mk 5 0 x.z,0))<|ite (u.Op=35) (M (bz.mk 2 0 (a00 x.s:Int),0))<|b? (ite (u.Op=36) (M a35)<|ite (u.Op=37) (M a35)<|ite (u.Op=38) (M a35)<|M (u.Op==39)) λf=>ite f ((Pf u x).bind λb=>M (b.1,b.2))<|ite (u.Op=33) ((c! x.Tables u.N).bind λa=>(c! v 0).bind λh=>(Gw a x.z h.N).bind λc=>ite (c.2=a36) (M (bz.mk 0 0 0,6))<|(c! a.Rows c.1).bind λi=>M (bz.mk a.Value.a a.Value.g i.N,0))<|ite (u.Op=34) ((c! x.Tables (aa b! (s? u.N 8))).bind λj=>(c! v 0).bind λk=>(Zk j x.z k.N (v? u.N 8)).bind λd=>M (bz.mk 3 0 d.1,d.2))<|ite ((a00 v:Int)=1) ((c! v 0).bind λl=>(gk u.Op l).bind λm=>M (m,0))<|if(a00 v:Int)=2 then(c! v 0).bind λn=>(c! v 1).bind λo=>(Ma u n o).bind λe=>M (e.1,e.2)else(c! v 0).bind λp=>ite (p.N=1) ((c! v 1).bind λq=>M (q,0))<|(c! v 2).bind λr=>M (r,0)
def og(j:fr) (k:List bz) (l:ia):Option (bz×Int):=b? ((Sp j).bind λf=>ite f ((cn j.Op).bind λg=>M ((a00 k:Int) !=g))<|M a35) λe=>ite e (M (bz.mk 0 0 0,2))<|(fy j l).bind λh=>ite (h=a36) (M (bz.mk 0 0 0,6))<|b? ((qg k).bind λi=>ite i ((ea j k l).bind λc=>M (!c))<|M a35) λb=>ite b (M (bz.mk 0 0 0,8))<|(qa j k l).bind λa=>ite (¬a.2=0) (M (bz.mk 0 0 0,a.2))<|(Tb a.1).bind λd=>ite (d=a36) (M (bz.mk 0 0 0,3))<|M (a.1,0)
def jb(h:te) (g:List Int) (c:(te->Int->Option (bz×Int))):p6 (List bz×Int) (List bz) (bz×Int):=λ(d,a)=>ite (a<a00 g) ((c! g a).bind λe=>(c h e).bind λb=>ite (¬b.2=0) (M (l? (bz.mk 0 0 0,b.2)))<|(c! d a).bind λi=>(put d a b.1).bind λf=>M (i! (f,aa b! (a+1))))<|M (i? d)
def eb(a:(te->Int->Option (bz×Int))) (b:(te->fr->(List Int)->Option (bz×Int))) (R512:(te->Int->Option (bz×Int))) (j:te) (k:Int):Option (bz×Int):=(c! j.nodes k).bind λc=>(Of j k).bind λe=>b? (ite (c.Op=23) (M a35)<|ite (c.Op=24) (M a35)<|M (c.Op==26)) λh=>ite h ((b j c e).bind λg=>M (g.1,g.2))<|(fD 24 (bz.mk 0 0 0) (a00 e:Int) (a00 e:Int)).bind λi=>(ca (jb j e a) (i,0)).bind λy=>match y with |.inr v=>M v |.inl f=>(og c f j.env).bind λd=>M (d.1,d.2)
def Bd(a:(te->Int->Option (bz×Int))) (R455:(te->fr->(List Int)->Option (bz×Int))) (b:(te->Int->Option (bz×Int))) (l:te) (m:fr) (n:List Int):Option (bz×Int):=ite (¬m.N=0) (M (bz.mk 0 0 0,2))<|(c! n 0).bind λj=>(b l j).bind λe=>ite (¬e.2=0) (M (bz.mk 0 0 0,e.2))<|b? (ite (m.Op=26) (M (e.1.N==1))<|M a36) λi=>ite i ((c! n 1).bind λk=>(a l k).bind λh=>M (h.1,h.2))<|ite (m.Op=26) ((c! n 2).bind λf=>(a l f).bind λc=>M (c.1,c.2))<|if(m.Op==23)=(e.1.N==0)then M (e.1,0)else(c! n 1).bind λg=>(b l g).bind λd=>M (d.1,d.2)
def cc(a:(te->Int->Option (bz×Int))) (R455:(te->fr->(List Int)->Option (bz×Int))) (R512:(te->Int->Option (bz×Int))) (e:te) (f:Int):Option (bz×Int):=(a e f).bind λb=>ite (¬b.2=0) (M (bz.mk 0 0 0,b.2))<|b? (ite (b.1.a=1) ((Tb b.1).bind λd=>M (!d))<|M a35) λc=>ite c (M (bz.mk 0 0 0,8))<|M (b.1,0)
def ba:Nat->(te->Int->Option (bz×Int))×(te->fr->(List Int)->Option (bz×Int))×(te->Int->Option (bz×Int)) |0=>(λ_ _=>q6,λ_ _ _=>q6,λ_ _=>q6) |n+1=>(eb (ba n).1 (ba n).2.1 (ba n).2.2,Bd (ba n).1 (ba n).2.1 (ba n).2.2,cc (ba n).1 (ba n).2.1 (ba n).2.2)
def rj(a:te) (b:Int):Option (bz×Int):=(ba cg).1 a b
def gz(a:te) (b:fr) (c:List Int):Option (bz×Int):=(ba cg).2.1 a b c
def Ov(a:te) (b:Int):Option (bz×Int):=(ba cg).2.2 a b
def Jl(c:List fr) (d:ia):Option (bz×Int):=(av c).bind λa=>ite (¬a.2=0) (M (bz.mk 0 0 0,a.2))<|(rj (te.mk c a.1 d) (aa b! ((a00 c:Int)-1))).bind λb=>M (b.1,b.2)
def Gi(f g:List Int):p6 Int Unit Int:=λa=>ite (a<a00 f) ((c! f a).bind λc=>b? (ite (¬c<(-1)) (M (s5 (a<=c)))<|M a35) λe=>ite e (M (l? 9))<|b? ((c! g a).bind λd=>ite (¬d<0) (M (s5 (9<d)))<|M a35) λb=>ite b (M (l? 3))<|M (i! (aa b! (a+1))))<|M (i? ())
def Qm(a b:List Int):Option Int:=ite (¬(a00 a:Int)=a00 b) (M 2)<|ite (8<(a00 a:Int)) (M 4)<|(ca (Gi a b) 0).bind λy=>match y with |.inr v=>M v |.inl _=>M 0
def Fi(f:List Int) (g:Int):p6 (List Int×Int) (List Int) Unit:=λ(e,d)=>ite (d<a00 f) (b? ((c! f d).bind λb=>ite (b=g) ((app 8 e ([d])).bind λc=>M c)<|M e) λa=>M (i! (a,aa b! (d+1))))<|M (i? e)
def Pm(b:List Int) (c:Int):Option (List Int):=(ca (Fi b c) (([]:List Int),0)).bind λy=>match y with |.inr _=>q6 |.inl a=>M a
def El(r:b0) (n:List Int):p6 (List Int×Int) (List Int) Unit:=λ(q,f)=>ite (f<a00 n) (b? ((c! n f).bind λb=>(c! r.outcome b).bind λo=>ite (o=(-1)) (M q)<|b? (b? (ite (0<(a00 q:Int)) ((c! r.priority b).bind λp=>(c! q 0).bind λg=>(c! r.priority g).bind λh=>M (s5 (h<p)))<|M a36) λc=>ite c ((Fw q 0).bind λi=>M i)<|M q) λa=>b? (ite (¬(a00 a:Int)=0) ((c! r.priority b).bind λj=>(c! a 0).bind λk=>(c! r.priority k).bind λl=>M (j==l))<|M a35) λd=>ite d ((app 8 a ([b])).bind λm=>M m)<|M a) λe=>M (i! (e,aa b! (f+1))))<|M (i? q)
def Gp(c:b0) (d:Int):Option (List Int):=(Pm c.parent d).bind λb=>(ca (El c b) (([]:List Int),0)).bind λy=>match y with |.inr _=>q6 |.inl a=>M a
def jc(d:b0) (e:Int):Option Int:=(Gp d e).bind λa=>ite ((a00 a:Int)=0) (M (-1))<|ite ((a00 a:Int)=1) ((c! a 0).bind λb=>(c! d.outcome b).bind λc=>M c)<|M (-2)
def Ii(j k:List Int) (l:List Bool):p6 (List Int×Int) (List Int) Unit:=λ(i,a)=>ite (0<=a) (b? ((jc (b0.mk j k i) a).bind λg=>(c! i a).bind λm=>(put i a g).bind λb=>b? ((c! b a).bind λh=>ite (h=(-1)) ((c! l a).bind λe=>M e)<|M a36) λc=>ite c ((c! b a).bind λn=>(put b a a).bind λf=>M f)<|M b) λd=>M (i! (d,aa b! (a-1))))<|M (i? i)
def Rm(c d:List Int) (e:List Bool):Option (List Int):=(fD 8 0 (a00 c:Int) (a00 c:Int)).bind λb=>(ca (Ii c d e) (b,aa b! ((a00 c:Int)-1))).bind λy=>match y with |.inr _=>q6 |.inl a=>M a
def xq(e f:List Int) (g:List Bool):Option Int:=b? ((Qm e f).bind λb=>ite (b=0) (M ((a00 g:Int) !=a00 e))<|M a35) λa=>ite a (M (-1))<|(Rm e f g).bind λc=>(jc (b0.mk e f c) (-1)).bind λd=>M d
def wy(b:Int):Option Bool:=b? (ite (97<=b) (M (s5 (b<=122)))<|M a36) λa=>M a
def bB(b:Int):Option Bool:=b? (ite (48<=b) (M (s5 (b<=57)))<|M a36) λa=>M a
def fA(d:Int):Option Bool:=b? ((wy d).bind λb=>ite (b=a36) ((bB d).bind λc=>ite (c=a36) (M (d==95))<|M a35)<|M a35) λa=>M a
def oi  : Option (List ByteArray):=M ([n? #[105,102],n? #[116,104,101,110],n? #[101,108,115,101],n? #[111,114],n? #[97,110,100],n? #[110,111,116],n? #[116,114,117,101],n? #[102,97,108,115,101],n? #[116,111,100,97,121],n? #[115,104,97,114,101],n? #[100,105,118],n? #[114,111,117,110,100],n? #[109,105,110],n? #[109,97,120],n? #[112,108,117,115],n? #[109,111,110,116,104,115],n? #[100,97,121,115],n? #[121,101,97,114,115],n? #[121,101,97,114],n? #[109,111,110,116,104],n? #[116,97,98],n? #[98,97,110,100],n? #[99,111,117,110,116],n? #[115,117,109],n? #[97,108,108],n? #[97,110,121],n? #[109,111,115,116],n? #[101,110,117,109],n? #[116,97,98,108,101],n? #[114,111,119],n? #[115,99,111,112,101],n? #[109,101,109,98,101,114,115],n? #[105,110,112,117,116],n? #[100,101,102],n? #[114,117,108,101],n? #[111,102],n? #[111,118,101,114],n? #[112,114,105,111],n? #[102,114,111,109],n? #[116,111],n? #[101,110,100],n? #[119,104,101,110],n? #[105,115],n? #[115,114,99],n? #[98,111,111,108],n? #[105,110,116],n? #[109,111,110,101,121],n? #[114,97,116,101],n? #[100,97,116,101],n? #[100,111,119,110],n? #[117,112],n? #[122,101,114,111],n? #[97,119,97,121],n? #[104,97,108,102],n? #[101,118,101,110]])
def fh(d:ByteArray):p6 Int Unit Bool:=λa=>ite (a<(d.size:Int)) ((tA d a).bind λc=>(fA c).bind λb=>ite (b=a36) (M (l? a36))<|M (i! (aa b! (a+1))))<|M (i? ())
def dh(d:ByteArray) (b:List ByteArray):p6 Int Unit Bool:=λa=>ite (a<a00 b) ((c! b a).bind λc=>ite (c=d) (M (l? a36))<|M (i! (aa b! (a+1))))<|M (i? ())
def Jb(e:ByteArray):Option Bool:=b? (ite (¬(e.size:Int)=0) (if¬16<(e.size:Int)then(tA e 0).bind λc=>(wy c).bind λd=>M (!d)else M a35)<|M a35) λb=>ite b (M a36)<|(ca (fh e) 0).bind λy=>match y with |.inr v=>M v |.inl _=>(oi).bind λa=>(ca (dh e a) 0).bind λy=>match y with |.inr v=>M v |.inl _=>M a35
def Qc(f:cb) (g h:Int) (a:ByteArray):p6 Int Unit Bool:=λe=>ite (e<a00 f.r) (b? (ite (¬1<g) (ite (e<h) ((c! f.r e).bind λc=>M (s5 (c.n=a)))<|M a36)<|(c! f.r e).bind λd=>M (s5 (d.n=a))) λb=>ite b (M (l? a35))<|M (i! (aa b! (e+1))))<|M (i? ())
def wb(f:cb) (g h:Int) (e:ByteArray):p6 Int Unit Bool:=λa=>ite (a<a00 f.Tables) (b? (ite (¬2<g) (ite (g=2) (ite (a<h) ((c! f.Tables a).bind λc=>M (s5 (c.n=e)))<|M a36)<|M a36)<|(c! f.Tables a).bind λd=>M (s5 (d.n=e))) λb=>ite b (M (l? a35))<|M (i! (aa b! (a+1))))<|M (i? ())
def Lb(f:cb) (g h:Int) (d:ByteArray):p6 Int Unit Bool:=λa=>ite (a<a00 f.e) (b? (ite (g=3) (ite (a<h) ((c! f.e a).bind λc=>M (s5 (c.n=d)))<|M a36)<|M a36) λb=>ite b (M (l? a35))<|M (i! (aa b! (a+1))))<|M (i? ())
def jd(b:cb) (c d:Int) (a:ByteArray):Option Bool:=(ca (Qc b c d a) 0).bind λy=>match y with |.inr v=>M v |.inl _=>(ca (wb b c d a) 0).bind λy=>match y with |.inr v=>M v |.inl _=>(ca (Lb b c d a) 0).bind λy=>match y with |.inr v=>M v |.inl _=>M a36
def Ik(f:Int) (e:na) (d:Int) (b:ByteArray):p6 Int Unit (Ex (Int×Int) Unit ll):=λa=>ite (a<d) ((c! e.s a).bind λc=>ite (c=b) (M (l? (l? (ll.mk 7 1 f (aa b! (100+d))))))<|M (i! (aa b! (a+1))))<|M (i? ())
def Jk(e:Int) (c:na):p6 (Int×Int) Unit ll:=λ(f,a)=>ite (a<a00 c.s) ((c! c.s a).bind λb=>(Jb b).bind λd=>ite (d=a36) (M (l? (ll.mk 2 1 e (aa b! (100+a)))))<|(ca (Ik e c a b) 0).bind λy=>match y with |.inr v=>M v |.inl _=>M (i! (aa b! (100+a),aa b! (a+1))))<|M (i? ())
def pq(e:cb) (d:Int):Option ll:=(c! e.r d).bind λa=>(Jb a.n).bind λb=>ite (b=a36) (M (ll.mk 2 1 d 0))<|(jd e 1 d a.n).bind λc=>ite c (M (ll.mk 7 1 d 0))<|ite ((a00 a.s:Int)=0) (M (ll.mk 5 1 d 0))<|ite (16<(a00 a.s:Int)) (M (ll.mk 4 1 d 116))<|(ca (Jk d a) (0,0)).bind λy=>match y with |.inr v=>M v |.inl _=>M (ll.mk 0 0 0 0)
def zc(c:ej) (d:List na):Option Bool:=ite (c.a=6) (b? (ite (0<=c.g) (M (s5 (c.g<a00 d)))<|M a36) λa=>M a)<|b? (ite (1<=c.a) (ite (c.a<=5) (M (c.g==0))<|M a36)<|M a36) λb=>M b
def Wf(b:hO):Option Bool:=b? (ite (0<=b.j) (ite (b.j<=b.To) (M (s5 (b.To<=109573)))<|M a36)<|M a36) λa=>M a
def tp(c:ej) (d:List na):Option (Int×Int):=(zc c d).bind λa=>ite (a=a36) (M (0,-1))<|ite (c.a=1) (M (0,1))<|ite (c.a=2) (M (-1000000000000,1000000000000))<|ite (c.a=3) (M (-1000000000000000,1000000000000000))<|ite (c.a=4) (M (-1000000000,1000000000))<|ite (c.a=5) (M (0,109572))<|(c! d c.g).bind λb=>M (0,aa b! ((a00 b.s:Int)-1))
def aw(c:Int) (d:ej) (e:List na):Option Bool:=(tp d e).bind λa=>b? (ite (a.1<=c) (M (s5 (c<=a.2)))<|M a36) λb=>M b
def xy(g:se) (h:oe) (i:List na):Option Bool:=b? ((Wf g.aa).bind λd=>ite d (ite (¬g.aa.j=g.aa.To) (M (s5 (g.Hi<=g.Lo)))<|M a35)<|M a35) λc=>ite c (M a35)<|b? ((aw g.Lo h.af i).bind λe=>ite e ((aw (aa b! (g.Hi-1)) h.af i).bind λf=>ite f ((aw g.N h.Value i).bind λb=>M (!b))<|M a35)<|M a35) λa=>M a
def Eu(d e:hO):Option (hO×Bool):=b? ((Wf d).bind λb=>ite b ((Wf e).bind λc=>M (!c))<|M a35) λa=>ite a (M (hO.mk 0 0,a36))<|ite ((min d.To e.To)<=(max d.j e.j)) (M (hO.mk 0 0,a36))<|M (hO.mk (max d.j e.j) (min d.To e.To),a35)
def Yr(c d:se):Option Bool:=(Eu c.aa d.aa).bind λb=>b? (ite b.2 (M (s5 ((max c.Lo d.Lo)<(min c.Hi d.Hi))))<|M a36) λa=>M a
def vm(f:oe) (d:Int) (e:se):p6 Int Unit (Ex Int Unit (Int×Int)):=λa=>ite (a<d) ((c! f.Rows a).bind λb=>(Yr b e).bind λc=>ite c (M (l? (l? (d,11))))<|M (i! (aa b! (a+1))))<|M (i? ())
def xm(d:oe) (e:List na):p6 Int Unit (Int×Int):=λa=>ite (a<a00 d.Rows) ((c! d.Rows a).bind λc=>(xy c d e).bind λb=>ite b (M (l? (a,3)))<|(ca (vm d a c) 0).bind λy=>match y with |.inr v=>M v |.inl _=>M (i! (aa b! (a+1))))<|M (i? ())
def Xr(d:oe) (e:List na):Option (Int×Int):=ite (64<(a00 d.Rows:Int)) (M (64,4))<|b? ((zc d.af e).bind λb=>ite b ((zc d.Value e).bind λc=>M (!c))<|M a35) λa=>ite a (M (-1,8))<|(ca (xm d e) 0).bind λy=>match y with |.inr v=>M v |.inl _=>M (0,0)
def Io(g:cb) (f:Int):Option ll:=(c! g.Tables f).bind λb=>(Jb b.n).bind λd=>ite (d=a36) (M (ll.mk 2 2 f 0))<|(jd g 2 f b.n).bind λe=>ite e (M (ll.mk 7 2 f 0))<|(Xr b g.r).bind λa=>ite (a.2=0) (M (ll.mk 0 0 0 0))<|b? (ite (0<=a.1) (M (aa b! (100+a.1)))<|M 0) λc=>M (ll.mk a.2 2 f c)
def Hm(d:List ml) (e:Int) (f:ByteArray):p6 Int Unit Bool:=λc=>b? (ite (c<e) (M (s5 (c<a00 d)))<|M a36) λa=>ite a ((c! d c).bind λb=>ite (b.n=f) (M (l? a35))<|M (i! (aa b! (c+1))))<|M (i? ())
def Kk(a:List ml) (b:Int) (c:ByteArray):Option Bool:=(ca (Hm a b c) 0).bind λy=>match y with |.inr v=>M v |.inl _=>M a36
def Bj(h:cb) (i:Int) (b:ek):p6 Int Unit ll:=λg=>ite (g<a00 b.w) (b? ((c! b.w g).bind λc=>(Jb c.n).bind λd=>ite (d=a36) (M 2)<|(Kk b.w g c.n).bind λe=>ite e (M 7)<|(zc c.an h.r).bind λf=>ite (f=a36) (M 8)<|M 0) λa=>ite (¬a=0) (M (l? (ll.mk a 3 i (aa b! (100+g)))))<|M (i! (aa b! (g+1))))<|M (i? ())
def Aj(j:cb) (k:Int) (d:ek):p6 Int Unit ll:=λa=>ite (a<a00 d.d) (b? ((c! d.d a).bind λb=>(Jb b.n).bind λf=>ite (f=a36) (M 2)<|b? ((Kk d.w (a00 d.w:Int) b.n).bind λg=>ite (g=a36) ((Kk d.d a b.n).bind λh=>M h)<|M a35) λe=>ite e (M 7)<|(zc b.an j.r).bind λi=>ite (i=a36) (M 8)<|M 0) λc=>ite (¬c=0) (M (l? (ll.mk c 3 k (aa b! (200+a)))))<|M (i! (aa b! (a+1))))<|M (i? ())
def Eo(b:cb) (c:Int):Option ll:=(c! b.e c).bind λa=>(ca (Bj b c a) 0).bind λy=>match y with |.inr v=>M v |.inl _=>(ca (Aj b c a) 0).bind λy=>match y with |.inr v=>M v |.inl _=>M (ll.mk 0 0 0 0)
def mz(d:List ml):p6 (List ej×Int) (List ej) Unit:=λ(e,c)=>ite (c<a00 d) ((c! d c).bind λa=>(app 16 e ([a.an])).bind λb=>M (i! (b,aa b! (c+1))))<|M (i? e)
def Fo(b:List ml):Option (List ej):=(ca (mz b) (([]:List ej),0)).bind λy=>match y with |.inr _=>q6 |.inl a=>M a
def oq(j:cb) (k:Int):Option om:=b? (ite (¬k<0) (M (s5 ((a00 j.e:Int)<=k)))<|M a35) λf=>ite f (M (om.mk ([]) ([]) ([]) ([]) ([]) a36))<|(c! j.e k).bind λa=>(Fo a.w).bind λh=>(Fo a.d).bind λi=>b? (b? (ite (0<=a.ac) (M (s5 (a.ac<a00 j.e)))<|M a36) λg=>ite g ((c! j.e a.ac).bind λd=>(Fo d.d).bind λe=>M (e,a35))<|M (([]:List ej),a36)) λ(b,c)=>M (om.mk j.r j.Tables h i b c)
def Mk(d:ByteArray):p6 Int Unit Bool:=λc=>ite (c<(d.size:Int)) (b? ((tA d c).bind λa=>ite (¬a<32) (ite (¬126<a) (M (a==34))<|M a35)<|M a35) λb=>ite b (M (l? a36))<|M (i! (aa b! (c+1))))<|M (i? ())
def qq(a:ByteArray):Option Bool:=(ca (Mk a) 0).bind λy=>match y with |.inr v=>M v |.inl _=>M (s5 ((a.size:Int)<=64))
def Wo(d:Int):Option Int:=b? (ite (1<=d) (ite (¬d<=9) (ite (35<=d) (M (s5 (d<=39)))<|M a36)<|M a35)<|ite (35<=d) (M (s5 (d<=39)))<|M a36) λc=>ite c (M 0)<|b? (ite (d=10) (M a35)<|ite (d=25) (M a35)<|ite (d=31) (M a35)<|ite (d=32) (M a35)<|ite (d=33) (M a35)<|M (d==34)) λa=>ite a (M 1)<|ite (d=26) (M 3)<|b? (ite (11<=d) (M (s5 (d<=30)))<|M a36) λb=>ite b (M 2)<|M (-1)
def Ek(l:List fr):p6 (List Int×List Int×Int) (List Int×List Int) (List Int×Int×Int):=λ(j,a,b)=>ite (b<a00 l) ((c! l b).bind λk=>(Wo k.Op).bind λe=>ite (e<0) (M (l? ([],b,2)))<|ite ((a00 a:Int)<e) (M (l? ([],b,5)))<|b? (ite (0<e) ((c! a (aa b! ((a00 a:Int)-e))).bind λg=>(Fw a (aa b! ((a00 a:Int)-e))).bind λh=>M (h,g))<|M (a,b)) λ(f,c)=>(app 8 f ([c])).bind λd=>(app 8 j ([c])).bind λi=>ite (12<(a00 d:Int)) (M (l? ([],b,16)))<|M (i! (i,d,aa b! (b+1))))<|M (i? (j,a))
def ij(c:List fr):Option (List Int×Int×Int):=ite (48<(a00 c:Int)) (M ([],0,4))<|ite ((a00 c:Int)=0) (M ([],0,5))<|(ca (Ek c) (([]:List Int),([]:List Int),0)).bind λy=>match y with |.inr v=>M v |.inl (a,b)=>ite (1<(a00 b:Int)) (M ([],(a00 c:Int),4))<|M (a,0,0)
def Gq(c:Int):Option Bool:=b? (ite (1<=c) (ite (¬c<=8) (ite (36<=c) (M (s5 (c<=39)))<|M a36)<|M a35)<|ite (36<=c) (M (s5 (c<=39)))<|M a36) λb=>ite b (M a35)<|b? (ite (¬c=14) (ite (¬c=15) (ite (¬c=16) (ite (¬c=33) (M (c==34))<|M a35)<|M a35)<|M a35)<|M a35) λa=>M a
def Kb(a:Int):Option ej:=M (ej.mk a 0)
def sb(h:fr) (i:om):Option Bool:=b? (ite (h.Op=1) (M a35)<|ite (h.Op=2) (M a35)<|ite (h.Op=3) (M a35)<|ite (h.Op=4) (M a35)<|M (h.Op==5)) λf=>ite f ((Kb h.Op).bind λg=>(tp g i.r).bind λe=>b? (ite (e.1<=h.N) (M (s5 (h.N<=e.2)))<|M a36) λa=>M a)<|b? (ite (h.Op=14) (M a35)<|ite (h.Op=15) (M a35)<|M (h.Op==16)) λb=>ite b (b? (ite (0<=h.N) (M (s5 (h.N<=5)))<|M a36) λc=>M c)<|ite (h.Op=34) (b? (ite (0<=h.N) (M (s5 ((v? h.N 8)<=5)))<|M a36) λd=>M d)<|ite (h.Op=6) (M (s5 (0<=h.N)))<|M a35
def Kc(h:fr) (i:om):Option Bool:=ite (h.Op=6) (b? (if(aa b! (s? h.N 16))<(a00 i.r:Int)then(c! i.r (aa b! (s? h.N 16))).bind λg=>M (s5 ((v? h.N 16)<(a00 g.s:Int)))else M a36) λe=>M e)<|ite (h.Op=7) (b? (ite (0<=h.N) (M (s5 (h.N<a00 i.w)))<|M a36) λf=>M f)<|ite (h.Op=8) (b? (ite (0<=h.N) (M (s5 (h.N<a00 i.d)))<|M a36) λa=>M a)<|ite (h.Op=33) (b? (ite (0<=h.N) (M (s5 (h.N<a00 i.Tables)))<|M a36) λb=>M b)<|ite (h.Op=34) (M (s5 ((aa b! (s? h.N 8))<(a00 i.Tables:Int))))<|ite (h.Op=35) (M i.a6)<|b? (ite (h.Op=36) (M a35)<|ite (h.Op=37) (M a35)<|ite (h.Op=38) (M a35)<|M (h.Op==39)) λc=>ite c (b? (ite i.a6 (ite (0<=h.N) (M (s5 (h.N<a00 i.ay)))<|M a36)<|M a36) λd=>M d)<|M a35
def um(b:Int):Option Bool:=b? (ite (¬b=2) (ite (¬b=3) (M (b==4))<|M a35)<|M a35) λa=>M a
def nn(c:Int):Option Bool:=b? ((um c).bind λb=>ite (b=a36) (M (c==5))<|M a35) λa=>M a
def mn(n:fr) (o:om):Option (ej×Bool):=b? (ite (n.Op=6) (M (6,aa b! (s? n.N 16)))<|ite (n.Op=7) ((c! o.w n.N).bind λj=>M (j.a,j.g))<|ite (n.Op=8) ((c! o.d n.N).bind λk=>M (k.a,k.g))<|ite (n.Op=9) ((Kb 5).bind λl=>M (l.a,l.g))<|ite (n.Op=35) ((Kb 2).bind λm=>M (m.a,m.g))<|b? (ite (n.Op=36) (M a35)<|ite (n.Op=37) (M a35)<|ite (n.Op=38) (M a35)<|M (n.Op==39)) λf=>ite f ((c! o.ay n.N).bind λd=>M (d.a,d.g))<|(Kb n.Op).bind λe=>M (e.a,e.g)) λ(a,c)=>(zc (ej.mk a c) o.r).bind λb=>b? (ite (n.Op=36) (ite b (ite (¬a=2) (M (a==3))<|M a35)<|M a36)<|b? (ite (n.Op=37) (M a35)<|M (n.Op==38)) λg=>ite g (ite b (M (a==1))<|M a36)<|ite (n.Op=39) (ite b ((nn a).bind λi=>M i)<|M a36)<|M b) λh=>M (ej.mk a c,h)
def Ap(m:fr) (l:ej) (n:om):Option (ej×Bool):=ite (m.Op=10) ((um l.a).bind λj=>M (l,j))<|ite (m.Op=25) (M (l,l.a==1))<|b? (ite (m.Op=31) (M a35)<|M (m.Op==32)) λi=>ite i ((Kb 2).bind λk=>M (k,l.a==5))<|ite (m.Op=33) ((c! n.Tables m.N).bind λd=>b? ((zc d.af n.r).bind λg=>ite g ((zc d.Value n.r).bind λh=>ite h (M ((l.a==d.af.a)&&(l.g==d.af.g)))<|M a36)<|M a36) λe=>M (d.Value,e))<|(c! n.Tables (aa b! (s? m.N 8))).bind λa=>b? (ite (l.a=3) ((Kb 3).bind λb=>ite (a.af.a=b.a/\a.af.g=b.g) ((Kb 4).bind λc=>M ((a.Value.a==c.a)&&(a.Value.g==c.g)))<|M a36)<|M a36) λf=>M (l,f)
def wz(q o p:Int):Option (ej×Bool):=ite (q=13) (b? ((Kb o).bind λb=>ite (p=2) (ite (¬o=2) (M (b.a,b.g,o==3))<|M (b.a,b.g,a35))<|M (b.a,b.g,a36)) λ(l,m,n)=>M (ej.mk l m,n))<|ite (q=14) (b? ((Kb o).bind λc=>ite (p=4) (ite (¬o=3) (M (c.a,c.g,o==4))<|M (c.a,c.g,a35))<|M (c.a,c.g,a36)) λ(d,e,f)=>M (ej.mk d e,f))<|b? (ite (o=3) (M (p==3))<|M a36) λg=>ite g ((Kb 4).bind λk=>M (k,a35))<|b? ((Kb o).bind λa=>ite (p=2) (ite (¬o=2) (M (a.a,a.g,o==3))<|M (a.a,a.g,a35))<|M (a.a,a.g,a36)) λ(h,i,j)=>M (ej.mk h i,j)
def yp(A:Int) (z B:ej):Option (ej×Bool):=b? (ite (A=11) (M a35)<|M (A==12)) λv=>ite v (b? (ite (z.a=B.a/\z.g=B.g) ((um z.a).bind λy=>M y)<|M a36) λw=>M (z,w))<|b? (ite (A=13) (M a35)<|ite (A=14) (M a35)<|M (A==15)) λx=>ite x ((wz A z.a B.a).bind λc=>M (c.1,c.2))<|ite (A=16) (b? (ite (z.a=3) (M (B.a==3))<|M a36) λd=>M (z,d))<|b? (ite (A=17) (M a35)<|M (A==18)) λe=>ite e (b? (ite (z.a=B.a/\z.g=B.g) ((nn z.a).bind λs=>M s)<|M a36) λf=>M (z,f))<|b? (ite (A=19) (M a35)<|M (A==20)) λg=>ite g ((Kb 1).bind λt=>M (t,(z.a==B.a)&&(z.g==B.g)))<|b? (ite (A=21) (M a35)<|M (A==22)) λh=>ite h (b? ((Kb 1).bind λa=>ite (z.a=B.a/\z.g=B.g) ((nn z.a).bind λu=>M (a.a,a.g,u))<|M (a.a,a.g,a36)) λ(i,j,k)=>M (ej.mk i j,k))<|b? (ite (A=23) (M a35)<|M (A==24)) λl=>ite l (b? (ite (z.a=1) (M (B.a==1))<|M a36) λm=>M (z,m))<|b? (ite (A=27) (M a35)<|M (A==28)) λn=>ite n (b? (ite (z.a=5) (M (B.a==2))<|M a36) λo=>M (z,o))<|b? ((Kb 2).bind λb=>ite (z.a=5) (M (b.a,b.g,B.a==5))<|M (b.a,b.g,a36)) λ(p,q,r)=>M (ej.mk p q,r)
def db(r:fr) (q:List ej) (s:om):Option (ej×Int):=b? (ite (¬r.N=0) ((Gq r.Op).bind λn=>M (!n))<|M a36) λm=>ite m (M (ej.mk 0 0,2))<|(sb r s).bind λo=>ite (o=a36) (M (ej.mk 0 0,3))<|(Kc r s).bind λp=>ite (p=a36) (M (ej.mk 0 0,6))<|b? (ite ((a00 q:Int)=0) ((mn r s).bind λb=>M (b.1.a,b.1.g,b.2))<|ite ((a00 q:Int)=1) ((c! q 0).bind λi=>(Ap r i s).bind λc=>M (c.1.a,c.1.g,c.2))<|if(a00 q:Int)=2 then(c! q 0).bind λj=>(c! q 1).bind λk=>(yp r.Op j k).bind λd=>M (d.1.a,d.1.g,d.2)else(c! q 1).bind λa=>(c! q 0).bind λl=>ite (l.a=1) ((c! q 2).bind λe=>M (a.a,a.g,(a.a==e.a)&&(a.g==e.g)))<|M (a.a,a.g,a36)) λ(f,g,h)=>ite (h=a36) (M (ej.mk 0 0,8))<|M (ej.mk f g,0)
def bq(i:List fr) (j:om):p6 (List ej×Int) (List ej) (ej×Int×Int):=λ(a,b)=>ite (b<a00 i) ((c! i b).bind λf=>(Wo f.Op).bind λg=>(pK a (aa b! ((a00 a:Int)-g))).bind λh=>(db f h j).bind λe=>ite (¬e.2=0) (M (l? (ej.mk 0 0,b,e.2)))<|(Fw a (aa b! ((a00 a:Int)-g))).bind λc=>(app 16 c ([e.1])).bind λd=>M (i! (d,aa b! (b+1))))<|M (i? a)
def cw(d:List fr) (e:om):Option (ej×Int×Int):=(ij d).bind λb=>ite (¬b.2.2=0) (M (ej.mk 0 0,b.2.1,b.2.2))<|(ca (bq d e) (([]:List ej),0)).bind λy=>match y with |.inr v=>M v |.inl a=>(c! a 0).bind λc=>M (c,0,0)
def Ll(c:List fr) (d:om) (b:ej):Option Int:=(cw c d).bind λa=>ite (¬a.2.2=0) (M a.2.2)<|ite (¬(a.1.a=b.a/\a.1.g=b.g)) (M 8)<|M 0
def Nk(g:Int) (f:ek) (d:ke):p6 (Int×Int) Int Int:=λ(b,c)=>ite (c<g) (b? ((c! f.f c).bind λe=>ite (e.n=d.n) (M (Sum.inr (l? 7)))<|ite (e.u=d.u) (M (Sum.inl (aa b! (b+1))))<|M (Sum.inl b)) λz=>match z with |.inr v=>M v |.inl a=>M (i! (a,aa b! (c+1))))<|M (i? b)
def rq(p:cb) (q o:Int):Option Int:=(c! p.e q).bind λb=>(c! b.f o).bind λa=>(Jb a.n).bind λn=>ite (n=a36) (M 2)<|(ca (Nk o b a) (0,0)).bind λy=>match y with |.inr v=>M v |.inl e=>b? (ite (¬a.u<0) (M (s5 ((a00 b.d:Int)<=a.u)))<|M a35) λf=>ite f (M 6)<|b? (ite (¬a.al=(-1)) (ite (¬a.al<0) (ite (¬o<=a.al) ((c! b.f a.al).bind λi=>M (i.u !=a.u))<|M a35)<|M a35)<|M a36) λg=>ite g (M 9)<|b? (ite (¬a.ax<0) (ite (¬9<a.ax) ((Wf a.aa).bind λj=>ite j (M (a.aa.j==a.aa.To))<|M a35)<|M a35)<|M a35) λh=>ite h (M 3)<|ite (8<=e) (M 4)<|(qq a.a4).bind λk=>ite (k=a36) (M 2)<|(oq p q).bind λc=>b? (ite (0<(a00 a.ag:Int)) ((Ll a.ag c (ej.mk 1 0)).bind λd=>ite (¬d=0) (M (Sum.inr d))<|M (Sum.inl ()))<|M (Sum.inl ())) λz=>match z with |.inr v=>M v |.inl _=>(c! b.d a.u).bind λl=>(Ll a.Value c l.an).bind λm=>M m
def ID(k:List Int) (m:Int):p6 (List Int×Bool×Int) (List Int×Bool) Unit:=λ(l,n,a)=>ite (a<a00 k) (b? (b? (ite (n=a36) ((c! k a).bind λi=>M (s5 (m<=i)))<|M a36) λh=>ite h (b? ((c! k a).bind λj=>ite (m<j) ((app 8 l ([m])).bind λe=>M e)<|M l) λb=>M (b,a35))<|M (l,n)) λ(c,d)=>(c! k a).bind λf=>(app 8 c ([f])).bind λg=>M (i! (g,d,aa b! (a+1))))<|M (i? (l,n))
def Ag(f:List Int) (e:Int):Option (List Int):=(ca (ID f e) (([]:List Int),a36,0)).bind λy=>match y with |.inr _=>q6 |.inl (a,b)=>b? (ite (b=a36) ((app 8 a ([e])).bind λd=>M d)<|M a) λc=>M c
def Ay(c:ek) (b:Int):Option Bool:=b? (ite (0<=b) (M (s5 (b<a00 c.d)))<|M a36) λa=>M a
def dq(k:List Int) (m:Int):p6 (List Int×Bool×Int) (List Int×Bool) Unit:=λ(l,n,a)=>ite (a<a00 k) (b? (b? (ite (n=a36) ((c! k a).bind λi=>M (s5 (m<=i)))<|M a36) λh=>ite h (b? ((c! k a).bind λj=>ite (m<j) ((app 8 l ([m])).bind λe=>M e)<|M l) λb=>M (b,a35))<|M (l,n)) λ(c,d)=>(c! k a).bind λf=>(app 8 c ([f])).bind λg=>M (i! (g,d,aa b! (a+1))))<|M (i? (l,n))
def zp(f:List Int) (e:Int):Option (List Int):=(ca (dq f e) (([]:List Int),a36,0)).bind λy=>match y with |.inr _=>q6 |.inl (a,b)=>b? (ite (b=a36) ((app 8 a ([e])).bind λd=>M d)<|M a) λc=>M c
def zj(o:List fr):p6 (List Int×List Int×List Int×Int) (List Int×List Int×List Int) Unit:=λ(m,n,g,h)=>ite (h<a00 o) (b? ((c! o h).bind λa=>b? (ite (a.Op=7) ((zp m a.N).bind λl=>M l)<|M m) λk=>b? (ite (a.Op=8) ((zp n a.N).bind λi=>M i)<|M n) λb=>b? (ite (36<=a.Op) (M (s5 (a.Op<=39)))<|M a36) λc=>ite c ((zp g a.N).bind λj=>M (k,b,j))<|M (k,b,g)) λ(d,e,f)=>M (i! (d,e,f,aa b! (h+1))))<|M (i? (m,n,g))
def Xf(d:List fr):Option (List Int×List Int×List Int):=(ca (zj d) (([]:List Int),([]:List Int),([]:List Int),0)).bind λy=>match y with |.inr _=>q6 |.inl (a,b,c)=>M (a,b,c)
def Ft(h:ek) (g:(List Int×List Int×List Int)):p6 (List Int×Int) (List Int) Unit:=λ(a,b)=>ite (b<a00 g.2.1) (b? ((c! g.2.1 b).bind λc=>(Ay h c).bind λe=>ite e ((Ag a c).bind λf=>M f)<|M a) λd=>M (i! (d,aa b! (b+1))))<|M (i? a)
def Et(h:ek) (g:(List Int×List Int×List Int)):p6 (List Int×Int) (List Int) Unit:=λ(a,b)=>ite (b<a00 g.2.1) (b? ((c! g.2.1 b).bind λc=>(Ay h c).bind λe=>ite e ((Ag a c).bind λf=>M f)<|M a) λd=>M (i! (d,aa b! (b+1))))<|M (i? a)
def Bo(i:ek) (j:Int):p6 (List Int×Int) (List Int) Unit:=λ(d,e)=>ite (e<a00 i.f) (b? ((c! i.f e).bind λf=>ite (¬f.u=j) (M d)<|(Xf f.ag).bind λg=>(Xf f.Value).bind λh=>(ca (Ft i g) (d,0)).bind λy=>match y with |.inr _=>q6 |.inl a=>(ca (Et i h) (a,0)).bind λy=>match y with |.inr _=>q6 |.inl b=>M b) λc=>M (i! (c,aa b! (e+1))))<|M (i? d)
def Dp(c:ek) (d:Int):Option (List Int):=(Ay c d).bind λb=>ite (b=a36) (M ([]))<|(ca (Bo c d) (([]:List Int),0)).bind λy=>match y with |.inr _=>q6 |.inl a=>M a
def ti(e:List Int):p6 (List Int×Int) (List Int) Unit:=λ(b,a)=>ite (a<a00 e) ((c! e a).bind λc=>(Ag b c).bind λd=>M (i! (d,aa b! (a+1))))<|M (i? b)
def ui(g:ek) (f:List Int):p6 (List Int×Int) (List Int) Unit:=λ(c,b)=>ite (b<a00 f) ((c! f b).bind λd=>(Dp g d).bind λe=>(ca (ti e) (c,0)).bind λy=>match y with |.inr _=>q6 |.inl a=>M (i! (a,aa b! (b+1))))<|M (i? c)
def vi(e:ek):p6 (List Int×Int) (List Int) Unit:=λ(c,b)=>ite (b<a00 e.d) ((ca (ui e c) (c,0)).bind λy=>match y with |.inr _=>q6 |.inl a=>M (i! (a,aa b! (b+1))))<|M (i? c)
def Yf(c:ek) (d:Int):Option (List Int):=(Dp c d).bind λb=>(ca (vi c) (b,0)).bind λy=>match y with |.inr _=>q6 |.inl a=>M a
def zi(e:cb) (d:Int) (c:ek):p6 Int Unit ll:=λa=>ite (a<a00 c.f) ((rq e d a).bind λb=>ite (¬b=0) (M (l? (ll.mk b 3 d (aa b! (300+a)))))<|M (i! (aa b! (a+1))))<|M (i? ())
def Cj(e b:Int) (c:List Int):p6 Int Unit (Ex Int Unit ll):=λa=>ite (a<a00 c) ((c! c a).bind λd=>ite (d=b) (M (l? (l? (ll.mk 9 3 e (aa b! (200+b))))))<|M (i! (aa b! (a+1))))<|M (i? ())
def wi(e:Int) (c:ek):p6 Int Unit ll:=λa=>ite (a<a00 c.d) ((Yf c a).bind λb=>(ca (Cj e a b) 0).bind λy=>match y with |.inr v=>M v |.inl _=>M (i! (aa b! (a+1))))<|M (i? ())
def Ho(h:cb) (g:Int):Option ll:=(c! h.e g).bind λa=>(Jb a.n).bind λd=>ite (d=a36) (M (ll.mk 2 3 g 0))<|(jd h 3 g a.n).bind λe=>ite e (M (ll.mk 7 3 g 0))<|b? (ite (¬a.ac=(-1)) (ite (¬a.ac<0) (ite (¬g<=a.ac) ((c! h.e a.ac).bind λf=>M (f.ac !=(-1)))<|M a35)<|M a35)<|M a36) λc=>ite c (M (ll.mk 6 3 g 0))<|ite (12<(a00 a.w:Int)) (M (ll.mk 4 3 g 112))<|ite (12<(a00 a.d:Int)) (M (ll.mk 4 3 g 212))<|(Eo h g).bind λb=>ite (¬b.Code=0) (M b)<|(ca (zi h g a) 0).bind λy=>match y with |.inr v=>M v |.inl _=>(ca (wi g a) 0).bind λy=>match y with |.inr v=>M v |.inl _=>M (ll.mk 0 0 0 0)
def Gm(c:cb):p6 Int Unit ll:=λb=>ite (b<a00 c.r) ((pq c b).bind λa=>ite (¬a.Code=0) (M (l? a))<|M (i! (aa b! (b+1))))<|M (i? ())
def Fm(c:cb):p6 Int Unit ll:=λb=>ite (b<a00 c.Tables) ((Io c b).bind λa=>ite (¬a.Code=0) (M (l? a))<|M (i! (aa b! (b+1))))<|M (i? ())
def Em(c:cb):p6 Int Unit ll:=λa=>ite (a<a00 c.e) ((Ho c a).bind λb=>ite (¬b.Code=0) (M (l? b))<|M (i! (aa b! (a+1))))<|M (i? ())
def Ds(a:cb):Option ll:=ite (8<(a00 a.r:Int)) (M (ll.mk 4 1 8 0))<|(ca (Gm a) 0).bind λy=>match y with |.inr v=>M v |.inl _=>ite (8<(a00 a.Tables:Int)) (M (ll.mk 4 2 8 0))<|(ca (Fm a) 0).bind λy=>match y with |.inr v=>M v |.inl _=>ite (4<(a00 a.e:Int)) (M (ll.mk 4 3 4 0))<|(ca (Em a) 0).bind λy=>match y with |.inr v=>M v |.inl _=>M (ll.mk 0 0 0 0)
def yg(c:hO) (d:Int):Option Bool:=b? ((Wf c).bind λb=>ite b (ite (c.j<=d) (M (s5 (d<c.To)))<|M a36)<|M a36) λa=>M a
def Ao(i:ek) (j k:Int):p6 (List Int×Int) (List Int) Unit:=λ(h,g)=>ite (g<a00 i.f) (b? (b? ((c! i.f g).bind λb=>ite (b.u=j) ((yg b.aa k).bind λd=>M d)<|M a36) λc=>ite c ((app 8 h ([g])).bind λe=>M e)<|M h) λa=>M (i! (a,aa b! (g+1))))<|M (i? h)
def su(b:ek) (c d:Int):Option (List Int):=(ca (Ao b c d) (([]:List Int),0)).bind λy=>match y with |.inr _=>q6 |.inl a=>M a
def bw(f:(List Int×Int×Int)):p6 (List Int×Int×Int) (List Int) Unit:=λ(c,b,a)=>ite (0<=a) ((c! c a).bind λg=>(put c a b).bind λd=>(c! f.1 b).bind λe=>M (i! (d,aa b! (e-1),aa b! (a-1))))<|M (i? c)
def Vr(h:List fr) (g:Int):Option (List Int):=(ij h).bind λc=>b? (ite (c.2.2=0) (ite (¬g<0) (M (s5 ((a00 h:Int)<=g)))<|M a35)<|M a35) λd=>ite d (M ([]))<|(c! h g).bind λe=>(Wo e.Op).bind λb=>(fD 8 0 b b).bind λf=>(ca (bw c) (f,aa b! (g-1),aa b! (b-1))).bind λy=>match y with |.inr _=>q6 |.inl a=>M a
def aq(f:List Int) (g:Int):p6 (List Int×Int) (List Int) Unit:=λ(d,e)=>ite (e<a00 f) (b? ((c! f e).bind λa=>ite (a<g) ((app 8 d ([a])).bind λc=>M c)<|M d) λb=>M (i! (b,aa b! (e+1))))<|M (i? d)
def Zp(f:List Int) (g:Int):p6 (List Int×Int) (List Int) Unit:=λ(a,b)=>ite (b<a00 f) (b? ((c! f b).bind λc=>ite (g<c) ((app 8 a ([c])).bind λe=>M e)<|M a) λd=>M (i! (d,aa b! (b+1))))<|M (i? a)
def tt(e:List Int) (d:Int):Option (List Int):=(ca (aq e d) (([]:List Int),0)).bind λy=>match y with |.inr _=>q6 |.inl a=>(app 8 a ([d])).bind λc=>(ca (Zp e d) (c,0)).bind λy=>match y with |.inr _=>q6 |.inl b=>M b
def As(c:List Int) (d:Int):p6 Int Unit Int:=λb=>ite (b<a00 c) ((c! c b).bind λa=>ite (a=d) (M (l? b))<|M (i! (aa b! (b+1))))<|M (i? ())
def xv(a:List Int) (b:Int):Option Int:=(ca (As a b) 0).bind λy=>match y with |.inr v=>M v |.inl _=>M (-1)
def Kl(e:ek) (g:List Int):p6 (Int×Int) Unit Int:=λ(h,a)=>b? (ite (0<=a) (M (s5 (a<h)))<|M a36) λc=>ite c ((xv g a).bind λb=>ite (0<=b) (M (l? b))<|(c! e.f a).bind λd=>M (i! (a,d.al)))<|M (i? ())
def pw(b:ek) (d:List Int) (c:Int):Option Int:=(c! b.f c).bind λa=>(ca (Kl b d) (c,a.al)).bind λy=>match y with |.inr v=>M v |.inl _=>M (-1)
def mq(i:ek) (b:List Int):p6 (List Int×List Int×Int) (List Int×List Int) Unit:=λ(j,d,a)=>ite (a<a00 b) ((c! b a).bind λe=>(pw i b e).bind λf=>(app 8 j ([f])).bind λg=>(c! i.f e).bind λh=>(app 8 d ([h.ax])).bind λc=>M (i! (g,c,aa b! (a+1))))<|M (i? (j,d))
def ow(d:ek) (e f:Int):Option (List Int×List Int×List Int):=(su d e f).bind λc=>(ca (mq d c) (([]:List Int),([]:List Int),0)).bind λy=>match y with |.inr _=>q6 |.inl (a,b)=>M (c,a,b)
def vz(b:List fr):Option (List Int×Int):=(ij b).bind λa=>M (a.1,a.2.2)
def Bt(a:Int):Option (Int×Int):=ite (a=1) (M (0,1))<|ite (a=2) (M (-1000000000000,1000000000000))<|ite (a=3) (M (-1000000000000000,1000000000000000))<|ite (a=4) (M (-1000000000,1000000000))<|ite (a=5) (M (0,109572))<|ite (a=6) (M (0,15))<|M (0,-1)
def Hb(d:bz):Option Bool:=(Bt d.a).bind λa=>b? (ite (¬d.N<a.1) (M (s5 (a.2<d.N)))<|M a35) λb=>ite b (M a36)<|ite (d.a=6) (b? (ite (0<=d.g) (M (s5 (d.g<8)))<|M a36) λc=>M c)<|M (d.g==0)
def ru(c:Int):Option Bool:=b? (ite (1<=c) (ite (¬c<=8) (ite (36<=c) (M (s5 (c<=39)))<|M a36)<|M a35)<|ite (36<=c) (M (s5 (c<=39)))<|M a36) λb=>ite b (M a35)<|b? (ite (¬c=14) (ite (¬c=15) (ite (¬c=16) (ite (¬c=33) (M (c==34))<|M a35)<|M a35)<|M a35)<|M a35) λa=>M a
def gw(g:fr) (h:Int):Option Bool:=b? ((Wo g.Op).bind λe=>ite (e=h) (ite (¬g.N=0) ((ru g.Op).bind λf=>M (!f))<|M a36)<|M a35) λc=>ite c (M a36)<|b? (ite (g.Op=14) (M a35)<|ite (g.Op=15) (M a35)<|M (g.Op==16)) λd=>ite d (b? (ite (0<=g.N) (M (s5 (g.N<=5)))<|M a36) λa=>M a)<|ite (g.Op=34) (b? (ite (0<=g.N) (M (s5 ((v? g.N 8)<=5)))<|M a36) λb=>M b)<|ite (g.Op=6) (M (s5 (0<=g.N)))<|M a35
def yy(g:fr) (h:ia):Option Bool:=ite (g.Op=7) (b? (ite (0<=g.N) (M (s5 (g.N<a00 h.w)))<|M a36) λd=>M d)<|ite (g.Op=8) (b? (ite (0<=g.N) (ite (g.N<a00 h.d) ((c! h.d g.N).bind λf=>M (f.a !=0))<|M a36)<|M a36) λe=>M e)<|ite (g.Op=33) (b? (ite (0<=g.N) (M (s5 (g.N<a00 h.Tables)))<|M a36) λa=>M a)<|ite (g.Op=34) (M (s5 ((aa b! (s? g.N 8))<(a00 h.Tables:Int))))<|b? (ite (g.Op=36) (M a35)<|ite (g.Op=37) (M a35)<|ite (g.Op=38) (M a35)<|M (g.Op==39)) λb=>ite b (b? (ite (0<=g.N) (M (s5 (g.N<a00 h.au)))<|M a36) λc=>M c)<|M a35
def qu(d:Int) (c:ej):Option Bool:=ite (¬c.g=0) (M a36)<|ite (d=36) (b? (ite (¬c.a=2) (M (c.a==3))<|M a35) λa=>M a)<|ite (d=39) (b? (ite (2<=c.a) (M (s5 (c.a<=5)))<|M a36) λb=>M b)<|M (c.a==1)
def zC(c:bz) (d:ej):Option Bool:=b? ((Hb c).bind λb=>ite b (ite (c.a=d.a) (M (c.g==d.g))<|M a36)<|M a36) λa=>M a
def Pu(e c d:Int) (b:Bool):Option Int:=ite (e=36) (M (aa b! (c+d)))<|ite (e=37) (M (aa b! (c*d)))<|ite (e=38) (ite (c<d) (M d)<|M c)<|b? (ite (b=a36) (M (s5 (c<d)))<|M a35) λa=>ite a (M d)<|M c
def Pc(b c:Int):Option (bz×Int):=(Hb (bz.mk b 0 c)).bind λa=>ite (a=a36) (M (bz.mk 0 0 0,3))<|M (bz.mk b 0 c,0)
def Dt(k:fr) (l:ia) (j:ej):p6 (Int×Int) Int (bz×Int):=λ(i,d)=>ite (d<a00 l.s) ((c! l.s d).bind λh=>b? (ite (¬(a00 h:Int)<=k.N) ((c! h k.N).bind λf=>M (f.a==0))<|M a35) λe=>ite e (M (l? (bz.mk 0 0 0,6)))<|(c! h k.N).bind λa=>(zC a j).bind λg=>ite (g=a36) (M (l? (bz.mk 0 0 0,8)))<|(Pu k.Op i a.N (d==0)).bind λb=>(Pc j.a b).bind λc=>ite (¬c.2=0) (M (l? (bz.mk 0 0 0,c.2)))<|M (i! (b,aa b! (d+1))))<|M (i? i)
def Hq(g:fr) (h:ia):Option (bz×Int):=(c! h.au g.N).bind λd=>(qu g.Op d).bind λf=>ite (f=a36) (M (bz.mk 0 0 0,8))<|b? (ite (g.Op=37) (M 1)<|M 0) λe=>(ca (Dt g h d) (e,0)).bind λy=>match y with |.inr v=>M v |.inl b=>b? (ite (g.Op=39) (M ((a00 h.s:Int)==0))<|M a36) λc=>ite c (M (bz.mk 0 0 0,6))<|(Pc d.a b).bind λa=>M (a.1,a.2)
def ig(i:fr) (j:ia):Option (bz×Int):=ite (i.Op=7) ((c! j.w i.N).bind λe=>(Hb e).bind λg=>ite (g=a36) (M (bz.mk 0 0 0,8))<|M (e,0))<|ite (i.Op=8) ((c! j.d i.N).bind λf=>(Hb f).bind λh=>ite (h=a36) (M (bz.mk 0 0 0,8))<|M (f,0))<|ite (i.Op=9) ((Pc 5 j.z).bind λa=>M (a.1,a.2))<|ite (i.Op=35) ((Pc 2 (a00 j.s:Int)).bind λb=>M (b.1,b.2))<|ite (i.Op=6) ((Hb (bz.mk 6 (aa b! (s? i.N 16)) (v? i.N 16))).bind λd=>ite (d=a36) (M (bz.mk 0 0 0,3))<|M (bz.mk 6 (aa b! (s? i.N 16)) (v? i.N 16),0))<|(Pc i.Op i.N).bind λc=>M (c.1,c.2)
def Bp(b:Int):Option Bool:=b? (ite (¬b=2) (ite (¬b=3) (M (b==4))<|M a35)<|M a35) λa=>M a
def qi(b:Bool):Option (bz×Int):=b? (ite b (M 1)<|M 0) λa=>M (bz.mk 1 0 a,0)
def jt(b:Int):Option Bool:=b? (ite ((v? b 4)=0) (ite ((v? b 100)=0) (M ((v? b 400)==0))<|M a35)<|M a36) λa=>M a
def Hc(e d:Int):Option Int:=ite (d=2) ((jt e).bind λc=>ite c (M 29)<|M 28)<|b? (ite (d=4) (M a35)<|ite (d=6) (M a35)<|ite (d=9) (M a35)<|M (d==11)) λb=>ite b (M 30)<|b? (ite (d=1) (M a35)<|ite (d=3) (M a35)<|ite (d=5) (M a35)<|ite (d=7) (M a35)<|ite (d=8) (M a35)<|ite (d=10) (M a35)<|M (d==12)) λa=>ite a (M 31)<|M 0
def Vf(b:Int):Option Int:=(jt b).bind λa=>ite a (M 366)<|M 365
def Vo(b:Int):Option Bool:=b? (ite (0<=b) (M (s5 (b<=109572)))<|M a36) λa=>M a
def oo  : (Int×Int)->Option (Ex (Int×Int) (Int×Int) Unit):=λ(b,a)=>(Vf a).bind λc=>ite (c<=b) ((Vf a).bind λd=>M (i! (aa b! (b-d),aa b! (a+1))))<|M (i? (b,a))
def mo(c:Int):p6 (Int×Int) (Int×Int) Unit:=λ(b,a)=>(Hc c a).bind λd=>ite (d<=b) ((Hc c a).bind λe=>M (i! (aa b! (b-e),aa b! (a+1))))<|M (i? (b,a))
def Sr(f:Int):Option (Int×Int×Int):=(Vo f).bind λe=>ite (e=a36) (M (0,0,0))<|(ca oo (f,1900)).bind λy=>match y with |.inr _=>q6 |.inl (b,a)=>(ca (mo a) (b,1)).bind λy=>match y with |.inr _=>q6 |.inl (c,d)=>M (a,d,aa b! (c+1))
def nu(c:se) (e d:Int):Option Bool:=b? ((yg c.aa e).bind λb=>ite b (ite (c.Lo<=d) (M (s5 (d<c.Hi)))<|M a36)<|M a36) λa=>M a
def iq(d:oe) (e f:Int):p6 Int Unit (Int×Bool):=λc=>ite (c<a00 d.Rows) ((c! d.Rows c).bind λa=>(nu a e f).bind λb=>ite b (M (l? (c,a35)))<|M (i! (aa b! (c+1))))<|M (i? ())
def vt(a:oe) (b c:Int):Option (Int×Bool):=(ca (iq a b c) 0).bind λy=>match y with |.inr v=>M v |.inl _=>M (0,a36)
def Ct(e:oe) (h:Int) (f:bz):Option (bz×Int):=b? (ite (f.a=e.af.a) (ite (f.g=e.af.g) (ite (¬e.Value.a<1) (M (s5 (6<e.Value.a)))<|M a35)<|M a35)<|M a35) λc=>ite c (M (bz.mk 0 0 0,8))<|(vt e h f.N).bind λa=>ite (a.2=a36) (M (bz.mk 0 0 0,6))<|(c! e.Rows a.1).bind λb=>(Hb (bz.mk e.Value.a e.Value.g b.N)).bind λd=>ite (d=a36) (M (bz.mk 0 0 0,3))<|M (bz.mk e.Value.a e.Value.g b.N,0)
def Rr(b:Int):Option Bool:=b? (ite (0<=b) (M (s5 (b<=5)))<|M a36) λa=>M a
def Hd(b c:Int):Option Bool:=b? (ite (¬c<b) (M (s5 (b<(aa b! (-c)))))<|M a35) λa=>M a
def Fk(d e:Int):Option (Int×Int×Bool):=b? (ite (e<0) (M (aa .u64 ((aa .u64 (aa b! (-(aa b! (e+1)))))+1)))<|M (aa .u64 e)) λa=>b? (ite (0<(aa b! (aa .u64 (s? a 1000000)))) ((quo b! 1000000000000000 (aa b! (aa .u64 (s? a 1000000)))).bind λc=>M (s5 (c<d)))<|M a36) λb=>ite b (M (0,0,a36))<|ite (1000000000000000<(aa b! ((aa b! ((aa b! (d*(aa b! (aa .u64 (s? a 1000000)))))+(aa b! ((aa b! (s? d 1000000))*(aa b! (v? a 1000000))))))+(aa b! (s? (aa b! ((v? d 1000000)*(aa b! (v? a 1000000)))) 1000000))))) (M (0,0,a36))<|ite (e<0) (M (aa b! (-(aa b! ((aa b! ((aa b! (d*(aa b! (aa .u64 (s? a 1000000)))))+(aa b! ((aa b! (s? d 1000000))*(aa b! (v? a 1000000))))))+(aa b! (s? (aa b! ((v? d 1000000)*(aa b! (v? a 1000000)))) 1000000))))),aa b! (-(v? (aa b! ((v? d 1000000)*(aa b! (v? a 1000000)))) 1000000)),a35))<|M (aa b! ((aa b! ((aa b! (d*(aa b! (aa .u64 (s? a 1000000)))))+(aa b! ((aa b! (s? d 1000000))*(aa b! (v? a 1000000))))))+(aa b! (s? (aa b! ((v? d 1000000)*(aa b! (v? a 1000000)))) 1000000))),v? (aa b! ((v? d 1000000)*(aa b! (v? a 1000000)))) 1000000,a35)
def Ph(g f h:Int) (a:Bool) (c:Int):Option Int:=b? (ite (c=0) (ite a (M (a35,s5 (0<f)))<|M (a36,a36))<|ite (c=1) (ite (a=a36) (M (a,s5 (0<f)))<|M (a,a36))<|ite (c=3) (M (a,s5 (0<f)))<|ite (c=4) (M (a,s5 ((aa b! (h-f))<=f)))<|ite (c=5) (ite (¬(aa b! (h-f))<f) (ite (f=(aa b! (h-f))) (M (a,(v? g 2)==1))<|M (a,a36))<|M (a,a35))<|M (a,a36)) λ(d,e)=>b? (ite e (M (aa b! (g+1)))<|M g) λb=>ite d (M (aa b! (-b)))<|M b
def uo  : (Int×Int)->Option (Ex (Int×Int) (Int×Int) Unit):=λ(b,a)=>ite (a<0) (M (i! (aa b! (b-1),aa b! (a+1000000))))<|M (i? (b,a))
def so  : (Int×Int)->Option (Ex (Int×Int) (Int×Int) Unit):=λ(b,a)=>ite (1000000<=a) (M (i! (aa b! (b+1),aa b! (a-1000000))))<|M (i? (b,a))
def ou(h i g:Int):Option Int:=(ca uo (h,i)).bind λy=>match y with |.inr _=>q6 |.inl (e,f)=>(ca so (e,f)).bind λy=>match y with |.inr _=>q6 |.inl (a,b)=>ite (0<=a) ((Ph a b 1000000 a36 g).bind λc=>M c)<|ite (b=0) (M a)<|(Ph (aa b! ((aa b! (-a))-1)) (aa b! (1000000-b)) 1000000 a35 g).bind λd=>M d
def Yq(j:oe) (l k:Int):p6 (Int×Int×Int) (Int×Int) (Int×Int):=λ(g,h,b)=>ite (b<a00 j.Rows) (b? ((c! j.Rows b).bind λa=>b? (if¬(min a.Hi k)<=(max a.Lo 0)then(yg a.aa l).bind λi=>M (!i)else M a35) λd=>ite d (M (Sum.inl (g,h)))<|(Fk (aa b! ((min a.Hi k)-(max a.Lo 0))) a.N).bind λc=>ite (c.2.2=a36) (M (Sum.inr (l? (0,3))))<|M (Sum.inl (aa b! (g+c.1),aa b! (h+c.2.1)))) λz=>match z with |.inr v=>M v |.inl (e,f)=>M (i! (e,f,aa b! (b+1))))<|M (i? (g,h))
def Wr(i:oe) (k j e:Int):Option (Int×Int):=(Rr e).bind λg=>ite (g=a36) (M (0,1))<|b? (ite (i.af.a=3/\i.af.g=0) (M (!((i.Value.a==4)&&(i.Value.g==0))))<|M a35) λf=>ite f (M (0,8))<|(Hd j 1000000000000000).bind λh=>ite h (M (0,3))<|(ca (Yq i k j) (0,0,0)).bind λy=>match y with |.inr v=>M v |.inl (b,c)=>(ou b c e).bind λa=>(Hd a 1000000000000000).bind λd=>ite d (M (0,3))<|M (a,0)
def Hk(c d b:Int):Option (bz×Int):=ite (¬b=0) (M (bz.mk 0 0 0,b))<|(Pc c d).bind λa=>M (a.1,a.2)
def Ae(o:fr) (n:bz) (p:ia):Option (bz×Int):=ite (o.Op=10) ((Bp n.a).bind λm=>ite (m=a36) (M (bz.mk 0 0 0,8))<|(Pc n.a (aa b! (0-n.N))).bind λj=>M (j.1,j.2))<|ite (o.Op=25) (ite (¬n.a=1) (M (bz.mk 0 0 0,8))<|(qi (n.N==0)).bind λk=>M (k.1,k.2))<|b? (ite (o.Op=31) (M a35)<|M (o.Op==32)) λl=>ite l (ite (¬n.a=5) (M (bz.mk 0 0 0,8))<|(Sr n.N).bind λb=>ite (o.Op=31) ((Pc 2 b.1).bind λc=>M (c.1,c.2))<|(Pc 2 b.2.1).bind λd=>M (d.1,d.2))<|ite (o.Op=33) ((c! p.Tables o.N).bind λi=>(Ct i p.z n).bind λe=>M (e.1,e.2))<|(c! p.Tables (aa b! (s? o.N 8))).bind λa=>b? (ite (n.a=3) (ite (a.af.a=3) (ite (a.af.g=0) (ite (a.Value.a=4) (M (a.Value.g !=0))<|M a35)<|M a35)<|M a35)<|M a35) λh=>ite h (M (bz.mk 0 0 0,8))<|(Wr a p.z n.N (v? o.N 8)).bind λf=>(Hk 3 f.1 f.2).bind λg=>M (g.1,g.2)
def Dq(a:Int):Option Int:=ite (a<0) (M (aa b! (-a)))<|M a
def zk(k j l:Int):Option (Int×Int):=(Rr l).bind λg=>ite (g=a36) (M (0,1))<|ite (j=0) (M (0,12))<|b? ((Hd k 4611686018427387904).bind λh=>ite (h=a36) ((Hd j 4611686018427387904).bind λi=>M i)<|M a35) λf=>ite f (M (0,3))<|(Dq k).bind λe=>(Dq j).bind λa=>(quo b! e a).bind λb=>(rem b! e a).bind λc=>(Ph b c a (!((s5 (k<0))==(s5 (j<0)))) l).bind λd=>M (d,0)
def Xv(t u s m:Int):Option (Int×Int):=(Rr m).bind λo=>ite (o=a36) (M (0,1))<|ite (s=0) (M (0,12))<|b? ((Hd t 1000000000000000).bind λp=>ite (p=a36) ((Hd u 1000000000).bind λq=>ite (q=a36) ((Hd s 1000000000).bind λr=>M r)<|M a35)<|M a35) λn=>ite n (M (0,3))<|(Dq t).bind λc=>(Dq u).bind λb=>(Dq s).bind λa=>b? (ite (0<b) ((quo b! c a).bind λg=>(quo b! 1000000000000000 b).bind λh=>M (s5 (h<g)))<|M a36) λf=>ite f (M (0,3))<|(rem b! c a).bind λd=>(quo b! c a).bind λi=>(quo b! (aa b! (d*b)) a).bind λj=>(rem b! (aa b! (d*b)) a).bind λk=>(Ph (aa b! ((aa b! (i*b))+j)) k a (!((!((s5 (t<0))==(s5 (u<0))))==(s5 (s<0)))) m).bind λe=>(Hd e 1000000000000000).bind λl=>ite l (M (0,3))<|M (e,0)
def uy(b c d:Int):Option (Int×Int):=(Xv b c 1000000 d).bind λa=>M (a.1,a.2)
def Iq(i g h:Int):Option (bz×Int):=(Bt i).bind λe=>b? (ite (g<0) (M (aa b! (0-g)))<|M g) λc=>b? (ite (h<0) (M (aa b! (0-h)))<|M h) λb=>b? (ite (¬b=0) ((quo b! e.2 b).bind λf=>M (s5 (f<c)))<|M a36) λd=>ite d (M (bz.mk 0 0 0,3))<|(Pc i (aa b! (g*h))).bind λa=>M (a.1,a.2)
def xg(b c:Int):Option Bool:=b? (ite (¬c<b) (M (s5 (b<(aa b! (0-c)))))<|M a35) λa=>M a
def tv(d c:Int):Option (Int×Int):=(quo b! d c).bind λb=>(rem b! d c).bind λa=>ite (a<0) (M (aa b! (b-1),aa b! (a+c)))<|M (b,a)
def Fq(e f g a:Int):Option Int:=ite (f=0) (M e)<|b? (ite (¬a=1) (ite (a=2) (ite (¬e<0) (ite (a=3) (M (s5 (0<=e)))<|M a36)<|M a35)<|ite (a=3) (M (s5 (0<=e)))<|M a36)<|M a35) λc=>b? (b? (ite (¬a=4) (M (a==5))<|M a35) λd=>ite d (ite (f=(aa b! (g-f))) (ite (a=4) (ite (¬0<=e) (ite (a=5) (M ((v? e 2) !=0))<|M a36)<|M a35)<|ite (a=5) (M ((v? e 2) !=0))<|M a36)<|M (s5 ((aa b! (g-f))<f)))<|M c) λb=>ite b (M (aa b! (e+1)))<|M e
def wC(i j h:Int):Option (Int×Int):=b? (ite (¬h<0) (M (s5 (5<h)))<|M a35) λd=>ite d (M (0,1))<|b? ((xg i 1000000000).bind λf=>ite (f=a36) ((xg j 1000000000).bind λg=>M g)<|M a35) λe=>ite e (M (0,3))<|(tv (aa b! (i*j)) 1000000).bind λc=>(Fq c.1 c.2 1000000 h).bind λa=>(xg a 1000000000).bind λb=>ite b (M (0,3))<|M (a,0)
def Yp(p o q:Int):Option (Int×Int):=b? (ite (¬q<0) (M (s5 (5<q)))<|M a35) λk=>ite k (M (0,1))<|ite (o=0) (M (0,12))<|b? ((xg p 1000000000000000).bind λm=>ite (m=a36) ((xg o 1000000000000000).bind λn=>M n)<|M a35) λl=>ite l (M (0,3))<|b? (ite (o<0) (M (aa b! (0-p),aa b! (0-o)))<|M (p,o)) λ(e,a)=>(tv e a).bind λb=>(xg b.1 1001).bind λf=>ite f (M (0,3))<|(quo b! (aa b! (b.2*1000)) a).bind λg=>(rem b! (aa b! (b.2*1000)) a).bind λc=>(quo b! (aa b! (c*1000)) a).bind λh=>(rem b! (aa b! (c*1000)) a).bind λi=>(Fq (aa b! ((aa b! ((aa b! (b.1*1000000))+(aa b! (g*1000))))+h)) i a q).bind λd=>(xg d 1000000000).bind λj=>ite j (M (0,3))<|M (d,0)
def ku(j i k:Int):Option (Int×Int):=(Rr k).bind λf=>ite (f=a36) (M (0,1))<|ite (i<1) (M (0,12))<|b? ((Hd j 1000000000000000).bind λg=>ite (g=a36) (M (s5 (1000000000000000<i)))<|M a35) λe=>ite e (M (0,3))<|(Dq j).bind λd=>(quo b! d i).bind λh=>(rem b! d i).bind λb=>(Ph h b i (s5 (j<0)) k).bind λa=>(Hd (aa b! (a*i)) 1000000000000000).bind λc=>ite c (M (0,3))<|M (aa b! (a*i),0)
def Jd(w:fr) (u v:bz):Option (bz×Int):=b? (ite (w.Op=13) (ite (v.a=2) (ite (¬u.a=3) (M (a36,u.a==2))<|M (a35,a35))<|M (u.a==3,a36))<|M (u.a==3,a36)) λ(r,t)=>ite t ((Iq u.a u.N v.N).bind λs=>M (s.1,s.2))<|b? (ite (w.Op=14) (ite (v.a=4) (M r)<|M a36)<|M a36) λl=>ite l ((uy u.N v.N w.N).bind λb=>(Hk u.a b.1 b.2).bind λc=>M (c.1,c.2))<|b? (ite (w.Op=14) (ite (v.a=4) (M (u.a==4))<|M a36)<|M a36) λm=>ite m ((wC u.N v.N w.N).bind λd=>(Hk u.a d.1 d.2).bind λe=>M (e.1,e.2))<|b? (ite (w.Op=15) (ite r (M (a35,v.a==3))<|M (a36,a36))<|M (r,a36)) λ(a,n)=>ite n ((Yp u.N v.N w.N).bind λf=>(Hk 4 f.1 f.2).bind λg=>M (g.1,g.2))<|b? (ite (w.Op=15) (ite (v.a=2) (ite (a=a36) (M (a36,u.a==2))<|M (a35,a35))<|M (a,a36))<|M (a,a36)) λ(o,p)=>ite p ((zk u.N v.N w.N).bind λh=>(Hk u.a h.1 h.2).bind λi=>M (i.1,i.2))<|b? (ite (w.Op=16) (ite o (M (v.a==3))<|M a36)<|M a36) λq=>ite q ((ku u.N v.N w.N).bind λj=>(Hk u.a j.1 j.2).bind λk=>M (k.1,k.2))<|M (bz.mk 0 0 0,8)
def sd(d:Int):p6 (Int×Int) Int Unit:=λ(c,a)=>ite (a<d) ((Vf a).bind λb=>M (i! (aa b! (c+b),aa b! (a+1))))<|M (i? c)
def qd(d e:Int):p6 (Int×Int) Int Unit:=λ(b,a)=>ite (a<e) ((Hc d a).bind λc=>M (i! (aa b! (b+c),aa b! (a+1))))<|M (i? b)
def fg(e g f:Int):Option (Int×Int):=b? (ite (¬e<1900) (ite (¬2199<e) (ite (¬f<1) ((Hc e g).bind λd=>M (s5 (d<f)))<|M a35)<|M a35)<|M a35) λc=>ite c (M (0,3))<|(ca (sd e) (aa b! (f-1),1900)).bind λy=>match y with |.inr _=>q6 |.inl a=>(ca (qd e g) (a,1)).bind λy=>match y with |.inr _=>q6 |.inl b=>M (b,0)
def Rg(g f:Int):Option (Int×Int):=b? ((Vo g).bind λd=>ite d (ite (¬f<(-3600)) (M (s5 (3600<f)))<|M a35)<|M a35) λc=>ite c (M (0,3))<|(Sr g).bind λa=>(Hc (aa b! (s? (aa b! ((aa b! ((aa b! ((aa b! (12*a.1))+a.2.1))-1))+f)) 12)) (aa b! ((v? (aa b! ((aa b! ((aa b! ((aa b! (12*a.1))+a.2.1))-1))+f)) 12)+1))).bind λe=>(fg (aa b! (s? (aa b! ((aa b! ((aa b! ((aa b! (12*a.1))+a.2.1))-1))+f)) 12)) (aa b! ((v? (aa b! ((aa b! ((aa b! ((aa b! (12*a.1))+a.2.1))-1))+f)) 12)+1)) (min a.2.2 e)).bind λb=>M (b.1,b.2)
def df(d e:Int):p6 Int Empty Int:=λa=>(Rg d (aa b! (12*(aa b! (a+1))))).bind λb=>b? (ite (b.2=0) (M (s5 (e<b.1)))<|M a35) λc=>ite c (M (l? a))<|M (i! (aa b! (a+1)))
def Dk(e f:Int):Option Int:=b? ((Vo e).bind λc=>ite c ((Vo f).bind λd=>M (!d))<|M a35) λa=>ite a (M 0)<|(ca (df e f) 0).bind λy=>match y with |.inr v=>M v |.inl b=>b.elim
def Xo(j:Int) (i h:bz):Option (bz×Int):=ite (¬i.a=5) (M (bz.mk 0 0 0,8))<|b? (ite (¬j=27) (M (j==28))<|M a35) λg=>ite g (ite (¬h.a=2) (M (bz.mk 0 0 0,8))<|ite (j=27) ((Pc 5 (aa b! (i.N+h.N))).bind λd=>M (d.1,d.2))<|(Rg i.N h.N).bind λe=>(Hk 5 e.1 e.2).bind λf=>M (f.1,f.2))<|ite (¬h.a=5) (M (bz.mk 0 0 0,8))<|ite (j=29) ((Pc 2 (aa b! (h.N-i.N))).bind λa=>M (a.1,a.2))<|(Dk i.N h.N).bind λc=>(Pc 2 c).bind λb=>M (b.1,b.2)
def bd(v:Int) (t u:bz):Option (bz×Int):=b? (ite (t.a=u.a) (M (t.g !=u.g))<|M a35) λr=>ite r (M (bz.mk 0 0 0,8))<|ite (v=19) ((qi (t.N==u.N)).bind λp=>M (p.1,p.2))<|ite (v=20) ((qi (t.N !=u.N)).bind λq=>M (q.1,q.2))<|b? (ite (v=23) (M a35)<|M (v==24)) λs=>ite s (ite (¬t.a=1) (M (bz.mk 0 0 0,8))<|b? (ite (¬(aa b! (t.N+u.N))=2) (ite (v=24) ((qi ((aa b! (t.N+u.N))==1)).bind λa=>M (a.1.a,a.1.g,a.1.N,a.2))<|(qi a36).bind λb=>M (b.1.a,b.1.g,b.1.N,b.2))<|(qi a35).bind λc=>M (c.1.a,c.1.g,c.1.N,c.2)) λ(h,i,j,k)=>M (bz.mk h i j,k))<|b? (ite (v=11) (M a35)<|M (v==12)) λl=>ite l ((Bp t.a).bind λn=>ite (n=a36) (M (bz.mk 0 0 0,8))<|ite (v=11) ((Pc t.a (aa b! (t.N+u.N))).bind λd=>M (d.1,d.2))<|(Pc t.a (aa b! (t.N-u.N))).bind λe=>M (e.1,e.2))<|b? ((Bp t.a).bind λo=>ite (o=a36) (M (t.a !=5))<|M a36) λm=>ite m (M (bz.mk 0 0 0,8))<|ite (v=21) ((qi (s5 (t.N<u.N))).bind λf=>M (f.1,f.2))<|ite (v=22) ((qi (s5 (t.N<=u.N))).bind λg=>M (g.1,g.2))<|ite ((v==17)=(s5 (t.N<u.N))) (M (t,0))<|M (u,0)
def Bb(e:fr) (f g:bz):Option (bz×Int):=b? (ite (13<=e.Op) (M (s5 (e.Op<=16)))<|M a36) λd=>ite d ((Jd e f g).bind λa=>M (a.1,a.2))<|ite (27<=e.Op) ((Xo e.Op f g).bind λb=>M (b.1,b.2))<|(bd e.Op f g).bind λc=>M (c.1,c.2)
def vo(d:List bz):p6 Int Unit (bz×Int):=λa=>ite (a<a00 d) ((c! d a).bind λb=>(Hb b).bind λc=>ite (c=a36) (M (l? (bz.mk 0 0 0,8)))<|M (i! (aa b! (a+1))))<|M (i? ())
def Zr(p:fr) (o:List bz) (q:ia):Option (bz×Int):=(gw p (a00 o:Int)).bind λm=>ite (m=a36) (M (bz.mk 0 0 0,2))<|(yy p q).bind λn=>ite (n=a36) (M (bz.mk 0 0 0,6))<|(ca (vo o) 0).bind λy=>match y with |.inr v=>M v |.inl _=>ite ((a00 o:Int)=0) (b? (ite (36<=p.Op) (M (s5 (p.Op<=39)))<|M a36) λh=>ite h ((Hq p q).bind λc=>M (c.1,c.2))<|(ig p q).bind λd=>M (d.1,d.2))<|ite ((a00 o:Int)=1) ((c! o 0).bind λj=>(Ae p j q).bind λe=>M (e.1,e.2))<|if(a00 o:Int)=2 then(c! o 0).bind λk=>(c! o 1).bind λl=>(Bb p k l).bind λf=>M (f.1,f.2)else(c! o 0).bind λg=>(c! o 1).bind λa=>(c! o 2).bind λb=>b? (ite (g.a=1) (ite (a.a=b.a) (M (a.g !=b.g))<|M a35)<|M a35) λi=>ite i (M (bz.mk 0 0 0,8))<|ite (g.N=1) (M (a,0))<|M (b,0)
def wo(h:List fr) (i:ia) (g:List Int) (b:((List fr)->Int->ia->Option (bz×Int))):p6 (List bz×Int) (List bz) (bz×Int):=λ(f,c)=>ite (c<a00 g) ((c! g c).bind λd=>(b h d i).bind λa=>ite (¬a.2=0) (M (l? (bz.mk 0 0 0,a.2)))<|(app 24 f ([a.1])).bind λe=>M (i! (e,aa b! (c+1))))<|M (i? f)
def qn(a:((List fr)->Int->ia->Option (bz×Int))) (b:((List fr)->Int->(List Int)->ia->Option (bz×Int))) (i:List fr) (j:Int) (k:ia):Option (bz×Int):=(Vr i j).bind λf=>(c! i j).bind λd=>b? (ite (¬d.Op=23) (ite (¬d.Op=24) (M (d.Op==26))<|M a35)<|M a35) λh=>ite h ((b i j f k).bind λg=>M (g.1,g.2))<|(ca (wo i k f a) (([]:List bz),0)).bind λy=>match y with |.inr v=>M v |.inl e=>(Zr d e k).bind λc=>M (c.1,c.2)
def iw(a:((List fr)->Int->ia->Option (bz×Int))) (R458:((List fr)->Int->(List Int)->ia->Option (bz×Int))) (p:List fr) (r:Int) (q:List Int) (f:ia):Option (bz×Int):=(c! p r).bind λh=>ite (¬h.N=0) (M (bz.mk 0 0 0,2))<|(c! q 0).bind λn=>(a p n f).bind λc=>ite (¬c.2=0) (M (bz.mk 0 0 0,c.2))<|b? (ite (c.1.a=1) ((Hb c.1).bind λo=>M (!o))<|M a35) λm=>ite m (M (bz.mk 0 0 0,8))<|ite (h.Op=26) (ite (c.1.N=1) ((c! q 1).bind λi=>(a p i f).bind λd=>M (d.1,d.2))<|(c! q 2).bind λj=>(a p j f).bind λe=>M (e.1,e.2))<|if(h.Op==23)=(c.1.N==0)then M (c.1,0)else(c! q 1).bind λk=>(a p k f).bind λb=>ite (¬b.2=0) (M (bz.mk 0 0 0,b.2))<|b? (ite (b.1.a=1) ((Hb b.1).bind λl=>M (!l))<|M a35) λg=>ite g (M (bz.mk 0 0 0,8))<|M (b.1,0)
def Fa:Nat->((List fr)->Int->ia->Option (bz×Int))×((List fr)->Int->(List Int)->ia->Option (bz×Int)) |0=>(λ_ _ _=>q6,λ_ _ _ _=>q6) |n+1=>(qn (Fa n).1 (Fa n).2,iw (Fa n).1 (Fa n).2)
def cB(a:List fr) (b:Int) (c:ia):Option (bz×Int):=(Fa cg).1 a b c
def EO(b:List fr) (c:Int) (d:List Int) (a:ia):Option (bz×Int):=(Fa cg).2 b c d a
def wx(c:List fr) (d:ia):Option (bz×Int):=(vz c).bind λa=>ite (¬a.2=0) (M (bz.mk 0 0 0,a.2))<|(cB c (aa b! ((a00 c:Int)-1)) d).bind λb=>M (b.1,b.2)
def zm(f g:List Int):p6 Int Unit Int:=λa=>ite (a<a00 f) (b? ((c! f a).bind λc=>ite (¬c<(-1)) (M (s5 (a<=c)))<|M a35) λe=>ite e (M (l? 9))<|b? ((c! g a).bind λd=>ite (¬d<0) (M (s5 (9<d)))<|M a35) λb=>ite b (M (l? 3))<|M (i! (aa b! (a+1))))<|M (i? ())
def ts(a b:List Int):Option Int:=ite (¬(a00 a:Int)=a00 b) (M 2)<|ite (8<(a00 a:Int)) (M 4)<|(ca (zm a b) 0).bind λy=>match y with |.inr v=>M v |.inl _=>M 0
def ym(f:List Int) (g:Int):p6 (List Int×Int) (List Int) Unit:=λ(e,d)=>ite (d<a00 f) (b? ((c! f d).bind λb=>ite (b=g) ((app 8 e ([d])).bind λc=>M c)<|M e) λa=>M (i! (a,aa b! (d+1))))<|M (i? e)
def js(b:List Int) (c:Int):Option (List Int):=(ca (ym b c) ([],0)).bind λy=>match y with |.inr _=>q6 |.inl a=>M a
def xo(R347:((List Int)->(List Int)->(List Bool)->Int->Option Int)) (a:((List Int)->(List Int)->(List Bool)->Int->Option (List Int))) (b:((List Int)->(List Int)->(List Bool)->Int->Option Int)) (g h:List Int) (i:List Bool) (d:Int):Option Int:=(a g h i d).bind λc=>ite ((a00 c:Int)=0) (M (-1))<|ite (1<(a00 c:Int)) (M (-2))<|(c! c 0).bind λe=>(b g h i e).bind λf=>M f
def Rx(s q:List Int) (t:List Bool) (n:List Int) (b:((List Int)->(List Int)->(List Bool)->Int->Option Int)):p6 (List Int×Int) (List Int) Unit:=λ(r,g)=>ite (g<a00 n) (b? ((c! n g).bind λc=>(b s q t c).bind λo=>ite (o=(-1)) (M r)<|b? (b? (ite (0<(a00 r:Int)) ((c! q c).bind λp=>(c! r 0).bind λh=>(c! q h).bind λi=>M (s5 (i<p)))<|M a36) λd=>ite d (M ([]))<|M r) λa=>b? (ite (¬(a00 a:Int)=0) ((c! q c).bind λj=>(c! a 0).bind λk=>(c! q k).bind λl=>M (j==l))<|M a35) λe=>ite e ((app 8 a ([c])).bind λm=>M m)<|M a) λf=>M (i! (f,aa b! (g+1))))<|M (i? r)
def mw(R347:((List Int)->(List Int)->(List Bool)->Int->Option Int)) (R348:((List Int)->(List Int)->(List Bool)->Int->Option (List Int))) (a:((List Int)->(List Int)->(List Bool)->Int->Option Int)) (e f:List Int) (g:List Bool) (c:Int):Option (List Int):=(js e c).bind λd=>(ca (Rx e f g d a) ([],0)).bind λy=>match y with |.inr _=>q6 |.inl b=>M b
def kq(a:((List Int)->(List Int)->(List Bool)->Int->Option Int)) (R348:((List Int)->(List Int)->(List Bool)->Int->Option (List Int))) (R460:((List Int)->(List Int)->(List Bool)->Int->Option Int)) (g h:List Int) (f:List Bool) (b:Int):Option Int:=(a g h f b).bind λc=>b? (ite (c=(-1)) ((c! f b).bind λe=>M e)<|M a36) λd=>ite d (M b)<|M c
def ja:Nat->((List Int)->(List Int)->(List Bool)->Int->Option Int)×((List Int)->(List Int)->(List Bool)->Int->Option (List Int))×((List Int)->(List Int)->(List Bool)->Int->Option Int) |0=>(λ_ _ _ _=>q6,λ_ _ _ _=>q6,λ_ _ _ _=>q6) |n+1=>(xo (ja n).1 (ja n).2.1 (ja n).2.2,mw (ja n).1 (ja n).2.1 (ja n).2.2,kq (ja n).1 (ja n).2.1 (ja n).2.2)
def nw(b c:List Int) (d:List Bool) (a:Int):Option Int:=(ja cg).1 b c d a
def HO(b c:List Int) (d:List Bool) (a:Int):Option (List Int):=(ja cg).2.1 b c d a
def DG(b c:List Int) (d:List Bool) (a:Int):Option Int:=(ja cg).2.2 b c d a
def jw(d e:List Int) (f:List Bool):Option Int:=b? ((ts d e).bind λb=>ite (b=0) (M ((a00 f:Int) !=a00 d))<|M a35) λa=>ite a (M (-1))<|(nw d e f (-1)).bind λc=>M c
def Gf(i:cb) (h:List bz) (j:List ml):p6 Int Unit (Int×Int):=λa=>ite (a<a00 h) ((c! h a).bind λc=>(c! j a).bind λe=>b? (ite (c.a=e.an.a) (M (c.g !=e.an.g))<|M a35) λf=>ite f (M (l? (a,8)))<|(Tc e.an i.r).bind λb=>b? (ite (¬c.N<b.1) (M (s5 (b.2<c.N)))<|M a35) λd=>ite d (M (l? (a,3)))<|M (i! (aa b! (a+1))))<|M (i? ())
def Ff(c:cb) (a:List bz) (b:List ml):Option (Int×Int):=ite ((a00 a:Int)<a00 b) (M ((a00 a:Int),5))<|if(a00 b:Int)<a00 a then M ((a00 b:Int),4)else(ca (Gf c a b) 0).bind λy=>match y with |.inr v=>M v |.inl _=>M (0,0)
def Xg(d:cb) (f:Int):Option (List ml×Int):=(c! d.e f).bind λa=>b? (ite (¬a.ac<0) (M (s5 ((a00 d.e:Int)<=a.ac)))<|M a35) λb=>ite b (M ([],0))<|(c! d.e a.ac).bind λc=>M (c.w,8)
def ai(f:cb) (e:ri) (c:(List ml×Int)):p6 Int Unit (Int×Int×Int):=λa=>ite (a<a00 e.s) ((c! e.s a).bind λd=>(Ff f d c.1).bind λb=>ite (¬b.2=0) (M (l? (a,b.1,b.2)))<|M (i! (aa b! (a+1))))<|M (i? ())
def Sl(f:cb) (h:Int) (g:ri):Option (Int×Int×Int):=b? (ite (¬h<0) (M (s5 ((a00 f.e:Int)<=h)))<|M a35) λc=>ite c (M (-1,-1,6))<|b? (ite (¬g.z<0) (M (s5 (109572<g.z)))<|M a35) λd=>ite d (M (-1,-1,3))<|(c! f.e h).bind λe=>(Ff f g.w e.w).bind λb=>ite (¬b.2=0) (M (-1,b.1,b.2))<|(Xg f h).bind λa=>ite (a.2<a00 g.s) (M (a.2,-1,4))<|(ca (ai f g a) 0).bind λy=>match y with |.inr v=>M v |.inl _=>M (0,0,0)
def kc(g:cb) (h:Int) (i:ri) (d:Bool) (b:Int):Option ot:=(rp g).bind λe=>ite (¬e.Code=0) (M (ot.mk 1 (-1) (-1) (-1)))<|b? (ite (¬h<0) (ite (¬(a00 g.e:Int)<=h) (ite d (ite (¬b<0) ((c! g.e h).bind λf=>M (s5 ((a00 f.d:Int)<=b)))<|M a35)<|M a36)<|M a35)<|M a35) λc=>ite c (M (ot.mk 6 (-1) (-1) (-1)))<|(Sl g h i).bind λa=>ite (¬a.2.2=0) (M (ot.mk a.2.2 a.1 (-1) (-1)))<|M (ot.mk 0 0 0 0)
def zh(k:ek) (l:ia) (m j:Int) (g:(List Int×List Int×List Int)):p6 (List Bool×Int) (List Bool) (Int×ot):=λ(c,a)=>ite (a<a00 g.1) (b? ((c! g.1 a).bind λh=>(c! k.f h).bind λi=>if(a00 i.ag:Int)=0 then(c! c a).bind λn=>(put c a a35).bind λe=>M (Sum.inl e)else(Jl i.ag l).bind λb=>ite (¬b.2=0) (M (Sum.inr (l? (0,ot.mk b.2 m j h))))<|(c! c a).bind λo=>(put c a (b.1.N==1)).bind λf=>M (Sum.inl f)) λz=>match z with |.inr v=>M v |.inl d=>M (i! (d,aa b! (a+1))))<|M (i? c)
def tf(g:ek) (h:ia) (i e:Int):Option (Int×ot):=(Qn g e h.z).bind λb=>(fD 1 a36 (a00 b.1:Int) (a00 b.1:Int)).bind λf=>(ca (zh g h i e b) (f,0)).bind λy=>match y with |.inr v=>M v |.inl c=>(xq b.2.1 b.2.2 c).bind λa=>ite (a<0) (M (a,ot.mk 0 0 0 0))<|(c! b.1 a).bind λd=>M (d,ot.mk 0 0 0 0)
def Lf(a:ek):Option (List Int×Int):=(Yc a).bind λx=>M (sx x)
def Dc(q:ek) (o:ia) (p:Int) (m:List Bool) (l:(List Int×Int)):p6 (List bz×List Int×Int) (List bz×List Int) ((List Int×ot)×ia):=λ(b,e,h)=>ite (h<a00 l.1) (b? ((c! l.1 h).bind λc=>(c! m c).bind λn=>ite (n=a36) (M (Sum.inl (b,e)))<|(tf q (ia.mk o.z o.w b o.s o.au o.Tables) p c).bind λa=>ite (¬a.2.Code=0) (M (Sum.inr (l? (([],a.2),ia.mk o.z o.w b o.s o.au o.Tables))))<|ite (a.1=(-1)) (M (Sum.inr (l? (([],ot.mk 10 p c (-1)),ia.mk o.z o.w b o.s o.au o.Tables))))<|ite (a.1=(-2)) (M (Sum.inr (l? (([],ot.mk 11 p c (-1)),ia.mk o.z o.w b o.s o.au o.Tables))))<|(c! q.f a.1).bind λi=>(Jl i.Value (ia.mk o.z o.w b o.s o.au o.Tables)).bind λd=>ite (¬d.2=0) (M (Sum.inr (l? (([],ot.mk d.2 p c a.1),ia.mk o.z o.w b o.s o.au o.Tables))))<|(c! b c).bind λr=>(put b c d.1).bind λj=>(c! e c).bind λt=>(put e c a.1).bind λk=>M (Sum.inl (j,k))) λz=>match z with |.inr v=>M v |.inl (f,g)=>M (i! (f,g,aa b! (h+1))))<|M (i? (b,e))
def Ca(g:ek) (h:ia) (i:Int) (c:List Bool):Option ((List Int×ot)×ia):=(fD 24 (bz.mk 0 0 0) (a00 g.d:Int) (a00 g.d:Int)).bind λd=>(fD 8 0 (a00 g.d:Int) (a00 g.d:Int)).bind λe=>(Lf g).bind λf=>(ca (Dc g h i c f) (d,e,0)).bind λy=>match y with |.inr v=>M v |.inl (a,b)=>M ((b,ot.mk 0 0 0 0),ia.mk h.z h.w a h.s h.au h.Tables)
def xh(a:vk):p6 (List ej×Int) (List ej) Unit:=λ(f,e)=>ite (e<a00 a.memberScope.d) ((c! a.memberScope.d e).bind λb=>(app 16 f ([b.an])).bind λc=>M (i! (c,aa b! (e+1))))<|M (i? f)
def wh(j:cb) (i:ri) (h:vk):p6 ((List (List bz))×List ve×Int) ((List (List bz))×List ve) (b6×ia×ot):=λ(g,c,b)=>ite (b<a00 i.s) ((c! i.s b).bind λd=>(Ca h.memberScope (ia.mk i.z d ([]) ([]) ([]) j.Tables) b h.memberDefs).bind λa=>ite (¬a.1.2.Code=0) (M (l? (b6.mk ([]) ([]) ([]),ia.mk 0 ([]) ([]) ([]) ([]) ([]),a.1.2)))<|(app 24 g ([a.2.d])).bind λe=>(app 48 c ([ve.mk a.2.d a.1.1])).bind λf=>M (i! (e,f,aa b! (b+1))))<|M (i? (g,c))
def Ng(g:cb) (h:Int) (f:ri) (b:vk):Option (b6×ia×ot):=(ca (xh b) (([]:List ej),0)).bind λy=>match y with |.inr _=>q6 |.inl e=>(ca (wh g f b) (([]:List (List bz)),([]:List ve),0)).bind λy=>match y with |.inr v=>M v |.inl (c,d)=>(Ca b.scope (ia.mk f.z f.w ([]) c e g.Tables) (-1) b.defs).bind λa=>ite (¬a.1.2.Code=0) (M (b6.mk ([]) ([]) ([]),ia.mk 0 ([]) ([]) ([]) ([]) ([]),a.1.2))<|M (b6.mk a.2.d a.1.1 d,a.2,ot.mk 0 0 0 0)
def Iu(e:List Int):p6 (List Bool×Int) (List Bool) Unit:=λ(c,a)=>ite (a<a00 e) ((c! e a).bind λb=>(c! c b).bind λf=>(put c b a35).bind λd=>M (i! (d,aa b! (a+1))))<|M (i? c)
def Zj(l:ek) (d:List Bool):p6 (List Int×Int) (List Int) Unit:=λ(b,c)=>ite (c<a00 l.f) (b? ((c! l.f c).bind λa=>b? (ite (¬a.u<0) (ite (¬(a00 l.d:Int)<=a.u) ((c! d a.u).bind λg=>M (!g))<|M a35)<|M a35) λe=>ite e (M b)<|(Lg a.ag).bind λh=>(Lg a.Value).bind λi=>(app 8 b h.2.2).bind λj=>(app 8 j i.2.2).bind λk=>M k) λf=>M (i! (f,aa b! (c+1))))<|M (i? b)
def aj(i:ek) (j:Int):Option (List Int):=b? (ite (¬j<0) (M (s5 ((a00 i.d:Int)<=j)))<|M a35) λe=>ite e (M ([]))<|(fD 1 a36 (a00 i.d:Int) (a00 i.d:Int)).bind λd=>(c! d j).bind λk=>(put d j a35).bind λf=>(Yc i).bind λg=>(Wl g j).bind λh=>(ca (Iu h) (f,0)).bind λy=>match y with |.inr _=>q6 |.inl a=>(ca (Zj i a) (([]:List Int),0)).bind λy=>match y with |.inr _=>q6 |.inl b=>(ck b).bind λc=>M c
def Jt(a:ma):Option Bool:=M (s5 ((a00 a.av.ar:Int)<=70))
def qv(b:Int):Option Bool:=b? (ite (0<=b) (M (s5 (b<=3599)))<|M a36) λa=>M a
def iD(c:Int):Option Int:=(qv c).bind λa=>ite (a=a36) (M 0)<|(re (aa b! (1900+(aa b! (s? c 12)))) (aa b! ((v? c 12)+1))).bind λb=>M b
def pv(d:Int):Option (hO×Int):=(qv d).bind λb=>ite (b=a36) (M (hO.mk 0 0,3))<|(Tl (aa b! (1900+(aa b! (s? d 12)))) (aa b! ((v? d 12)+1)) 1).bind λa=>ite (¬a.2=0) (M (hO.mk 0 0,a.2))<|(iD d).bind λc=>M (hO.mk a.1 (aa b! (a.1+c)),0)
def dr(b:Int):Option Bool:=b? (ite (0<=b) (M (s5 (b<=109572)))<|M a36) λa=>M a
def Fc(f:tk):p6 Int Unit Bool:=λa=>ite (a<a00 f.ar) ((c! f.ar a).bind λd=>b? ((dr d).bind λe=>ite e (ite (0<a) ((c! f.ar (aa b! (a-1))).bind λc=>M (s5 (d<=c)))<|M a36)<|M a35) λb=>ite b (M (l? a36))<|M (i! (aa b! (a+1))))<|M (i? ())
def Rh(b:tk):Option Bool:=b? (ite (¬b.a7<0) (ite (¬126<b.a7) (M (s5 (64<(a00 b.ar:Int))))<|M a35)<|M a35) λa=>ite a (M a36)<|(ca (Fc b) 0).bind λy=>match y with |.inr v=>M v |.inl _=>M a35
def Ia(n:cb) (o:Int) (m:ma):Option Int:=(rp n).bind λb=>ite (¬(b.Code=0/\b.be=0/\b.bf=0/\b.bg=0)) (M 1)<|b? (ite (¬o<0) (ite (¬(a00 n.e:Int)<=o) (ite (¬m.u<0) ((c! n.e o).bind λk=>M (s5 ((a00 k.d:Int)<=m.u)))<|M a35)<|M a35)<|M a35) λj=>ite j (M 6)<|(c! n.e o).bind λl=>(c! l.d m.u).bind λa=>ite (¬(a.an.a=3/\a.an.g=0)) (M 8)<|b? (ite (¬m.aw<0) (ite (¬5<m.aw) ((Rh m.av).bind λi=>M (!i))<|M a35)<|M a35) λc=>ite c (M 1)<|b? (b? (ite (¬m.bb<1) (M (s5 (28<m.bb)))<|M a35) λd=>ite d (M a35)<|b? (ite (¬m.a9<0) (M (s5 (1000000<m.a9)))<|M a35) λe=>ite e (M a35)<|b? (ite (¬m.ba<0) (M (s5 (1000000000000000<m.ba)))<|M a35) λf=>ite f (M a35)<|b? (ite (¬m.ah<0) (M (s5 (3599<m.ah)))<|M a35) λg=>ite g (M a35)<|ite (¬m.bc<0) (M (s5 (365<m.bc)))<|M a35) λh=>ite h (M 3)<|M 0
def xe(d:cb) (f:Int):Option (List ml×Bool):=(c! d.e f).bind λa=>b? (ite (¬a.ac<0) (M (s5 ((a00 d.e:Int)<=a.ac)))<|M a35) λb=>ite b (M ([],a36))<|(c! d.e a.ac).bind λc=>M (c.w,a35)
def Wn(c:hO):Option Bool:=b? ((ie c).bind λb=>ite b (M (s5 (c.j<c.To)))<|M a36) λa=>M a
def dj(h:kv):Option Int:=ite (h.Id<0) (M 3)<|b? (ite (¬h.aq<(-1)) (M (s5 (8<=h.aq)))<|M a35) λe=>ite e (M 3)<|b? (ite (¬h.ap<(-1)) (M (s5 (12<=h.ap)))<|M a35) λf=>ite f (M 3)<|b? (ite (h.aq=(-1)) (M (h.ap==(-1)))<|M a36) λg=>ite g (M 3)<|(Wn h.aa).bind λd=>ite (d=a36) (M 3)<|b? (ite (¬h.ai<0) (M (s5 (109572<h.ai)))<|M a35) λa=>ite a (M 3)<|b? (ite (¬h.Value.a<1) (M (s5 (6<h.Value.a)))<|M a35) λb=>ite b (M 8)<|b? (ite (h.ap=(-1)) (M (h.Value.a !=1))<|M a36) λc=>ite c (M 8)<|M 0
def sg:Int->List Int->List kv->Option (Int×Int) |_,_,[]=>M (0,0) |i,seen,f::l=>(dj f).bind λc=>if¬c=0 then M (i,c)else if seen.contains f.Id then M (i,7)else sg (i+1) (f.Id::seen) l
def Vn(a:List kv):Option (Int×Int):=ite (128<(a00 a:Int)) (M (0,4))<|sg 0 [] a
def bh(n:cb) (m:mu) (l:(List ml×Bool)):p6 Int Unit (Int×Int):=λb=>ite (b<a00 m.ab) ((c! m.ab b).bind λa=>ite (m.s<=a.aq) (M (l? (b,6)))<|b? (ite (a.aq=(-1)) ((c! n.e m.aj).bind λk=>M k.w)<|M l.1) λc=>b? (ite (¬a.ap=(-1)) (b? (ite (¬a.ap<0) (M (s5 ((a00 c:Int)<=a.ap)))<|M a35) λh=>ite h (M (Sum.inr (l? (b,6))))<|(c! c a.ap).bind λf=>M (Sum.inl (f.an.a,f.an.g)))<|M (Sum.inl (1,0))) λz=>match z with |.inr v=>M v |.inl (d,e)=>b? (ite (a.Value.a=d) (M (a.Value.g !=e))<|M a35) λi=>ite i (M (l? (b,8)))<|(Tc (ej.mk d e) n.r).bind λg=>b? (ite (¬a.Value.N<g.1) (M (s5 (g.2<a.Value.N)))<|M a35) λj=>ite j (M (l? (b,3)))<|M (i! (aa b! (b+1))))<|M (i? ())
def Bf(g:cb) (f:mu):Option (Int×Int):=b? (ite (¬f.aj<0) (M (s5 ((a00 g.e:Int)<=f.aj)))<|M a35) λc=>ite c (M (-1,6))<|(xe g f.aj).bind λb=>b? (ite (¬f.Id<0) (ite (¬f.s<0) (ite (¬8<f.s) (ite (¬f.s=0) (M (!b.2))<|M a36)<|M a35)<|M a35)<|M a35) λd=>ite d (M (-1,3))<|(Vn f.ab).bind λa=>ite (¬a.2=0) (M (a.1,a.2))<|(ca (bh g f b) 0).bind λy=>match y with |.inr v=>M v |.inl _=>M (0,0)
def Wc(c:cb) (d:mu) (e:ma):Option Bool:=(Ia c d.aj e).bind λa=>ite (¬a=0) (M a36)<|(Bf c d).bind λb=>M (b.2==0)
def Mu(a b:kv):Option Bool:=ite (¬a.ai=b.ai) (M (s5 (b.ai<a.ai)))<|M (s5 (b.Id<a.Id))
def ln(l:List kv) (m n g h:Int):p6 (Int×Int) Int Unit:=λ(j,k)=>ite (k<a00 l) (b? ((c! l k).bind λa=>b? (ite (a.aq=m) (ite (a.ap=n) (ite (¬h<a.ai) ((bc a.aa g).bind λi=>M (!i))<|M a35)<|M a35)<|M a35) λf=>ite f (M j)<|b? (ite (¬j<0) ((c! l j).bind λd=>(Mu a d).bind λe=>M e)<|M a35) λb=>ite b (M k)<|M j) λc=>M (i! (c,aa b! (k+1))))<|M (i? j)
def kn(e:List kv) (f g c d:Int):Option (bz×Bool):=(ca (ln e f g c d) (-1,0)).bind λy=>match y with |.inr _=>q6 |.inl a=>ite (a<0) (M (bz.mk 0 0 0,a36))<|(c! e a).bind λb=>M (b.Value,a35)
def bf(h:List kv) (i c d:Int) (e:List bz):p6 (List bz×Int) (List bz) (List bz×Bool):=λ(g,a)=>ite (a<a00 e) ((kn h i a c d).bind λb=>ite (b.2=a36) (M (l? ([],a36)))<|(c! g a).bind λj=>(put g a b.1).bind λf=>M (i! (f,aa b! (a+1))))<|M (i? g)
def Cf(f:List kv) (g e c d:Int):Option (List bz×Bool):=(fD 24 (bz.mk 0 0 0) e e).bind λb=>(ca (bf f g c d b) (b,0)).bind λy=>match y with |.inr v=>M v |.inl a=>M (a,a35)
def tg(g:mu) (h i:Int):p6 (List Int×Int) (List Int) Unit:=λ(f,e)=>ite (e<(min (max g.s 0) 8)) (b? ((kn g.ab e (-1) h i).bind λb=>b? (ite b.2 (ite (b.1.a=1) (M (b.1.N==1))<|M a36)<|M a36) λc=>ite c ((app 8 f ([e])).bind λd=>M d)<|M f) λa=>M (i! (a,aa b! (e+1))))<|M (i? f)
def sj(b:mu) (c d:Int):Option (List Int):=(ca (tg b c d) (([]:List Int),0)).bind λy=>match y with |.inr _=>q6 |.inl a=>M a
def Gn(i:mu) (j h:Int) (e:(List ml×Bool)) (c:List Int):p6 ((List (List bz))×Int) (List (List bz)) (ri×Int):=λ(b,a)=>ite (a<a00 c) ((c! c a).bind λf=>(Cf i.ab f (a00 e.1:Int) j h).bind λd=>ite (d.2=a36) (M (l? (ri.mk 0 ([]) ([]),6)))<|(app 24 b ([d.1])).bind λg=>M (i! (g,aa b! (a+1))))<|M (i? b)
def rh(l:cb) (j:mu) (k c:Int):Option (ri×Int):=(rp l).bind λa=>if¬(a.Code=0/\a.be=0/\a.bf=0/\a.bg=0)then M (ri.mk 0 ([]) ([]),1)else(Bf l j).bind λh=>ite (¬h.2=0) (M (ri.mk 0 ([]) ([]),1))<|b? (ite (¬k<0) (M (s5 (109572<k)))<|M a35) λg=>ite g (M (ri.mk 0 ([]) ([]),3))<|(c! l.e j.aj).bind λi=>(Cf j.ab (-1) (a00 i.w:Int) k c).bind λf=>ite (f.2=a36) (M (ri.mk 0 ([]) ([]),6))<|(xe l j.aj).bind λd=>(sj j k c).bind λe=>(ca (Gn j k c d e) (([]:List (List bz)),0)).bind λy=>match y with |.inr v=>M v |.inl b=>M (ri.mk k f.1 b,0)
def Qi(k:cb) (l:Int):Option (ByteArray×Int×List ml×List ml×List ke×ByteArray×Int×List ml×List ml×List ke×List Bool×List Bool):=(c! k.e l).bind λa=>(fD 1 a36 (a00 a.d:Int) (a00 a.d:Int)).bind λi=>b? (ite (0<=a.ac) ((c! k.e a.ac).bind λb=>(fD 1 a36 (a00 b.d:Int) (a00 b.d:Int)).bind λj=>M (b.n,b.ac,b.w,b.d,b.f,j))<|M (n? #[],0,([]:List ml),([]:List ml),([]:List ke),([]:List Bool))) λ(g,h,c,d,e,f)=>M (a.n,a.ac,a.w,a.d,a.f,g,h,c,d,e,i,f)
def vh(c:List Int):p6 (List Bool×Int) (List Bool) Unit:=λ(a,b)=>ite (b<a00 c) ((c! c b).bind λd=>(c! a d).bind λf=>(put a d a35).bind λe=>M (i! (e,aa b! (b+1))))<|M (i? a)
def np(c:List Int):p6 (List Bool×Int) (List Bool) Unit:=λ(a,b)=>ite (b<a00 c) ((c! c b).bind λd=>(c! a d).bind λf=>(put a d a35).bind λe=>M (i! (e,aa b! (b+1))))<|M (i? a)
def sh(d:ByteArray) (e:Int) (f g:List ml) (h:List ke) (b:List Bool) (a:Int):Option (List Bool):=(c! b a).bind λk=>(put b a a35).bind λi=>(Xc (ek.mk d e f g h) a).bind λj=>(ca (np j) (i,0)).bind λy=>match y with |.inr _=>q6 |.inl c=>M c
def uh(d:ByteArray) (e:Int) (f g:List ml) (h:List ke) (c:List Int):p6 (List Bool×Int) (List Bool) Unit:=λ(b,a)=>ite (a<a00 c) ((c! c a).bind λj=>(sh d e f g h b j).bind λi=>M (i! (i,aa b! (a+1))))<|M (i? b)
def th(g:Int) (a:ByteArray) (b:Int) (c d:List ml) (e:List ke) (j:ByteArray) (k:Int) (l m:List ml) (n:List ke) (f o:List Bool):Option (List Bool×List Bool):=(c! f g).bind λs=>(put f g a35).bind λp=>(Xc (ek.mk a b c d e) g).bind λq=>(ca (vh q) (p,0)).bind λy=>match y with |.inr _=>q6 |.inl h=>(aj (ek.mk a b c d e) g).bind λr=>(ca (uh j k l m n r) (o,0)).bind λy=>match y with |.inr _=>q6 |.inl i=>M (h,i)
def Cc(t:cb) (u:Int) (v:ri) (l:Int):Option (bz×Int×ot):=(kc t u v a35 l).bind λs=>ite (¬s.Code=0) (M (bz.mk 0 0 0,0,s))<|(Qi t u).bind λ(b,c,d,e,f,g,h,i,j,k,m,n)=>(th l b c d e f g h i j k m n).bind λ(o,p)=>(Ng t u v (vk.mk (ek.mk b c d e f) (ek.mk g h i j k) o p)).bind λa=>ite (¬a.2.2.Code=0) (M (bz.mk 0 0 0,0,a.2.2))<|(c! a.1.bd l).bind λq=>(c! a.1.f l).bind λr=>M (q,r,ot.mk 0 0 0 0)
def ee(g:cb) (h:mu) (l:ma) (e:List hO) (f:Int):p6 (Int×Int×Int) (Int×Int) (Int×Int):=λ(i,k,b)=>ite (b<a00 e) ((c! e b).bind λa=>(rh g h a.j f).bind λc=>ite (¬c.2=0) (M (l? (0,c.2)))<|(Cc g h.aj c.1 l.u).bind λd=>ite (¬d.2.2.Code=0) (M (l? (0,d.2.2.Code)))<|M (i! (aa b! (i+(aa b! (d.1.N*(aa b! (a.To-a.j))))),aa b! (k+(aa b! (a.To-a.j))),aa b! (b+1))))<|M (i? (i,k))
def Hj(g:cb) (h:mu) (f:ma) (d:List hO) (e:Int):Option (Int×Int):=(ca (ee g h f d e) (0,0,0)).bind λy=>match y with |.inr v=>M v |.inl (b,c)=>(vg b c f.aw).bind λa=>ite (¬a.2=0) (M (0,a.2))<|M (max a.1 0,0)
def A?(a:Int):Option Bool:=M a36
def B?(d e:Int):Option Bool:=b? ((A? d).bind λb=>ite b ((A? e).bind λc=>ite c (M (s5 (d<e)))<|M a35)<|M (s5 (d<e))) λa=>M a
def Po(a:Int):Option Bool:=M a36
def Be(e:List Int) (f:Int):p6 (Int×Int) Int Unit:=λ(c,d)=>ite (c<d) ((c! e (aa b! (Kae (aa .u64 (aa b! (c+d))) 2))).bind λa=>(B? a f).bind λb=>ite b (M (i! (aa b! ((aa b! (Kae (aa .u64 (aa b! (c+d))) 2))+1),d)))<|M (i! (c,aa b! (Kae (aa .u64 (aa b! (c+d))) 2))))<|M (i? c)
def Kd(f:List Int) (g:Int):Option (Int×Bool):=(ca (Be f g) (0,(a00 f:Int))).bind λy=>match y with |.inr _=>q6 |.inl b=>b? (ite (b<a00 f) ((c! f b).bind λa=>ite (¬a=g) ((Po a).bind λd=>ite d ((Po g).bind λe=>M e)<|M a36)<|M a35)<|M a36) λc=>M (b,c)
def Au(i:hO) (g:List Int):p6 (Int×List hO×Int) (Int×List hO) Unit:=λ(h,c,a)=>b? (ite (a<a00 g) ((c! g a).bind λf=>M (s5 (f<i.To)))<|M a36) λe=>ite e ((c! g a).bind λd=>(app 16 c ([hO.mk h d])).bind λb=>M (i! (d,b,aa b! (a+1))))<|M (i? (h,c))
def cp(e:hO) (f:List Int):Option (List hO):=(Kd f (aa b! (e.j+1))).bind λd=>(ca (Au e f) (e.j,([]:List hO),d.1)).bind λy=>match y with |.inr _=>q6 |.inl (a,b)=>(app 16 b ([hO.mk a e.To])).bind λc=>M c
def Hf(g:List hO):p6 (List Int×Int) (List Int) Unit:=λ(e,f)=>ite (f<a00 g) (b? ((c! g f).bind λa=>(Dd a).bind λc=>ite c ((app 8 e ([a.j,a.To])).bind λd=>M d)<|M e) λb=>M (i! (b,aa b! (f+1))))<|M (i? e)
def ei(d:List hO):Option (List Int):=(ca (Hf d) (([]:List Int),0)).bind λy=>match y with |.inr _=>q6 |.inl a=>(Wa a).bind λb=>(La b).bind λc=>M c
def Rf(h:List kv) (i:Int):p6 (List hO×Int) (List hO) Unit:=λ(f,g)=>ite (g<a00 h) (b? ((c! h g).bind λb=>b? (ite (b.ai<=i) ((Wn b.aa).bind λd=>M d)<|M a36) λc=>ite c ((app 16 f ([b.aa])).bind λe=>M e)<|M f) λa=>M (i! (a,aa b! (g+1))))<|M (i? f)
def Qf(d:List Int):p6 (List Int×Int) (List Int) Unit:=λ(a,b)=>ite (b<a00 d) (b? ((c! d b).bind λc=>b? (ite (1<=c) (M (s5 (c<=109572)))<|M a36) λe=>ite e ((app 8 a ([c])).bind λg=>M g)<|M a) λf=>M (i! (f,aa b! (b+1))))<|M (i? a)
def Qe(d:List kv) (e:Int):Option (List Int):=(ca (Rf d e) (([]:List hO),0)).bind λy=>match y with |.inr _=>q6 |.inl a=>(ei a).bind λc=>(ca (Qf c) (([]:List Int),0)).bind λy=>match y with |.inr _=>q6 |.inl b=>M b
def od(b:Int):Option Bool:=b? (ite (¬b<1) (M (s5 (109572<b)))<|M a35) λa=>M a
def Kh(c:oe):p6 (List hO×Int) (List hO) Unit:=λ(b,a)=>ite (a<a00 c.Rows) ((c! c.Rows a).bind λd=>(app 16 b ([d.aa])).bind λe=>M (i! (e,aa b! (a+1))))<|M (i? b)
def Mc(d:cb):p6 (List hO×Int) (List hO) Unit:=λ(e,c)=>ite (c<a00 d.Tables) ((c! d.Tables c).bind λb=>(ca (Kh b) (e,0)).bind λy=>match y with |.inr _=>q6 |.inl a=>M (i! (a,aa b! (c+1))))<|M (i? e)
def Wg(c:ek):p6 (List hO×Int) (List hO) Unit:=λ(b,a)=>ite (a<a00 c.f) ((c! c.f a).bind λd=>(app 16 b ([d.aa])).bind λe=>M (i! (e,aa b! (a+1))))<|M (i? b)
def Lc(f:cb):p6 (List hO×Int) (List hO) Unit:=λ(b,a)=>ite (a<a00 f.e) ((c! f.e a).bind λd=>(ca (Wg d) (b,0)).bind λy=>match y with |.inr _=>q6 |.inl c=>M (i! (c,aa b! (a+1))))<|M (i? b)
def Ee(d:List hO):p6 (List Int×Int) (List Int) Unit:=λ(a,b)=>ite (b<a00 d) (b? ((c! d b).bind λc=>(Dd c).bind λf=>ite f ((app 8 a ([c.j,c.To])).bind λg=>M g)<|M a) λe=>M (i! (e,aa b! (b+1))))<|M (i? a)
def Ih(a:List hO):Option (List Int):=(ca (Ee a) (([]:List Int),0)).bind λy=>match y with |.inr _=>q6 |.inl b=>(Wa b).bind λc=>(La c).bind λd=>M d
def Fe(b:List Int):p6 Int Unit Int:=λa=>ite (a<a00 b) ((c! b a).bind λc=>(od c).bind λd=>ite d (M (l? a))<|M (i! (aa b! (a+1))))<|M (i? ())
def bn(a:List Int):Option Int:=(ca (Fe a) 0).bind λy=>match y with |.inr v=>M v |.inl _=>M (-1)
def Ge  : (List Int×Int×Int)->Option (Ex (List Int×Int×Int) (List Int×Int) Unit):=λ(a,b,c)=>ite (c<a00 a) (b? ((c! a c).bind λd=>(od d).bind λg=>ite (g=a36) ((c! a b).bind λi=>(put a b d).bind λh=>M (h,aa b! (b+1)))<|M (a,b)) λ(e,f)=>M (i! (e,f,aa b! (c+1))))<|M (i? (a,b))
def Jh(a:List Int):Option (List Int×List Int):=(bn a).bind λc=>ite (c=(-1)) (M (a,a))<|(ca Ge (a,c,aa b! (c+1))).bind λy=>match y with |.inr _=>q6 |.inl (d,b)=>(pK d b).bind λf=>(aP8 d b f 0).bind λe=>(Fw e b).bind λg=>M (e,g)
def ah(e:cb):Option (List Int):=(ca (Mc e) (([]:List hO),0)).bind λy=>match y with |.inr _=>q6 |.inl a=>(ca (Lc e) (a,0)).bind λy=>match y with |.inr _=>q6 |.inl b=>(Ih b).bind λc=>(Jh c).bind λ(f,d)=>M d
def Yh(c:(List (List Int))):p6 (Int×Int) Int Unit:=λ(a,b)=>ite (b<a00 c) ((c! c b).bind λd=>ite ((aa b! (a+(a00 d:Int)))<0) q6<|M (i! (aa b! (a+(a00 d:Int)),aa b! (b+1))))<|M (i? a)
def Uh(a:Int):Option (List Int):=ite (a<0) q6<|b? (ite (0<(aa b! (a-(aa b! (0-0))))) ((mka 8 0 (aa b! (a-(aa b! (0-0))))).bind λc=>(Fw c 0).bind λd=>M d)<|M ([]:List Int)) λb=>M b
def Xh(e:(List (List Int))):p6 (List Int×Int) (List Int) Unit:=λ(b,a)=>ite (a<a00 e) ((c! e a).bind λc=>(app 8 b c).bind λd=>M (i! (d,aa b! (a+1))))<|M (i? b)
def Vh(d:(List (List Int))):Option (List Int):=(ca (Yh d) (0,0)).bind λy=>match y with |.inr _=>q6 |.inl a=>(Uh a).bind λc=>(ca (Xh d) (c,0)).bind λy=>match y with |.inr _=>q6 |.inl b=>M b
def fb(g:cb) (h:mu) (i:Int):Option (List Int):=(Qe h.ab i).bind λd=>(ah g).bind λe=>(lst [d,e]).bind λf=>(Vh f).bind λa=>(Wa a).bind λb=>(La b).bind λc=>M c
def iE(h:cb) (i:mu) (j:ma) (a b:Int):Option ka:=(pv a).bind λc=>ite (¬c.2=0) (M (ka.mk a 0 3))<|(Wc h i j).bind λe=>ite (e=a36) (M (ka.mk a 0 1))<|(fb h i b).bind λf=>(cp c.1 f).bind λg=>(Hj h i j g b).bind λd=>M (ka.mk a d.1 d.2)
def Ez(a:List fr):Option cb:=M (cb.mk ([]) ([]) ([ek.mk (n? #[104,111,117,115,101]) (-1) ([ml.mk (n? #[97]) (ej.mk 3 0)]) ([ml.mk (n? #[100]) (ej.mk 3 0)]) ([ke.mk (n? #[98,97,115,101]) 0 (-1) 0 (hO.mk 0 109573) ([]) a (n? #[])])]))
def tu(b:cb):Option Bool:=(Ds b).bind λa=>M (a.Code==0)
def jg(b c d:Int):Option Bool:=b? (ite (¬b<c) (M (s5 (d<b)))<|M a35) λa=>M a
def aK(b:Int):Option Bool:=b? (ite (0<=b) (M (s5 (b<=109572)))<|M a36) λa=>M a
def Zv(f:tk):p6 Int Unit Bool:=λa=>ite (a<a00 f.ar) (b? ((c! f.ar a).bind λd=>(aK d).bind λe=>ite e (ite (0<a) ((c! f.ar (aa b! (a-1))).bind λc=>M (s5 (d<=c)))<|M a36)<|M a35) λb=>ite b (M (l? a36))<|M (i! (aa b! (a+1))))<|M (i? ())
def uv(b:tk):Option Bool:=b? (ite (¬b.a7<0) (ite (¬126<b.a7) (M (s5 (64<(a00 b.ar:Int))))<|M a35)<|M a35) λa=>ite a (M a36)<|(ca (Zv b) 0).bind λy=>match y with |.inr v=>M v |.inl _=>M a35
def Vb(p:cb) (q:Int) (o:ma):Option Int:=(tu p).bind λl=>ite (l=a36) (M 1)<|b? (ite (¬q<0) (ite (¬(a00 p.e:Int)<=q) (ite (¬o.u<0) ((c! p.e q).bind λm=>M (s5 ((a00 m.d:Int)<=o.u)))<|M a35)<|M a35)<|M a35) λk=>ite k (M 6)<|(c! p.e q).bind λn=>(c! n.d o.u).bind λc=>ite (¬c.an.a=3) (M 8)<|b? ((jg o.aw 0 5).bind λd=>ite (d=a36) ((uv o.av).bind λe=>M (!e))<|M a35) λa=>ite a (M 1)<|b? ((jg o.bb 1 28).bind λf=>ite (f=a36) ((jg o.a9 0 1000000).bind λg=>ite (g=a36) ((jg o.ba 0 1000000000000000).bind λh=>ite (h=a36) ((jg o.ah 0 3599).bind λi=>ite (i=a36) ((jg o.bc 0 365).bind λj=>M j)<|M a35)<|M a35)<|M a35)<|M a35) λb=>ite b (M 3)<|M 0
def Jn(a:mu):Option Bool:=M (s5 ((a00 a.ab:Int)<=40))
def Df(d:cb) (f:Int):Option (List ml×Bool):=(c! d.e f).bind λa=>b? (ite (¬a.ac<0) (M (s5 ((a00 d.e:Int)<=a.ac)))<|M a35) λb=>ite b (M ([],a36))<|(c! d.e a.ac).bind λc=>M (c.w,a35)
def Qk(c:hO):Option Bool:=b? ((Wf c).bind λb=>ite b (M (s5 (c.j<c.To)))<|M a36) λa=>M a
def Fs(d:List kv) (e:Int) (c:kv):p6 Int Unit Int:=λa=>ite (a<e) ((c! d a).bind λb=>ite (b.Id=c.Id) (M (l? 7))<|M (i! (aa b! (a+1))))<|M (i? ())
def Cy(f:List kv) (g:Int):Option Int:=(c! f g).bind λa=>b? (ite (¬a.Id<0) (ite (¬a.aq<(-1)) (ite (¬7<a.aq) (ite (¬a.ap<(-1)) (ite (¬11<a.ap) (ite (a.aq=(-1)) (ite (¬a.ap=(-1)) ((Qk a.aa).bind λe=>ite e (ite (¬a.ai<0) (M (s5 (109572<a.ai)))<|M a35)<|M a35)<|M a35)<|(Qk a.aa).bind λd=>ite d (ite (¬a.ai<0) (M (s5 (109572<a.ai)))<|M a35)<|M a35)<|M a35)<|M a35)<|M a35)<|M a35)<|M a35) λb=>ite b (M 3)<|b? (ite (¬a.Value.a<1) (ite (¬6<a.Value.a) (ite (a.ap=(-1)) (M (a.Value.a !=1))<|M a36)<|M a35)<|M a35) λc=>ite c (M 8)<|(ca (Fs f g a) 0).bind λy=>match y with |.inr v=>M v |.inl _=>M 0
def Im(c:List kv):p6 Int Unit (Int×Int):=λb=>ite (b<a00 c) ((Cy c b).bind λa=>ite (¬a=0) (M (l? (b,a)))<|M (i! (aa b! (b+1))))<|M (i? ())
def Es(a:List kv):Option (Int×Int):=ite (128<(a00 a:Int)) (M (0,4))<|(ca (Im a) 0).bind λy=>match y with |.inr v=>M v |.inl _=>M (0,0)
def gA(b:bz):Option ej:=M (ej.mk b.a b.g)
def vq(k:cb) (l:mu) (j:kv):Option Int:=ite (l.s<=j.aq) (M 6)<|(c! k.e l.aj).bind λh=>b? (ite (0<=j.aq) ((Df k l.aj).bind λi=>M i.1)<|M h.w) λf=>b? (ite (¬j.ap=(-1)) (b? (ite (¬j.ap<0) (M (s5 ((a00 f:Int)<=j.ap)))<|M a35) λg=>ite g (M (Sum.inr 6))<|(c! f j.ap).bind λc=>M (Sum.inl (c.an.a,c.an.g)))<|M (Sum.inl (1,0))) λz=>match z with |.inr v=>M v |.inl (a,b)=>(gA j.Value).bind λd=>ite (¬(d.a=a/\d.g=b)) (M 8)<|(aw j.Value.N (ej.mk a b) k.r).bind λe=>ite (e=a36) (M 3)<|M 0
def Lm(e:cb) (d:mu):p6 Int Unit (Int×Int):=λa=>ite (a<a00 d.ab) ((c! d.ab a).bind λc=>(vq e d c).bind λb=>ite (¬b=0) (M (l? (a,b)))<|M (i! (aa b! (a+1))))<|M (i? ())
def Gs(g:cb) (f:mu):Option (Int×Int):=b? (ite (¬f.aj<0) (M (s5 ((a00 g.e:Int)<=f.aj)))<|M a35) λb=>ite b (M (-1,6))<|(Df g f.aj).bind λd=>b? (ite (¬f.Id<0) (ite (¬f.s<0) (ite (¬8<f.s) (ite (¬f.s=0) (M (!d.2))<|M a36)<|M a35)<|M a35)<|M a35) λc=>ite c (M (-1,3))<|(Es f.ab).bind λa=>ite (¬a.2=0) (M (a.1,a.2))<|(ca (Lm g f) 0).bind λy=>match y with |.inr v=>M v |.inl _=>M (0,0)
def Yo(d:cb) (e:mu) (f:ma):Option Bool:=(Gs d e).bind λb=>b? ((Vb d e.aj f).bind λc=>ite (c=0) (M (b.2==0))<|M a36) λa=>M a
def wv(b:Int):Option Bool:=b? (ite (0<=b) (M (s5 (b<=3599)))<|M a36) λa=>M a
def Ou(c:Int):Option Int:=(wv c).bind λa=>ite (a=a36) (M 0)<|(Hc (aa b! (1900+(aa b! (s? c 12)))) (aa b! ((v? c 12)+1))).bind λb=>M b
def vy(d:Int):Option (hO×Int):=(wv d).bind λb=>ite (b=a36) (M (hO.mk 0 0,3))<|(fg (aa b! (1900+(aa b! (s? d 12)))) (aa b! ((v? d 12)+1)) 1).bind λa=>(Ou d).bind λc=>M (hO.mk a.1 (aa b! (a.1+c)),0)
def Mm(c:List Int) (d:Int):p6 Int Unit Bool:=λb=>ite (b<a00 c) ((c! c b).bind λa=>ite (a=d) (M (l? a35))<|M (i! (aa b! (b+1))))<|M (i? ())
def Jo(a:List Int) (b:Int):Option Bool:=(ca (Mm a b) 0).bind λy=>match y with |.inr v=>M v |.inl _=>M a36
def Hu(j:hO) (k l:List Int):p6 (List hO×Int×Int) (List hO×Int) Unit:=λ(h,i,a)=>ite (a<j.To) (b? (b? ((Jo k a).bind λf=>ite (f=a36) ((Jo l a).bind λg=>M g)<|M a35) λe=>ite e ((app 16 h ([hO.mk i a])).bind λd=>M (d,a))<|M (h,i)) λ(b,c)=>M (i! (b,c,aa b! (a+1))))<|M (i? (h,i))
def uw(d:hO) (e f:List Int):Option (List hO):=(ca (Hu d e f) (([]:List hO),d.j,aa b! (d.j+1))).bind λy=>match y with |.inr _=>q6 |.inl (a,b)=>(app 16 a ([hO.mk b d.To])).bind λc=>M c
def Sx(k:List kv) (l m f g:Int):p6 (Int×Int) Int Unit:=λ(i,j)=>ite (j<a00 k) (b? ((c! k j).bind λb=>b? (ite (b.aq=l) (ite (b.ap=m) (ite (¬g<b.ai) ((yg b.aa f).bind λh=>M (!h))<|M a35)<|M a35)<|M a35) λe=>ite e (M i)<|b? (ite (¬i<0) ((c! k i).bind λa=>ite (¬a.ai<b.ai) (ite (b.ai=a.ai) (M (s5 (a.Id<b.Id)))<|M a36)<|M a35)<|M a35) λc=>ite c (M j)<|M i) λd=>M (i! (d,aa b! (j+1))))<|M (i? i)
def Qu(e:List kv) (f g c d:Int):Option (bz×Bool):=(ca (Sx e f g c d) (-1,0)).bind λy=>match y with |.inr _=>q6 |.inl a=>ite (a<0) (M (bz.mk 0 0 0,a36))<|(c! e a).bind λb=>M (b.Value,a35)
def Ml(g:mu) (h:Int) (i:List ml) (b c:Int):p6 (List bz×Int) (List bz) (List bz×Bool):=λ(f,e)=>ite (e<a00 i) ((Qu g.ab h e b c).bind λa=>ite (a.2=a36) (M (l? ([],a36)))<|(app 24 f ([a.1])).bind λd=>M (i! (d,aa b! (e+1))))<|M (i? f)
def Fp(d:mu) (e:Int) (f:List ml) (b c:Int):Option (List bz×Bool):=(ca (Ml d e f b c) (([]:List bz),0)).bind λy=>match y with |.inr v=>M v |.inl a=>M (a,a35)
def Rk(h:mu) (i j:Int):p6 (List Int×Int) (List Int) Unit:=λ(g,f)=>b? (ite (f<h.s) (M (s5 (f<8)))<|M a36) λd=>ite d (b? ((Qu h.ab f (-1) i j).bind λc=>b? (ite c.2 (ite (c.1.a=1) (M (c.1.N==1))<|M a36)<|M a36) λe=>ite e ((app 8 g ([f])).bind λb=>M b)<|M g) λa=>M (i! (a,aa b! (f+1))))<|M (i? g)
def uq(b:mu) (c d:Int):Option (List Int):=(ca (Rk b c d) (([]:List Int),0)).bind λy=>match y with |.inr _=>q6 |.inl a=>M a
def Km(i:mu) (j g:Int) (h:(List ml×Bool)) (f:List Int):p6 ((List (List bz))×Int) (List (List bz)) (ri×Int):=λ(e,a)=>ite (a<a00 f) ((c! f a).bind λc=>(Fp i c h.1 j g).bind λb=>ite (b.2=a36) (M (l? (ri.mk 0 ([]) ([]),6)))<|(app 24 e ([b.1])).bind λd=>M (i! (d,aa b! (a+1))))<|M (i? e)
def Ti(j:cb) (i:mu) (h b:Int):Option (ri×Int):=b? (ite (¬h<0) (M (s5 (109572<h)))<|M a35) λd=>ite d (M (ri.mk 0 ([]) ([]),3))<|(c! j.e i.aj).bind λe=>(Fp i (-1) e.w h b).bind λc=>ite (c.2=a36) (M (ri.mk 0 ([]) ([]),6))<|(Df j i.aj).bind λf=>(uq i h b).bind λg=>(ca (Km i h b f g) (([]:List (List bz)),0)).bind λy=>match y with |.inr v=>M v |.inl a=>M (ri.mk h c.1 a,0)
def Te(d:cb) (f:Int):Option ek:=(c! d.e f).bind λa=>b? (ite (¬a.ac<0) (M (s5 ((a00 d.e:Int)<=a.ac)))<|M a35) λb=>ite b (M (ek.mk (n? #[]) 0 ([]) ([]) ([])))<|(c! d.e a.ac).bind λc=>M c
def qw(c:List Int) (d:Int):p6 Int Unit Bool:=λb=>ite (b<a00 c) ((c! c b).bind λa=>ite (a=d) (M (l? a35))<|M (i! (aa b! (b+1))))<|M (i? ())
def yv(a:List Int) (b:Int):Option Bool:=(ca (qw a b) 0).bind λy=>match y with |.inr v=>M v |.inl _=>M a36
def Cs(e a:List Int):p6 Int Unit Bool:=λd=>ite (d<a00 a) ((c! a d).bind λb=>(yv e b).bind λc=>ite (c=a36) (M (l? a36))<|M (i! (aa b! (d+1))))<|M (i? ())
def By(b:ek) (c:Int) (d:List Int):Option Bool:=(Dp b c).bind λa=>(ca (Cs d a) 0).bind λy=>match y with |.inr v=>M v |.inl _=>M a35
def td(e:ek) (f:List Int):p6 Int Int Unit:=λa=>b? (ite (a<a00 e.d) ((yv f a).bind λc=>ite (c=a36) ((By e a f).bind λd=>M (!d))<|M a35)<|M a36) λb=>ite b (M (i! (aa b! (a+1))))<|M (i? a)
def ud(e:ek):p6 (List Int) (List Int) (List Int×Int):=λc=>if(a00 c:Int)<a00 e.d then(ca (td e c) 0).bind λy=>match y with |.inr _=>q6 |.inl a=>ite (a=a00 e.d) (M (l? ([],9)))<|(app 8 c ([a])).bind λb=>M (i! b)else M (i? c)
def gh(b:ek):Option (List Int×Int):=(ca (ud b) ([]:List Int)).bind λy=>match y with |.inr v=>M v |.inl a=>M (a,0)
def Gu(k:ek) (l:ia) (m h:Int) (e:(List Int×List Int×List Int)):p6 (List Bool×Int) (List Bool) (Int×ot):=λ(j,b)=>ite (b<a00 e.1) (b? ((c! e.1 b).bind λf=>(c! k.f f).bind λg=>if(a00 g.ag:Int)=0 then(app 1 j ([a35])).bind λi=>M (Sum.inl i)else(wx g.ag l).bind λd=>ite (¬d.2=0) (M (Sum.inr (l? (0,ot.mk d.2 m h f))))<|(app 1 j ([d.1.N==1])).bind λc=>M (Sum.inl c)) λz=>match z with |.inr v=>M v |.inl a=>M (i! (a,aa b! (b+1))))<|M (i? j)
def tw(f:ek) (g:ia) (h e:Int):Option (Int×ot):=(ow f e g.z).bind λb=>(ca (Gu f g h e b) (([]:List Bool),0)).bind λy=>match y with |.inr v=>M v |.inl c=>(jw b.2.1 b.2.2 c).bind λa=>ite (a<0) (M (a,ot.mk 0 0 0 0))<|(c! b.1 a).bind λd=>M (d,ot.mk 0 0 0 0)
def Az(g:ek) (h:ia) (e b:Int):Option (bz×Int×ot):=(tw g h e b).bind λa=>ite (¬a.2.Code=0) (M (bz.mk 0 0 0,0,a.2))<|ite (a.1=(-1)) (M (bz.mk 0 0 0,0,ot.mk 10 e b (-1)))<|ite (a.1=(-2)) (M (bz.mk 0 0 0,0,ot.mk 11 e b (-1)))<|(c! g.f a.1).bind λd=>(wx d.Value h).bind λc=>ite (¬c.2=0) (M (bz.mk 0 0 0,0,ot.mk c.2 e b a.1))<|M (c.1,a.1,ot.mk 0 0 0 0)
def Zq(n:ek) (m:ia) (o:Int) (k:List Bool) (j:(List Int×Int)):p6 (List bz×List Int×Int) (List bz×List Int) (List bz×List Int×ot):=λ(c,d,g)=>ite (g<a00 j.1) (b? ((c! j.1 g).bind λb=>(c! k b).bind λl=>ite (l=a36) (M (Sum.inl (c,d)))<|(Az n (ia.mk m.z m.w c m.s m.au m.Tables) o b).bind λa=>ite (¬a.2.2.Code=0) (M (Sum.inr (l? ([],[],a.2.2))))<|(c! c b).bind λp=>(put c b a.1).bind λh=>(c! d b).bind λq=>(put d b a.2.1).bind λi=>M (Sum.inl (h,i))) λz=>match z with |.inr v=>M v |.inl (e,f)=>M (i! (e,f,aa b! (g+1))))<|M (i? (c,d))
def Pk(g:ek) (h:ia) (i:Int) (c:List Bool):Option (List bz×List Int×ot):=(fD 24 (bz.mk 0 0 0) (a00 g.d:Int) (a00 g.d:Int)).bind λd=>(fD 8 0 (a00 g.d:Int) (a00 g.d:Int)).bind λe=>(gh g).bind λf=>(ca (Zq g h i c f) (d,e,0)).bind λy=>match y with |.inr v=>M v |.inl (a,b)=>M (a,b,ot.mk 0 0 0 0)
def Fu(c:cb) (b:ri) (d:Int):Option ia:=(c! b.s d).bind λa=>M (ia.mk b.z a ([]) ([]) ([]) c.Tables)
def Qh(k:cb) (i:ri) (e:List Bool) (f:ek):p6 ((List (List bz))×(List (List Int))×Int) ((List (List bz))×(List (List Int))) ((List (List bz))×(List (List Int))×ot):=λ(j,d,a)=>ite (a<a00 i.s) ((Fu k i a).bind λg=>(Pk f g a e).bind λb=>ite (¬b.2.2.Code=0) (M (l? ([],[],b.2.2)))<|(app 24 j ([b.1])).bind λh=>(app 24 d ([b.2.1])).bind λc=>M (i! (h,c,aa b! (a+1))))<|M (i? (j,d))
def Dl(e:cb) (f:Int) (g:ri) (c:List Bool):Option ((List (List bz))×(List (List Int))×ot):=(Te e f).bind λd=>(ca (Qh e g c d) (([]:List (List bz)),([]:List (List Int)),0)).bind λy=>match y with |.inr v=>M v |.inl (a,b)=>M (a,b,ot.mk 0 0 0 0)
def xz(b:ek):p6 (List ej×Int) (List ej) Unit:=λ(e,a)=>ite (a<a00 b.d) ((c! b.d a).bind λc=>(app 16 e ([c.an])).bind λd=>M (i! (d,aa b! (a+1))))<|M (i? e)
def HF(d:cb) (f:Int) (e:ri) (b:(List (List bz))):Option ia:=(Te d f).bind λc=>(ca (xz c) (([]:List ej),0)).bind λy=>match y with |.inr _=>q6 |.inl a=>M (ia.mk e.z e.w ([]) b a d.Tables)
def Dm(c:(List Int×List Int×List Int)):p6 (List Int×Int) (List Int) Unit:=λ(b,a)=>ite (a<a00 c.2.2) ((c! c.2.2 a).bind λd=>(Ag b d).bind λe=>M (i! (e,aa b! (a+1))))<|M (i? b)
def Bm(c:(List Int×List Int×List Int)):p6 (List Int×Int) (List Int) Unit:=λ(b,a)=>ite (a<a00 c.2.2) ((c! c.2.2 a).bind λd=>(Ag b d).bind λe=>M (i! (e,aa b! (a+1))))<|M (i? b)
def si(k:ek) (i:List Int):p6 (List Int×Int) (List Int) Unit:=λ(d,e)=>ite (e<a00 k.f) (b? ((c! k.f e).bind λh=>(yv i h.u).bind λj=>ite (j=a36) (M d)<|(Xf h.ag).bind λf=>(Xf h.Value).bind λg=>(ca (Dm f) (d,0)).bind λy=>match y with |.inr _=>q6 |.inl a=>(ca (Bm g) (a,0)).bind λy=>match y with |.inr _=>q6 |.inl b=>M b) λc=>M (i! (c,aa b! (e+1))))<|M (i? d)
def Co(e:ek) (f:Int):Option (List Int):=(Ay e f).bind λb=>ite (b=a36) (M ([]))<|(Yf e f).bind λc=>(Ag c f).bind λd=>(ca (si e d) (([]:List Int),0)).bind λy=>match y with |.inr _=>q6 |.inl a=>M a
def Cl(d:List Int):p6 (List Bool×Int) (List Bool) Unit:=λ(a,b)=>ite (b<a00 d) ((c! d b).bind λe=>(c! a e).bind λf=>(put a e a35).bind λc=>M (i! (c,aa b! (b+1))))<|M (i? a)
def Bl(b:Int) (d:ek) (c:List Bool):Option (List Bool):=(c! c b).bind λg=>(put c b a35).bind λe=>(Yf d b).bind λf=>(ca (Cl f) (e,0)).bind λy=>match y with |.inr _=>q6 |.inl a=>M a
def Lj(c:List Int):p6 (List Bool×Int) (List Bool) Unit:=λ(a,b)=>ite (b<a00 c) ((c! c b).bind λd=>(c! a d).bind λf=>(put a d a35).bind λe=>M (i! (e,aa b! (b+1))))<|M (i? a)
def Bg(b:List Bool) (d:ek) (a:Int):Option (List Bool):=(c! b a).bind λg=>(put b a a35).bind λe=>(Yf d a).bind λf=>(ca (Lj f) (e,0)).bind λy=>match y with |.inr _=>q6 |.inl c=>M c
def Mj(g:cb) (h:Int) (c:List Int):p6 (List Bool×Int) (List Bool) Unit:=λ(b,a)=>ite (a<a00 c) ((Te g h).bind λe=>(c! c a).bind λf=>(Bg b e f).bind λd=>M (i! (d,aa b! (a+1))))<|M (i? b)
def Kj(f:cb) (g d:Int) (e:ek) (b:List Bool):Option (List Bool):=(Co e d).bind λc=>(ca (Mj f g c) (b,0)).bind λy=>match y with |.inr _=>q6 |.inl a=>M a
def Bh(m:cb) (n:Int) (o:ri) (e:Int):Option (bz×Int×ot):=(c! m.e n).bind λc=>(fD 1 a36 (a00 c.d:Int) (a00 c.d:Int)).bind λl=>(Bl e c l).bind λf=>(Te m n).bind λd=>(fD 1 a36 (a00 d.d:Int) (a00 d.d:Int)).bind λh=>(Kj m n e c h).bind λg=>(Dl m n o g).bind λb=>ite (¬b.2.2.Code=0) (M (bz.mk 0 0 0,0,b.2.2))<|(HF m n o b.1).bind λi=>(Pk c i (-1) f).bind λa=>ite (¬a.2.2.Code=0) (M (bz.mk 0 0 0,0,a.2.2))<|(c! a.1 e).bind λj=>(c! a.2.1 e).bind λk=>M (j,k,ot.mk 0 0 0 0)
def Pe(i:cb) (k:mu) (l:ma) (f h:Int) (g:List hO):p6 (Int×Int) Int ka:=λ(e,a)=>ite (a<a00 g) ((c! g a).bind λb=>(Ti i k b.j h).bind λc=>ite (¬c.2=0) (M (l? (ka.mk f 0 c.2)))<|(Bh i k.aj c.1 l.u).bind λd=>ite (¬d.2.2.Code=0) (M (l? (ka.mk f 0 d.2.2.Code)))<|M (i! (aa b! (e+(aa b! (d.1.N*(aa b! (b.To-b.j))))),aa b! (a+1))))<|M (i? e)
def Vj(l:cb) (m:mu) (k:ma) (b f:Int) (g h:List Int):Option ka:=(vy b).bind λi=>(uw i.1 g h).bind λj=>(ca (Pe l m k b f j) (0,0)).bind λy=>match y with |.inr v=>M v |.inl c=>(Ou b).bind λe=>(zk c e k.aw).bind λa=>b? (ite (a.1<0) (M 0)<|M a.1) λd=>M (ka.mk b d 0)
def sq(j:List Int) (l:Int):p6 (List Int×Bool×Int) (List Int×Bool) Unit:=λ(k,m,a)=>ite (a<a00 j) (b? (b? (ite (m=a36) ((c! j a).bind λh=>M (s5 (l<=h)))<|M a36) λg=>ite g ((c! j a).bind λi=>ite (l<i) ((app 8 k ([l])).bind λd=>M (d,a35))<|M (k,a35))<|M (k,m)) λ(b,c)=>(c! j a).bind λe=>(app 8 b ([e])).bind λf=>M (i! (f,c,aa b! (a+1))))<|M (i? (k,m))
def Jm(f:List Int) (e:Int):Option (List Int):=(ca (sq f e) ([],a36,0)).bind λy=>match y with |.inr _=>q6 |.inl (a,b)=>b? (ite (b=a36) ((app 8 a ([e])).bind λd=>M d)<|M a) λc=>M c
def Ai(l:List kv) (n:Int):p6 (List Int×Int) (List Int) Unit:=λ(m,k)=>ite (k<a00 l) (b? (b? ((c! l k).bind λf=>ite (¬n<f.ai) ((Qk f.aa).bind λi=>M (!i))<|M a35) λh=>ite h (M m)<|b? ((c! l k).bind λg=>ite (1<=g.aa.j) ((Jm m g.aa.j).bind λd=>M d)<|M m) λa=>(c! l k).bind λb=>ite (b.aa.To<=109572) ((Jm a b.aa.To).bind λe=>M e)<|M a) λc=>M (i! (c,aa b! (k+1))))<|M (i? m)
def Ue(b:List kv) (c:Int):Option (List Int):=(ca (Ai b c) ([],0)).bind λy=>match y with |.inr _=>q6 |.inl a=>M a
def jq(g:List Int):p6 (List Int×Int) (List Int) Unit:=λ(h,f)=>ite (f<a00 g) (b? (b? ((c! g f).bind λb=>ite (1<=b) (M (s5 (b<=109572)))<|M a36) λc=>ite c ((c! g f).bind λd=>(app 8 h ([d])).bind λe=>M e)<|M h) λa=>M (i! (a,aa b! (f+1))))<|M (i? h)
def fw(b:List Int):Option (List Int):=(ca (jq b) (([]:List Int),0)).bind λy=>match y with |.inr _=>q6 |.inl a=>M a
def Tr(c:hO):Option Bool:=b? ((Wf c).bind λb=>ite b (M (s5 (c.j<c.To)))<|M a36) λa=>M a
def xj(h:List hO):p6 (List Int×Int) (List Int) Unit:=λ(f,g)=>ite (g<a00 h) (b? ((c! h g).bind λa=>(Tr a).bind λc=>ite c ((tt f a.j).bind λd=>(tt d a.To).bind λe=>M e)<|M f) λb=>M (i! (b,aa b! (g+1))))<|M (i? f)
def qo(b:List hO):Option (List Int):=(ca (xj b) (([]:List Int),0)).bind λy=>match y with |.inr _=>q6 |.inl a=>M a
def Am(f:cb) (g:Int):p6 (List hO×Int) (List hO) Unit:=λ(b,a)=>(c! f.Tables g).bind λc=>ite (a<a00 c.Rows) ((c! c.Rows a).bind λd=>(app 16 b ([d.aa])).bind λe=>M (i! (e,aa b! (a+1))))<|M (i? b)
def kf(c:cb):p6 (List hO×Int) (List hO) Unit:=λ(d,b)=>ite (b<a00 c.Tables) ((ca (Am c b) (d,0)).bind λy=>match y with |.inr _=>q6 |.inl a=>M (i! (a,aa b! (b+1))))<|M (i? d)
def Al(g:cb) (d:Int):p6 (List hO×Int) (List hO) Unit:=λ(b,a)=>(c! g.e d).bind λc=>ite (a<a00 c.f) ((c! c.f a).bind λe=>(app 16 b ([e.aa])).bind λf=>M (i! (f,aa b! (a+1))))<|M (i? b)
def ef(d:cb):p6 (List hO×Int) (List hO) Unit:=λ(b,a)=>ite (a<a00 d.e) ((ca (Al d a) (b,0)).bind λy=>match y with |.inr _=>q6 |.inl c=>M (i! (c,aa b! (a+1))))<|M (i? b)
def Se(e:cb):Option (List Int):=(ca (kf e) (([]:List hO),0)).bind λy=>match y with |.inr _=>q6 |.inl a=>(ca (ef e) (a,0)).bind λy=>match y with |.inr _=>q6 |.inl b=>(qo b).bind λc=>(fw c).bind λd=>M d
def lA(h:cb) (i:mu) (j:ma) (a b:Int):Option ka:=b? (ite (¬a<0) (M (s5 (3599<a)))<|M a35) λc=>ite c (M (ka.mk a 0 3))<|(Yo h i j).bind λd=>ite (d=a36) (M (ka.mk a 0 1))<|(Ue i.ab b).bind λe=>(Se h).bind λf=>(Vj h i j a b e f).bind λg=>M g
def oh(n:cb) (o:mu) (p:ma) (l m:Int) (f:List Int):p6 (List ka×Bool×Int) (List ka) Unit:=λ(b,c,a)=>ite (a<l) (b? ((pv a).bind λd=>ite (¬d.2=0) (M (c,0,3))<|ite c ((cp d.1 f).bind λj=>(Hj n o p j m).bind λe=>M (a35,e.1,e.2))<|M (a36,0,1)) λ(g,h,i)=>(app 24 b ([ka.mk a h i])).bind λk=>M (i! (k,g,aa b! (a+1))))<|M (i? b)
def Zd(j:cb) (k:mu) (l:ma) (a b f:Int):Option (List ka):=b? (ite (¬a<0) (ite (¬b<a) (ite (¬3600<b) (M (s5 (120<(aa b! (b-a)))))<|M a35)<|M a35)<|M a35) λg=>ite g (M ([]))<|(fD 24 (ka.mk 0 0 0) 0 (aa b! (b-a))).bind λm=>(Wc j k l).bind λh=>b? (ite h ((fb j k f).bind λi=>M (a35,i))<|M (a36,([]:List Int))) λ(d,e)=>(ca (oh j k l b f e) (([]:List ka),d,a)).bind λy=>match y with |.inr _=>q6 |.inl c=>M c
def cr(c:nb):Option Bool:=b? ((Jn c.am).bind λb=>ite b (ite ((a00 c.ak:Int)<=200) (M (s5 ((a00 c.ao:Int)<=20)))<|M a36)<|M a36) λa=>M a
def Pj(b:ma) (c:Int):Option Bool:=b? (ite (0<=b.ah) (ite (¬c<b.ah) (M (s5 ((aa b! (c-b.ah))<8)))<|M a35)<|M a36) λa=>M a
def fv(h:cb) (f:ma) (g:nb):Option Bool:=b? ((xu h).bind λb=>ite b ((Jt f).bind λc=>ite c ((cr g).bind λd=>ite d ((Pj f g.as).bind λe=>M e)<|M a36)<|M a36)<|M a36) λa=>M a
def Yn(e:List ic):p6 Int Unit Bool:=λd=>b? (ite (d<a00 e) (M (s5 (d<201)))<|M a36) λb=>ite b (b? ((c! e d).bind λa=>ite (¬a.ad<0) (M (s5 (17592186044416<a.ad)))<|M a35) λc=>ite c (M (l? a36))<|M (i! (aa b! (d+1))))<|M (i? ())
def Zt(a:List ic):Option Bool:=(ca (Yn a) 0).bind λy=>match y with |.inr v=>M v |.inl _=>M a35
def Tp(d:List po):p6 Int Unit Bool:=λc=>ite (c<a00 d) (b? ((c! d c).bind λa=>ite (¬a.ad<0) (M (s5 (17592186044416<a.ad)))<|M a35) λb=>ite b (M (l? a36))<|M (i! (aa b! (c+1))))<|M (i? ())
def Sv(a:List po):Option Bool:=(ca (Tp a) 0).bind λy=>match y with |.inr v=>M v |.inl _=>M a35
def ND(p:ic):Int:=ite (p.a=1) p.ad<|ite (p.a=2) (aa b! (-p.ad))<|ite (p.a=3) (aa b! (-p.ad)) 0
def uO(m:Int) (l:List ic) (ks:List Int):Int:=ks.foldl (λs k=>(l.filter λp=>p.a==k).foldl (λs p=>ite (p.q==m) (aa b! (s+ND p)) s) s) 0
def Pg(a:List ic) (b:Int):Option Int:=ite (a00 a<=1099511627776) (M (uO b a [1,2,3])) q6
def Qj(b:List ic) (c:Int):Option Int:=ite (a00 b<=1099511627776) (M ((b.filter λp=>p.a==4).foldl (λs p=>ite (p.q==c) (aa b! (s+p.ad)) s) 0)) q6
def ω(m:Int) (l:List ic):Int:=(l.filter λp=>p.a==4).foldl (λs p=>ite (p.q==m) (aa b! (s+p.ad)) s) 0
def Qt(l:List ic) (w:ka):pr:=pr.mk w.q (ite (w.Code=0) w.ad<|uO w.q (l.filter λp=>p.q==w.q) [1,2,3]) (uO w.q (l.filter λp=>p.q==w.q) [1,2,3]) (ω w.q (l.filter λp=>p.q==w.q))
def Cr(a:List ka) (b:List ic):Option (List pr):=ite (a00 a<=1048576/\b.length<=1048576/\(a.map λw=>w.q).Nodup) (M (a.map (Qt b))) q6
def Ve(e:List po) (d:Int):p6 Int Unit (Int×Bool):=λc=>ite (0<=c) ((c! e c).bind λa=>b? (ite (a.az=3) (ite (a.j<=d) (M (s5 (d<a.To)))<|M a36)<|M a36) λb=>ite b (M (l? (a.ad,a35)))<|M (i! (aa b! (c-1))))<|M (i? ())
def Ji(a:List po) (b:Int):Option (Int×Bool):=(ca (Ve a b) (aa b! ((a00 a:Int)-1))).bind λy=>match y with |.inr v=>M v |.inl _=>M (0,a36)
def Sg(g:List ka) (i:List po):p6 (List ka×Int) (List ka) Unit:=λ(h,f)=>ite (f<a00 g) ((c! g f).bind λa=>b? ((Ji i a.q).bind λb=>ite b.2 (M (b.1,0))<|M (a.ad,a.Code)) λ(c,d)=>(app 24 h ([ka.mk a.q c d])).bind λe=>M (i! (e,aa b! (f+1))))<|M (i? h)
def Nj(b:List ka) (c:List po):Option (List ka):=(ca (Sg b c) (([]:List ka),0)).bind λy=>match y with |.inr _=>q6 |.inl a=>M a
def Eb(i:cb) (g:ma) (h:nb) (a d:Int):Option (List pr):=b? (ite (¬a<g.ah) (M (s5 (3599<a)))<|M a35) λc=>ite c (M ([]))<|(Zd i h.am g g.ah (aa b! (a+1)) d).bind λb=>ite ((a00 b:Int)=0) (M ([]))<|(Nj b h.ao).bind λe=>(Cr e h.ak).bind λf=>M f
def Xi(a:pr):Option Int:=M (max (aa b! (a.a2-a.a0)) 0)
def Me(a:pr):Option Int:=M (max (aa b! ((aa b! (a.a0-a.a2))-a.a3)) 0)
def Mi(e:List pr):p6 (Int×Int×Int) (Int×Int) Unit:=λ(f,g,a)=>ite (a<a00 e) ((c! e a).bind λb=>(Xi b).bind λc=>(Me b).bind λd=>M (i! (aa b! (f+c),aa b! (g+d),aa b! (a+1))))<|M (i? (f,g))
def Zh(c:List pr):Option (Int×Int):=(ca (Mi c) (0,0,0)).bind λy=>match y with |.inr _=>q6 |.inl (a,b)=>M (a,b)
def Za(e:cb) (f:ma) (d:nb):Option Bool:=(Eb e f d d.as d.z).bind λc=>(Zh c).bind λa=>b? (ite (a.1=0) (M (a.2==0))<|M a36) λb=>M b
def DU(f t:Int) (l:List ic) (ks:List Int):Int:=ks.foldl (λs k=>(l.filter λp=>p.a==k).foldl (λs p=>ite (f<=p.z/\p.z<t) (aa b! (s+ND p)) s) s) 0
def iv(b:List ic) (a:hO):Option Int:=ite (a00 b<=1099511627776/\0<=a.j/\a.j<=a.To/\a.To<=109573) (M (DU a.j a.To b [1,2,3])) q6
def Db(b:nb):Option Int:=(iv b.ak (hO.mk 0 109573)).bind λa=>M a
def fo(d:List ic):p6 (List Int×Int) (List Int) Unit:=λ(e,c)=>ite (c<a00 d) ((c! d c).bind λa=>(app 8 e ([a.q])).bind λb=>M (i! (b,aa b! (c+1))))<|M (i? e)
def cu(d:List ic):Option (List Int):=(ca (fo d) (([]:List Int),0)).bind λy=>match y with |.inr _=>q6 |.inl b=>(Wa b).bind λc=>(La c).bind λa=>M a
def Br(b:Int):Option Bool:=b? (ite (0<=b) (M (s5 (b<=109572)))<|M a36) λa=>M a
def Np(b:ma) (c:Int):Option Bool:=b? (ite (b.ah<=c) (M (s5 (c<=(min 3599 (aa b! ((aa b! (b.ah+120))-1))))))<|M a36) λa=>M a
def du(b:ic):Option Int:=ite (b.a=1) (M b.ad)<|b? (ite (b.a=2) (M a35)<|M (b.a==3)) λa=>ite a (M (aa b! (-b.ad)))<|M 0
def wk(k:List ic):p6 ((List (Int×Int))×Int) Unit (Int×Int):=λ(j,b)=>ite (b<a00 k) ((c! k b).bind λa=>b? (b? (ite (¬a.z<0) (M (s5 (109572<a.z)))<|M a35) λi=>ite i (M a35)<|b? (ite (¬a.q<0) (M (s5 (3599<a.q)))<|M a35) λd=>ite d (M a35)<|ite (¬a.ad<1) (M (s5 (1000000000000000<a.ad)))<|M a35) λe=>ite e (M (l? (b,3)))<|b? (ite (¬a.a<1) (M (s5 (4<a.a)))<|M a35) λf=>ite f (M (l? (b,1)))<|b? (ite (0<b) ((c! k (aa b! (b-1))).bind λh=>M (s5 (a.z<h.z)))<|M a36) λg=>ite g (M (l? (b,9)))<|(du a).bind λc=>ite (((cO (xX a.q (aa b! (((cO j a.q).getD 0)+c)) j) a.q).getD 0)<0) (M (l? (b,13)))<|M (i! (xX a.q (aa b! (((cO j a.q).getD 0)+c)) j,aa b! (b+1))))<|M (i? ())
def Vp(a:List ic):Option (Int×Int):=ite (4096<(a00 a:Int)) (M (4096,4))<|(ca (wk a) (([]:List (Int×Int)),0)).bind λy=>match y with |.inr v=>M v |.inl _=>M (0,0)
def Xj(b c:Int):Option Bool:=b? (ite (0<=b) (ite (b<c) (ite (c<=3600) (M (s5 ((aa b! (c-b))<=120)))<|M a36)<|M a36)<|M a36) λa=>M a
def Hv(f:po):Option Bool:=b? (ite (¬f.Id<0) ((Xj f.j f.To).bind λe=>M (!e))<|M a35) λc=>ite c (M a36)<|b? (ite (¬f.a1<0) (ite (¬f.a8<f.a1) (M (s5 (109572<f.a8)))<|M a35)<|M a35) λd=>ite d (M a36)<|b? (ite (¬f.az<1) (M (s5 (6<f.az)))<|M a35) λa=>ite a (M a36)<|b? (ite (0<=f.ad) (ite (f.ad<=1000000000000000) (ite (¬f.ad=0) (M (f.az==3))<|M a35)<|M a36)<|M a36) λb=>M b
def Uq(b:nb):p6 Int Unit Bool:=λc=>ite (c<a00 b.am.ab) ((c! b.am.ab c).bind λa=>ite (b.z<a.ai) (M (l? a36))<|M (i! (aa b! (c+1))))<|M (i? ())
def Tq(c:nb):p6 Int Unit Bool:=λa=>ite (a<a00 c.ak) ((c! c.ak a).bind λb=>ite (c.z<b.z) (M (l? a36))<|M (i! (aa b! (a+1))))<|M (i? ())
def Rq(c:nb):p6 Int Unit Bool:=λa=>ite (a<a00 c.ao) ((c! c.ao a).bind λb=>ite (c.z<b.a1) (M (l? a36))<|M (i! (aa b! (a+1))))<|M (i? ())
def Ar(a:nb):Option Bool:=(ca (Uq a) 0).bind λy=>match y with |.inr v=>M v |.inl _=>(ca (Tq a) 0).bind λy=>match y with |.inr v=>M v |.inl _=>(ca (Rq a) 0).bind λy=>match y with |.inr v=>M v |.inl _=>M a35
def nj(i:ma) (h:nb) (c:List Int):p6 Int Unit Int:=λb=>ite (b<a00 c) ((c! c b).bind λa=>b? (ite (¬a<i.ah) (M (s5 (h.as<a)))<|M a35) λd=>ite d (M (l? 3))<|b? ((Pg h.ak a).bind λf=>ite (¬1000000000000000<f) ((Qj h.ak a).bind λg=>M (s5 (1000000000000000<g)))<|M a35) λe=>ite e (M (l? 3))<|M (i! (aa b! (b+1))))<|M (i? ())
def mj(e:nb):p6 Int Unit Int:=λa=>ite (a<a00 e.ao) ((c! e.ao a).bind λb=>b? ((Hv b).bind λd=>ite d (M (b.Id !=a))<|M a35) λc=>ite c (M (l? 13))<|M (i! (aa b! (a+1))))<|M (i? ())
def Ln(k:cb) (j:ma) (i:nb):Option Int:=(Ia k i.am.aj j).bind λf=>ite (¬f=0) (M 1)<|(Bf k i.am).bind λd=>ite (¬d.2=0) (M d.2)<|b? ((Br i.z).bind λg=>ite g (if¬i.as=(-1)then(Np j i.as).bind λh=>M (!h)else M a36)<|M a35) λe=>ite e (M 3)<|(Vp i.ak).bind λa=>ite (¬a.2=0) (M a.2)<|(cu i.ak).bind λb=>(ca (nj j i b) 0).bind λy=>match y with |.inr v=>M v |.inl _=>ite (16<(a00 i.ao:Int)) (M 4)<|(ca (mj i) 0).bind λy=>match y with |.inr v=>M v |.inl _=>(Ar i).bind λc=>ite (c=a36) (M 9)<|M 0
def Sa(a:List kv):Option (List kv):=ite (a00 a*72<=140737488355328) (M a) q6
def Ld(a:List kv):Option (List kv):=Sa a
def yb(a:List ic):Option (List ic):=ite (a00 a<=1099511627776) (M a) q6
def Wb(a:List ic):Option (List ic):=yb a
def Mb(a:List po):Option (List po):=ite (a00 a<=1099511627776) (M a) q6
def nc(a:List po):Option (List po):=Mb a
def Ej(h:Int) (g:List pr):p6 (List ic×Int) (List ic) Unit:=λ(d,e)=>ite (e<a00 g) (b? ((c! g e).bind λa=>(Xi a).bind λb=>ite (0<b) ((app 32 d ([ic.mk h a.q 1 b])).bind λf=>M f)<|M d) λc=>M (i! (c,aa b! (e+1))))<|M (i? d)
def Dj(h:Int) (g:List pr):p6 (List ic×Int) (List ic) Unit:=λ(a,b)=>ite (b<a00 g) (b? ((c! g b).bind λc=>(Me c).bind λd=>ite (0<d) ((app 32 a ([ic.mk h c.q 3 d])).bind λf=>M f)<|M a) λe=>M (i! (e,aa b! (b+1))))<|M (i? a)
def nz(d:nb):Option (List kv×List ic×List po):=(Ld d.am.ab).bind λa=>(Wb d.ak).bind λb=>(nc d.ao).bind λc=>M (a,b,c)
def Oo(l:cb) (m:ma) (k:nb) (a:Int):Option (nb×Int):=(Ln l m k).bind λj=>ite (¬j=0) (M (k,1))<|b? (ite (¬a<0) (M (s5 (109572<a)))<|M a35) λi=>ite i (M (k,3))<|ite (a<k.z) (M (k,9))<|(Eb l m k k.as a).bind λh=>(ca (Ej a h) (([]:List ic),0)).bind λy=>match y with |.inr _=>q6 |.inl c=>(ca (Dj a h) (c,0)).bind λy=>match y with |.inr _=>q6 |.inl b=>ite (4096<(aa b! ((a00 k.ak:Int)+(a00 b:Int)))) (M (k,4))<|(nz k).bind λ(d,e,f)=>(app 32 e b).bind λg=>M (nb.mk (mu.mk k.am.Id k.am.aj k.am.s d) g f a k.as,0)
def Mr  : Option Bool:=(Ez ([fr.mk 7 0])).bind λa=>(Oo a (ma.mk 0 0 1 0 0 0 0 (tk.mk 0 ([]))) (nb.mk (mu.mk 0 0 0 ([kv.mk 0 (-1) 0 (bz.mk 3 0 500) (hO.mk 0 109573) 0])) ([]) ([]) 3 0) 9).bind λb=>b? (ite (b.2=0) ((Za a (ma.mk 0 0 1 0 0 0 0 (tk.mk 0 ([]))) (nb.mk (mu.mk 0 0 0 ([kv.mk 0 (-1) 0 (bz.mk 3 0 500) (hO.mk 0 109573) 0])) ([]) ([]) 3 0)).bind λd=>ite (d=a36) ((Za a (ma.mk 0 0 1 0 0 0 0 (tk.mk 0 ([]))) b.1).bind λe=>ite e ((Db b.1).bind λf=>M (f==500))<|M a36)<|M a36)<|M a36) λc=>M c
def Zf(i:cb) (j:mu) (k:ma) (c d:Int) (e f:List Int):p6 (List ka×Int) (List ka) Unit:=λ(b,a)=>ite (a<c) ((Vj i j k a d e f).bind λg=>(app 24 b ([g])).bind λh=>M (i! (h,aa b! (a+1))))<|M (i? b)
def Di(g:cb) (h:mu) (i:ma) (c d b:Int):Option (List ka):=(Ue h.ab b).bind λe=>(Se g).bind λf=>(ca (Zf g h i d b e f) (([]:List ka),c)).bind λy=>match y with |.inr _=>q6 |.inl a=>M a
def Sk(d:Int):p6 (List ka×Int) (List ka) Unit:=λ(c,a)=>ite (a<d) ((app 24 c ([ka.mk a 0 1])).bind λb=>M (i! (b,aa b! (a+1))))<|M (i? c)
def kj(h:cb) (i:mu) (j:ma) (a b e:Int):Option (List ka):=b? (ite (¬a<0) (ite (¬b<a) (ite (¬3600<b) (M (s5 (120<(aa b! (b-a)))))<|M a35)<|M a35)<|M a35) λd=>ite d (M ([]))<|(Yo h i j).bind λf=>ite f ((Di h i j a b e).bind λg=>M g)<|(ca (Sk b) (([]:List ka),a)).bind λy=>match y with |.inr _=>q6 |.inl c=>M c
def Gt(b:ic):Option Int:=ite (b.a=1) (M b.ad)<|b? (ite (b.a=2) (M a35)<|M (b.a==3)) λa=>ite a (M (aa b! (0-b.ad)))<|M 0
def Om(f:List ic) (g:Int):p6 (Int×Int) Int Unit:=λ(d,e)=>ite (e<a00 f) (b? ((c! f e).bind λa=>ite (a.q=g) ((Gt a).bind λc=>M (aa b! (d+c)))<|M d) λb=>M (i! (b,aa b! (e+1))))<|M (i? d)
def Hs(b:List ic) (c:Int):Option Int:=(ca (Om b c) (0,0)).bind λy=>match y with |.inr _=>q6 |.inl a=>M a
def wq(f:List ic) (h:Int):p6 (Int×Int) Int Unit:=λ(g,e)=>ite (e<a00 f) (b? (b? ((c! f e).bind λa=>ite (a.q=h) (M (a.a==4))<|M a36) λb=>ite b ((c! f e).bind λd=>M (aa b! (g+d.ad)))<|M g) λc=>M (i! (c,aa b! (e+1))))<|M (i? g)
def xw(b:List ic) (c:Int):Option Int:=(ca (wq b c) (0,0)).bind λy=>match y with |.inr _=>q6 |.inl a=>M a
def Dy(g:List ka) (h:List ic):p6 (List pr×Int) (List pr) Unit:=λ(i,f)=>ite (f<a00 g) ((c! g f).bind λa=>(Hs h a.q).bind λb=>(xw h a.q).bind λd=>b? (ite (¬a.Code=0) (M b)<|M a.ad) λc=>(app 32 i ([pr.mk a.q c b d])).bind λe=>M (i! (e,aa b! (f+1))))<|M (i? i)
def XE(b:List ka) (c:List ic):Option (List pr):=(ca (Dy b c) ([],0)).bind λy=>match y with |.inr _=>q6 |.inl a=>M a
def Cz(b:po) (c:Int):Option Bool:=b? (ite (b.j<=c) (M (s5 (c<b.To)))<|M a36) λa=>M a
def Ht(f:List po) (g:Int):p6 Int Unit (Int×Bool):=λe=>ite (0<=e) (b? ((c! f e).bind λa=>ite (a.az=3) ((Cz a g).bind λc=>M c)<|M a36) λb=>ite b ((c! f e).bind λd=>M (l? (d.ad,a35)))<|M (i! (aa b! (e-1))))<|M (i? ())
def vu(a:List po) (b:Int):Option (Int×Bool):=(ca (Ht a b) (aa b! ((a00 a:Int)-1))).bind λy=>match y with |.inr v=>M v |.inl _=>M (0,a36)
def Aw(h:List ka) (i:List po):p6 (List ka×Int) (List ka) Unit:=λ(f,g)=>ite (g<a00 h) (b? ((c! h g).bind λa=>(vu i a.q).bind λb=>ite b.2 ((app 24 f ([ka.mk a.q b.1 0])).bind λd=>M d)<|(app 24 f ([a])).bind λe=>M e) λc=>M (i! (c,aa b! (g+1))))<|M (i? f)
def Ey(b:List ka) (c:List po):Option (List ka):=(ca (Aw b c) (([]:List ka),0)).bind λy=>match y with |.inr _=>q6 |.inl a=>M a
def Ei(i:cb) (g:ma) (h:nb) (a d:Int):Option (List pr):=b? (ite (¬a<g.ah) (M (s5 (3599<a)))<|M a35) λc=>ite c (M ([]))<|(kj i h.am g g.ah (aa b! (a+1)) d).bind λb=>ite ((a00 b:Int)=0) (M ([]))<|(Ey b h.ao).bind λe=>(XE e h.ak).bind λf=>M f
def GB(a:pr):Option Int:=M (max (aa b! (a.a2-a.a0)) 0)
def yw(a:pr):Option Int:=M (max (aa b! ((aa b! (a.a0-a.a2))-a.a3)) 0)
def JD(e:List pr):p6 (Int×Int×Int) (Int×Int) Unit:=λ(f,g,a)=>ite (a<a00 e) ((c! e a).bind λb=>(GB b).bind λc=>(yw b).bind λd=>M (i! (aa b! (f+c),aa b! (g+d),aa b! (a+1))))<|M (i? (f,g))
def Bz(c:List pr):Option (Int×Int):=(ca (JD c) (0,0,0)).bind λy=>match y with |.inr _=>q6 |.inl (a,b)=>M (a,b)
def Nl(e:cb) (f:ma) (d:nb):Option Bool:=(Ei e f d d.as d.z).bind λc=>(Bz c).bind λa=>b? (ite (a.1=0) (M (a.2==0))<|M a36) λb=>M b
def uu(h:List ic) (i:hO):p6 (Int×Int) Int Unit:=λ(d,a)=>ite (a<a00 h) (b? (b? ((c! h a).bind λg=>ite (i.j<=g.z) (M (s5 (g.z<i.To)))<|M a36) λb=>ite b ((c! h a).bind λe=>(Gt e).bind λf=>M (aa b! (d+f)))<|M d) λc=>M (i! (c,aa b! (a+1))))<|M (i? d)
def mA(d:List ic) (c:hO):Option Int:=b? (ite (¬c.j<0) (ite (¬c.To<c.j) (M (s5 (109573<c.To)))<|M a35)<|M a35) λb=>ite b (M 0)<|(ca (uu d c) (0,0)).bind λy=>match y with |.inr _=>q6 |.inl a=>M a
def Ui(b:nb):Option Int:=(mA b.ak (hO.mk 0 109573)).bind λa=>M a
def Sf(m:cb) (n:ma) (l:nb):Option Bool:=b? ((fv m n l).bind λg=>ite g ((Zt l.ak).bind λh=>ite h ((Sv l.ao).bind λi=>M (!i))<|M a35)<|M a35) λf=>ite f ((Mr).bind λj=>M j)<|b? ((Za m n l).bind λk=>(Nl m n l).bind λb=>ite (k=b) ((Db l).bind λc=>(Ui l).bind λd=>ite (c=d) ((Mr).bind λe=>M e)<|M a36)<|M a36) λa=>M a
def oD(k:List po):p6 (List Int×Int) (List Int) Unit:=λ(i,d)=>ite (d<a00 k) (b? ((c! k d).bind λa=>b? (ite (¬a.az=1) (M (a.az !=2))<|M a36) λh=>ite h (M i)<|ite ((max a.j 0)<(min a.To 3600)) ((c! i (max a.j 0)).bind λe=>(put i (max a.j 0) (aa b! (e+1))).bind λb=>(c! b (min a.To 3600)).bind λf=>(put b (min a.To 3600) (aa b! (f-1))).bind λg=>M g)<|M i) λc=>M (i! (c,aa b! (d+1))))<|M (i? i)
def mD(e:List Int):p6 (List Int×Int×Int) (List Int) Unit:=λ(b,c,a)=>ite (a<3600) (b? ((c! e a).bind λd=>ite (0<(aa b! (c+d))) ((app 8 b ([a])).bind λh=>M (h,aa b! (c+d)))<|M (b,aa b! (c+d))) λ(f,g)=>M (i! (f,g,aa b! (a+1))))<|M (i? b)
def lG(d:List po):Option (List Int):=(fD 8 0 3601 3601).bind λc=>(ca (oD d) (c,0)).bind λy=>match y with |.inr _=>q6 |.inl a=>(ca (mD a) (([]:List Int),0,0)).bind λy=>match y with |.inr _=>q6 |.inl b=>M b
def wO(b:Int) (c:ma):Option Int:=ite (b<1) (M 0)<|(vx b c.a9 0).bind λa=>ite (¬a.2=0) (M 0)<|M (max (min (aa b! (b-(max c.ba 0))) a.1) 0)
end
end Go.Proofs.Dev
