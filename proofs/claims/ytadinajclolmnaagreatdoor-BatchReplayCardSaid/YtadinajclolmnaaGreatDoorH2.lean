/-
  Contracts by hand: the conditions stand in each.
-/
import Derived.Test.YtadinajclolmnaaGreatDoorK
import Derived.Lib.ItoaNum
open Option renaming some->M
open Decidable renaming decide->D1
open Go.IntKind renaming u64->E?
open Go.Tm.D renaming dead->a!
open Go.Proofs.Tryz renaming prog->al
open Int renaming reduceEq->l!,reduceLT->q'
open List renaming map_cons->w?,replicate->h!
open Nat renaming div_add_mod->yah,div_le_self->mai,div_lt_iff_lt_mul->uai,land->Wai,le_antisymm->Jaj,le_div_iff_mul_le->vai,lor->zaj,lt_of_le_of_lt->Dah,lt_trans->Baj,min_eq_left->qag,mod_lt->Oah,mul_comm->Eah,mul_div_mul_right->caj,mul_le_mul->sah,mul_le_mul_right->Raf,not_lt->eak,pow_add->Fai,reduceAdd->l?,reduceEqDiff->o!,reduceSub->n!,two_pow_pos->eai,zero_le->Q?
open Option.some renaming inj->R'
set_option linter.all false
set_option maxHeartbeats 2000000
set_option maxRecDepth 10000
namespace Go.Proofs.Dev
open Go Go.Tm
def u64(n:Nat):D:=.v (.int E? n)
def i64(n:Int):D:=.v (.int .i64 n)
def bP4:(2 ^ min (Int.toNat 32) IntKind.u64.bits:Nat)=4294967296:=rfl
def bM9{x:Nat}(h:x<18446744073709551616):cx Wai E? (x:Int) 4294967295=.int E? ((x % 4294967296:Nat):Int):=by
 have e1:((x:Int) % wv E?).toNat=x:=by grind[wv]
 have e2:((4294967295:Int) % wv E?).toNat=4294967295:=s6
 unfold cx;rw[e1,e2];have e3:Wai x 4294967295=x % 4294967296:=Nat.and_two_pow_sub_one_eq_mod x 32
 grind[Wb]
theorem aP3(a b:Nat):(a:Int)*(b:Int)=((a*b:Nat):Int):=(Int.natCast_mul a b).symm
def ac9(a b:Nat):(a:Int)+(b:Int)=((a+b:Nat):Int):=(Int.natCast_add a b).symm
def TU{P:Program}{k:Nat}{vs us:List Value}(b:Tm.P' P k) (h:∀w,Calls P k vs.toArray w λe w'=>e=.returned (.tuple us.toArray)/\w'=w):k! P k (vs.map .v) (.tup (us.map .v)):=by
 refine λm=>⟨b,λG w a hv hi=>?_⟩;have key:∀(vs us:List Value),VsRel G w (vs.map .v) us->us=vs:=by
  intro vs
  induction vs with
  |nil=>intro us h;simpa [VsRel] using h
  |cons x l c=>
   intro us h;simp only[w?,VsRel,VRel]at h
   grind
 have key2:∀us:List Value,VsRel G w (us.map .v) us:=by
  intro us
  induction us with
  |nil=>simp[VsRel]
  |cons x l c=>simp only[w?,VsRel,VRel];grind
 obtain rfl:=key vs a hv;refine(h w).mono ?_;rintro e w' ⟨rfl,rfl⟩;refine⟨_,_,_,G,rfl,⟨rfl,rfl⟩,?_,hi,Step.refl _ _ _⟩;simp only[VRel]
 simp_all
def YC{t0 t1:Int}{r:Int×Int}(h:Je t0 t1=M r):k! al 250 [Ii t0,Ii t1] (.tup [Ii r.1,Ii r.2]):=by
 unfold Je at h;split at h
 .rename_i hc;obtain⟨x,rfl⟩:∃x:Nat,t0=x:=⟨t0.toNat,U⟩;obtain⟨y,rfl⟩:∃y:Nat,t1=y:=⟨t1.toNat,U⟩;obtain rfl:=R' h;have a:=TU (vs:=[.int E? x,.int E? y]) (us:=[.int E? ((x*y / 18446744073709551616:Nat):Int),.int E? ((x*y % 18446744073709551616:Nat):Int)]) (VD bs5.ok bs5.nm) (λw=>Tryz.bits_Mul64 x y U U w);have e1:(x:Int)*(y:Int) / 18446744073709551616=((x*y / 18446744073709551616:Nat):Int):=U
  have e2:(x:Int)*(y:Int) % 18446744073709551616=((x*y % 18446744073709551616:Nat):Int):=U
  dsimp only;rw[e1,e2];exact a
 .cases h
def dX(Y:Nat):Prop:=9223372036854775808<=Y/\Y<18446744073709551616
def bQ8(y:Nat) (h0:0<y) (c:y<18446744073709551616) (m:List Ent):CallT al 265 [u64 y] m λd m'=>(∃s:Nat,d=i64 s/\s<=63/\dX (y*2 ^ s))/\m'=m:=by
 obtain⟨h1,h2,a⟩:=Lib.bitLenAux_bounds 64 y c U;have h4:Lib.bitLenAux 64 y<=64:=by
  by_cases hc:Lib.bitLenAux 64 y<=64
  .omega
  .have:2 ^ 64<=2 ^ (Lib.bitLenAux 64 y-1):=Nat.pow_le_pow_right s6 U;omega
 have b:=vM (vs:=[.int E? y]) (VD br7.ok br7.nm) (λw=>Tryz.bits_LeadingZeros64 (y:Int) w U U);refine(b m).mono ?_;rintro d m' ⟨rfl,rfl⟩;refine⟨⟨64-Lib.bitLenAux 64 y,?_,U,?_,?_⟩,rfl⟩
 .grind[i64,Lib.bitLen]
 .have:=Raf (2 ^ (64-Lib.bitLenAux 64 y)) h2;rw[←Fai,show Lib.bitLenAux 64 y-1+(64-Lib.bitLenAux 64 y)=63 by omega]at this;omega
 .have:=Nat.mul_lt_mul_of_pos_right a (eai (64-Lib.bitLenAux 64 y));rw[←Fai,show Lib.bitLenAux 64 y+(64-Lib.bitLenAux 64 y)=64 by omega]at this;omega
def faa(n:Nat):D1 ((n:Int)<0)=false:=p6
theorem bl8{a b s:Nat}(hb:b<2 ^ s) (h:2 ^ s*a+b<18446744073709551616):cx zaj E? ((2 ^ s*a:Nat):Int) (b:Int)=.int E? ((2 ^ s*a+b:Nat):Int):=by
 have e1:(((2 ^ s*a:Nat):Int) % wv E?).toNat=2 ^ s*a:=by grind[wv]
 have e2:((b:Int) % wv E?).toNat=b:=by grind[wv]
 unfold cx;rw[e1,e2];have e3:zaj (2 ^ s*a) b=2 ^ s*a+b:=(Nat.two_pow_add_eq_or_of_lt hb a).symm
 grind[Wb]
theorem aK6{N y s q R:Nat}(hy:0<y) (h:N*2 ^ s=q*(y*2 ^ s)+R) (hR:R<y*2 ^ s):N / y=q/\N % y=R / 2 ^ s:=by
 have hp:=eai s;have h1:N*2 ^ s / (y*2 ^ s)=q:=by
  simp_all[Nat.add_comm,Nat.add_mul_div_right]
 grind[Nat.add_mul_mod_self_right,Nat.mod_eq_of_lt,caj,Nat.mul_mod_mul_right,Nat.mul_div_cancel]
theorem aA9(a b c:Int):aa E? (aa E? (aa E? a+b)-aa E? c)=aa E? (a+b-c):=by
 grind[aa]
structure bZ9 (hi lo y s Y v w e o0 L:Nat):Prop where
 hY:y*2 ^ s=Y
 hYn:dX Y
 hYv:Y=4294967296*v+w
 hwB:w<4294967296
 hU:2 ^ s*hi+e=o0
 hUY:o0<Y
 hLM:L<18446744073709551616
 hN:(hi*18446744073709551616+lo)*2 ^ s=o0*18446744073709551616+L
 he:lo / 2 ^ (64-s)=e
 hv:Y / 4294967296=v
 hv0:¬(v:Int)=0
 m1:min s IntKind.u64.bits=s
 m2:min (64-s) IntKind.u64.bits=64-s
 f1:aa E? (s:Int)=(s:Int)
 f2:aa E? ((y:Int)*((2 ^ s:Nat):Int))=(Y:Int)
 f3:aa E? ((hi:Int)*((2 ^ s:Nat):Int))=((2 ^ s*hi:Nat):Int)
 f4:aa E? (64-(s:Int))=((64-s:Nat):Int)
 f6:cx zaj E? ((2 ^ s*hi:Nat):Int) (e:Int)=.int E? (o0:Int)
 f7:aa E? ((lo:Int)*((2 ^ s:Nat):Int))=(L:Int)
 f8:cx Wai E? (Y:Int) 4294967295=.int E? (w:Int)
 f9:cx Wai E? (L:Int) 4294967295=.int E? ((L % 4294967296:Nat):Int)
def Y1(hi lo y s:Nat) (b:hi<y) (hlo:lo<18446744073709551616) (s2:s<=63) (a:dX (y*2 ^ s)):∃Y v w e o0 L,bZ9 hi lo y s Y v w e o0 L:=by
 simp only[dX]at a;obtain⟨Y,hY⟩:∃Y,y*2 ^ s=Y:=⟨_,rfl⟩;rw[hY]at a;obtain⟨v,hv⟩:∃v,Y / 4294967296=v:=⟨_,rfl⟩;obtain⟨w,hw⟩:∃w,Y % 4294967296=w:=⟨_,rfl⟩;have hYv:Y=4294967296*v+w:=U
 have hwB:w<4294967296:=U
 have hv0:¬(v:Int)=0:=U
 have m1:min s IntKind.u64.bits=s:=qag (by show s<=64;omega);have m2:min (64-s) IntKind.u64.bits=64-s:=qag (by show 64-s<=64;omega);obtain⟨e,he⟩:∃e,lo / 2 ^ (64-s)=e:=⟨_,rfl⟩;have hes:e<2 ^ s:=by
  rw[←he,uai (eai _),←Fai,show s+(64-s)=64 by omega];omega
 have hhs:2 ^ s*hi+2 ^ s<=Y:=by
  rw[←hY,←Nat.mul_succ,Eah];exact Raf _ b
 obtain⟨o0,hU⟩:∃o0,2 ^ s*hi+e=o0:=⟨_,rfl⟩;have hUY:o0<Y:=U
 obtain⟨L,hL⟩:∃L,lo*2 ^ s % 18446744073709551616=L:=⟨_,rfl⟩;have hLM:L<18446744073709551616:=U
 have hloe:lo*2 ^ s=e*18446744073709551616+L:=by
  have h1:lo*2 ^ s / 18446744073709551616=e:=by
   rw[←he,show(18446744073709551616:Nat)=2 ^ (64-s)*2 ^ s by rw[←Fai,show 64-s+s=64 by omega],caj _ _ (eai s)]
  omega
 have hN:(hi*18446744073709551616+lo)*2 ^ s=o0*18446744073709551616+L:=by
  grind
 have f1:aa E? (s:Int)=(s:Int):=Wb U;have f2:aa E? ((y:Int)*((2 ^ s:Nat):Int))=(Y:Int):=by grind[Wb]
 have f3:aa E? ((hi:Int)*((2 ^ s:Nat):Int))=((2 ^ s*hi:Nat):Int):=by grind[Eah,Wb]
 have f4:aa E? (64-(s:Int))=((64-s:Nat):Int):=by grind[Wb]
 have f6:cx zaj E? ((2 ^ s*hi:Nat):Int) (e:Int)=.int E? (o0:Int):=by grind[bl8]
 have f7:aa E? ((lo:Int)*((2 ^ s:Nat):Int))=(L:Int):=by grind[aa]
 have f8:=bM9 (x:=Y) a.2;have f9:=bM9 (x:=L) hLM;rw[hw]at f8;exact⟨Y,v,w,e,o0,L,⟨hY,a,hYv,hwB,hU,hUY,hLM,hN,he,hv,hv0,m1,m2,f1,f2,f3,f4,f6,f7,f8,f9⟩⟩
structure Dig (Y v w o0 u:Nat):Prop where
 hY:Y=4294967296*v+w
 hv:2147483648<=v
 hYM:Y<18446744073709551616
 hw:w<4294967296
 hU:o0<Y
 hu:u<4294967296
structure Α (Y v w o0 u q r:Nat):Prop where
 hP:q*v+r=o0
 hr:r<4294967296
 hQ:(o0*4294967296+u) / Y<=q
section
variable {Y v w o0 u q r:Nat}
theorem Dig.mulY(D:Dig Y v w o0 u) (q:Nat):q*Y=4294967296*(q*v)+q*w:=by
 rw[D.hY,Nat.mul_add,Nat.mul_left_comm]
theorem Dig.Q_lt(D:Dig Y v w o0 u):(o0*4294967296+u) / Y<4294967296:=by
 have h:=D.hU;have h1:=D.hu;have h2:=D.hv;have h3:=D.hY;rw[uai U];omega
theorem Dig.q_le(D:Dig Y v w o0 u) {q r:Nat}(h:q*v+r=o0):q<=4294967297:=by
 have h0:=D.hU;have h1:=D.hw;have h2:=D.hv;have h3:=D.hY;have:q*v<4294967298*v:=U
 have:=Nat.lt_of_mul_lt_mul_right this;omega
theorem Dig.start(D:Dig Y v w o0 u):Α Y v w o0 u (o0 / v) (o0 % v)\/(4294967296<=o0 % v):=by
 have h0:=D.hU;have h1:=D.hw;have h2:=D.hv;have h3:=D.hY;have h4:=D.hYM;have a:0<v:=U
 left;have hm:=Oah o0 a;have hd:o0 / v*v+o0 % v=o0:=by grind[yah]
 refine⟨hd,U,?_⟩;rw[Nat.div_le_iff_le_mul_add_pred U];have e:=D.mulY (o0 / v);rw[Eah]at e;rw[e];have h5:=D.hu;omega
theorem Α.less(D:Dig Y v w o0 u) (G:Α Y v w o0 u q r) (h:4294967296<=q\/4294967296*r+u<q*w):1<=q/\(o0*4294967296+u) / Y<=q-1/\(q-1)*v+(r+v)=o0:=by
 have a:(o0*4294967296+u) / Y<q:=by
  rcases h with h|h
  .exact Nat.lt_of_lt_of_le D.Q_lt h
  .have b:=D.hY;have h2:=D.hv;rw[uai U,D.mulY];have:=G.hP;omega
 have b:1<=q:=Dah (Q? _) a;refine⟨b,Nat.le_sub_one_of_lt a,?_⟩;have e:q*v=(q-1)*v+v:=by rw[←Nat.succ_mul];simp_all
 have:=G.hP;omega
theorem Α.done(D:Dig Y v w o0 u) (G:Α Y v w o0 u q r) (h:q*w<=4294967296*r+u):q=(o0*4294967296+u) / Y:=by
 refine Jaj ?_ G.hQ;have h1:=D.hY;have h2:=D.hv;rw[vai U,D.mulY];have:=G.hP;omega
theorem Dig.big(D:Dig Y v w o0 u) (hP:q*v+r=o0) (hr:4294967296<=r) (hq:q<=4294967296) (hQ:(o0*4294967296+u) / Y<=q):q=(o0*4294967296+u) / Y:=by
 refine Jaj ?_ hQ;have h1:=D.hY;have h2:=D.hv;have h3:=D.hw;rw[vai U,D.mulY];have:=sah hq (show w<=4294967296 by omega);omega
end
def Eae{q:Nat}(h1:1<=q) (h2:q<18446744073709551616):aa E? ((q:Int)-1)=((q-1:Nat):Int):=by
 grind[Wb]
theorem bI2(hi lo y:Nat) (W:hi<y) (K:lo<18446744073709551616) (hy:y<18446744073709551616) :
 k! al 251 [u64 hi,u64 lo,u64 y] (.tup [u64 ((hi*18446744073709551616+lo) / y),u64 ((hi*18446744073709551616+lo) % y)]):=by
 have c1:¬(y:Int)=0:=U
 have c2:¬(y:Int)<=(hi:Int):=U
 simp only[u64];by_cases h0:hi=0
 .subst h0;have a:¬(y:Int)<=0:=U
  have hlq:lo / y<18446744073709551616:=Dah (mai _ _) K;have q1:aa E? (Int.tdiv (lo:Int) (y:Int))=((lo / y:Nat):Int):=Wb hlq;have q2:Int.tmod (lo:Int) (y:Int)=((lo % y:Nat):Int):=rfl;refine dk (hf:=rfl) 132 ap9 ?_;simp only[ap9,Kf.of,zs,ze];refine Z.T Ie ?_;simp only[c1,a,tX,q1,q2,Nat.zero_mul,Nat.zero_add,zz,Zm,As,Wm,ts,Ds,Vm,Di,Ym,Xm,Cs,Kc,Vf,Ai,d!,undef,Ee,q',C.Jf,C.va,oa,c!,d?,ba,St.ev,St.put,h!,n!,l?,Fa,pa,qa,Sa,D.ok,D.cells,one,reduceCtorEq,o!,l!]
  simp_all[er,zz,fq,zg]
 .have c3:¬(hi:Int)=0:=U
  refine dk (hf:=rfl) 132 ap9 ?_;simp only[ap9,Kf.of,zs,ze];refine Z.T Ie ?_;simp only[c1,c2,c3,zz,Zm,As,Wm,ts,Ds,Vm,Di,Ym,Xm,Cs,Kc,Vf,Ai,d!,undef,Ee,q',C.Jf,C.va,oa,c!,d?,ba,St.ev,St.put,h!,n!,l?,Fa,pa,qa,Sa,D.ok,D.cells,one,reduceCtorEq,o!,l!];refine cr (bQ8 y U hy _) ?_;intro d m' hh;obtain⟨⟨s,hd,s2,s3⟩,hm'⟩:=hh;obtain⟨Y,v,w,e,o0,L,F⟩:=Y1 hi lo y s W K s2 s3;have g:Dig Y v w o0 (L / 4294967296):=⟨F.hYv,by have:=F.hYn.1;have:=F.hYv;have:=F.hwB;omega,F.hYn.2,F.hwB,F.hUY,by have:=F.hLM;omega⟩;have hvM:v<18446744073709551616:=by have:=F.hYv;have:=F.hYn.2;omega
  have t:o0<18446744073709551616:=Baj F.hUY F.hYn.2;have N:0<v:=by have:=g.hv;omega
  have k:∀n:Nat,n<18446744073709551616->aa E? (Int.tdiv (n:Int) (v:Int))=((n / v:Nat):Int):=λn hn=>Wb (Dah (mai _ _) hn);have l:∀n:Nat,n<18446744073709551616->aa E? (((n / v:Nat):Int)*(v:Int))=((n / v*v:Nat):Int):=λn hn=>by rw[aP3,Wb (Dah (Nat.div_mul_le_self _ _) hn)]
  have m:∀n:Nat,n<18446744073709551616->aa E? ((n:Int)-((n / v*v:Nat):Int))=((n % v:Nat):Int):=λn hn=>by
   have:=yah n v;grind[Wb]
  have g1:=k o0 t;have g2:=l o0 t;have g3:=m o0 t;simp only[hd,hm',zz,Zm,As,Wm,ts,Ds,Vm,Di,Ym,Xm,Cs,Kc,Vf,Ai,d!,undef,Ee,q',C.Jf,C.va,oa,c!,d?,ba,St.ev,St.put,h!,n!,l?,Fa,pa,qa,Sa,D.ok,D.cells,one,reduceCtorEq,o!,l!,i64,faa,F.m1,F.m2,F.f1,F.f2,F.f3,F.f4,iY,F.he,F.f6,F.f7,F.f8,F.f9,bP4,F.hv,F.hv0,g1,g2,g3,tX];refine T.zL (X:=Nat×Nat) (λx=>⟨[a!,a!,u64 Y,a!,a!,a!,a!,a!,u64 s,u64 v,u64 w,u64 o0,a!,u64 (L / 4294967296),u64 (L % 4294967296),u64 x.1,u64 x.2,a!,a!,a!,a!,a!,a!,a!,a!,a!,a!,a!,a!,a!,a!,a!,a!,a!,a!,a!,a!,a!,a!,a!,a!,a!,a!,a!,a!,a!,a!,a!,a!,a!,a!,a!,a!,a!,a!,a!,a!,a!,a!,a!,a!,a!,a!,a!,a!,a!,a!,a!,a!,a!,a!,a!,a!,a!,a!,a!,a!,a!,a!,a!,a!,a!,a!,a!,a!,a!,a!,a!,a!,a!,a!,a!,a!,a!,a!,a!,a!,a!,a!,a!,a!,a!,a!,a!,a!,a!,a!,a!,a!,a!,a!,a!,a!,a!,a!,a!,a!,a!,a!,a!,a!,a!,a!,a!,a!,a!,a!,a!,a!,a!,a!,a!,a!,a!,a!],[]⟩)
   (λx=>Α Y v w o0 (L / 4294967296) x.1 x.2/\x.1<=4294967297) (λx=>x.1=(o0*4294967296+L / 4294967296) / Y) (λx=>4294967296-x.2) (o0 / v,o0 % v) ?_ ?_ ?_ ?_ (λ_=>by grind[Oi]) ?_
  .exact⟨g.start.resolve_right (by have:=Oah o0 N;have:=F.hYv;have:=F.hYn.2;omega),g.q_le (r:=o0 % v) (by grind[yah])⟩
  .exact At.same _ _ _ B!
  .rintro⟨q,r⟩ _;exact⟨Q? _,by simp[f?,below,u64],p6⟩
  .rintro⟨q,r⟩ ⟨i,c⟩;refine Z.T Ie ?_;simp only at i c;have hrB:=i.hr;have huB:=g.hu;have e0:(4294967296:Int)*(r:Int)=((4294967296*r:Nat):Int):=U
   have e1:aa E? ((4294967296*r:Nat):Int)=((4294967296*r:Nat):Int):=Wb U;have e2:aa E? (((4294967296*r:Nat):Int)+((L / 4294967296:Nat):Int))=((4294967296*r+L / 4294967296:Nat):Int):=by rw[ac9,Wb U]
   have e4:aa E? ((r:Int)+(v:Int))=((r+v:Nat):Int):=by rw[ac9,Wb (by have:=F.hYv;have:=F.hYn.2;omega)]
   have e5:aa E? ((q:Int)*(w:Int))=aa E? ((q*w:Nat):Int):=p6
   have out:∀c1:(4294967296<=q\/4294967296*r+L / 4294967296<q*w),aa E? ((q:Int)-1)=((q-1:Nat):Int)/\(4294967296<=r+v->q-1=(o0*4294967296+L / 4294967296) / Y)/\(r+v<4294967296->Α Y v w o0 (L / 4294967296) (q-1) (r+v)):=λc1=>by
    obtain⟨O,u,k3⟩:=i.less g c1;exact⟨Eae O U,λh=>g.big k3 h U u,λh=>⟨k3,h,u⟩⟩
   by_cases c1:4294967296<=q
   .have b:(4294967296:Int)<=(q:Int):=U
    obtain⟨f,z,A⟩:=out (.inl c1);by_cases c2:4294967296<=r+v
    .have a:(4294967296:Int)<=((r+v:Nat):Int):=U
     simp only[u64,zz,Zm,As,Wm,ts,Ds,Vm,Di,Ym,Xm,Cs,Kc,Vf,Ai,d!,undef,Ee,q',C.Jf,C.va,oa,c!,d?,ba,St.ev,St.put,h!,n!,l?,Fa,pa,qa,Sa,D.ok,D.cells,one,reduceCtorEq,o!,l!,b,f,e4,a];exact⟨(q-1,r+v),z c2,At.same _ _ _ B!⟩
    .have a:¬(4294967296:Int)<=((r+v:Nat):Int):=U
     simp only[u64,zz,Zm,As,Wm,ts,Ds,Vm,Di,Ym,Xm,Cs,Kc,Vf,Ai,d!,undef,Ee,q',C.Jf,C.va,oa,c!,d?,ba,St.ev,St.put,h!,n!,l?,Fa,pa,qa,Sa,D.ok,D.cells,one,reduceCtorEq,o!,l!,b,f,e4,a];exact⟨(q-1,r+v),⟨A U,U⟩,s5,At.same _ _ _ B!⟩
   .have b:¬(4294967296:Int)<=(q:Int):=U
    have e6:aa E? ((q*w:Nat):Int)=((q*w:Nat):Int):=Wb (by
     have:=sah (show q<=4294967295 by omega) (show w<=4294967295 by have:=F.hwB;omega);omega)
    by_cases c3:4294967296*r+L / 4294967296<q*w
    .obtain⟨f,z,A⟩:=out (.inr c3);by_cases c2:4294967296<=r+v
     .have a:(4294967296:Int)<=((r+v:Nat):Int):=U
      simp only[u64,zz,Zm,As,Wm,ts,Ds,Vm,Di,Ym,Xm,Cs,Kc,Vf,Ai,d!,undef,Ee,q',C.Jf,C.va,oa,c!,d?,ba,St.ev,St.put,h!,n!,l?,Fa,pa,qa,Sa,D.ok,D.cells,one,reduceCtorEq,o!,l!,b,f,e0,e1,e2,e4,e5,e6,Gs,c3,a];exact⟨(q-1,r+v),z c2,At.same _ _ _ B!⟩
     .have a:¬(4294967296:Int)<=((r+v:Nat):Int):=U
      simp only[u64,zz,Zm,As,Wm,ts,Ds,Vm,Di,Ym,Xm,Cs,Kc,Vf,Ai,d!,undef,Ee,q',C.Jf,C.va,oa,c!,d?,ba,St.ev,St.put,h!,n!,l?,Fa,pa,qa,Sa,D.ok,D.cells,one,reduceCtorEq,o!,l!,b,f,e0,e1,e2,e4,e5,e6,Gs,c3,a];exact⟨(q-1,r+v),⟨A U,U⟩,s5,At.same _ _ _ B!⟩
    .simp only[u64,zz,Zm,As,Wm,ts,Ds,Vm,Di,Ym,Xm,Cs,Kc,Vf,Ai,d!,undef,Ee,q',C.Jf,C.va,oa,c!,d?,ba,St.ev,St.put,h!,n!,l?,Fa,pa,qa,Sa,D.ok,D.cells,one,reduceCtorEq,o!,l!,b,e0,e1,e2,e4,e5,e6,Gs,c3];exact⟨(q,r),i.done g (eak.1 c3),At.same _ _ _ B!⟩
  .rintro⟨q,r⟩ hq;simp only at hq;obtain⟨Q,hQ⟩:∃Q,(o0*4294967296+L / 4294967296) / Y=Q:=⟨_,rfl⟩;rw[hQ]at hq;subst hq;obtain⟨R,hR⟩:∃R,(o0*4294967296+L / 4294967296) % Y=R:=⟨_,rfl⟩;have H:0<Y:=by have:=F.hYn.1;omega
   have G:R<Y:=by rw[←hR];exact Oah _ H
   have V:=yah (o0*4294967296+L / 4294967296) Y;rw[hQ,hR,Eah]at V;have j:R<18446744073709551616:=Baj G F.hYn.2;have o:Dig Y v w R (L % 4294967296):=⟨F.hYv,g.hv,F.hYn.2,F.hwB,G,Oah _ s6⟩;have O:aa E? ((o0:Int)*4294967296+((L / 4294967296:Nat):Int)-(q:Int)*(Y:Int))=(R:Int):=by
    rw[aP3,show(o0:Int)*4294967296+((L / 4294967296:Nat):Int)-((q*Y:Nat):Int)=(R:Int) by omega,Wb j]
   simp only[zz,Zm,As,Wm,ts,Ds,Vm,Di,Ym,Xm,Cs,Kc,Vf,Ai,d!,undef,Ee,q',C.Jf,C.va,oa,c!,d?,ba,St.ev,St.put,h!,n!,l?,Fa,pa,qa,Sa,D.ok,D.cells,one,reduceCtorEq,o!,l!];refine Z.T Ie ?_;simp only[u64,zz,Zm,As,Wm,ts,Ds,Vm,Di,Ym,Xm,Cs,Kc,Vf,Ai,d!,undef,Ee,q',C.Jf,C.va,oa,c!,d?,ba,St.ev,St.put,h!,n!,l?,Fa,pa,qa,Sa,D.ok,D.cells,one,reduceCtorEq,o!,l!,aA9,O,F.hv0,k R j,l R j,m R j];refine T.zL (X:=Nat×Nat) (λx=>⟨[a!,a!,u64 Y,a!,a!,a!,a!,a!,u64 s,u64 v,u64 w,a!,a!,a!,u64 (L % 4294967296),u64 q,u64 x.2,u64 R,u64 x.1,a!,a!,a!,a!,a!,a!,a!,a!,a!,a!,a!,a!,a!,a!,a!,a!,a!,a!,a!,a!,a!,a!,a!,a!,a!,a!,a!,a!,a!,a!,a!,a!,a!,a!,a!,a!,a!,a!,a!,a!,a!,a!,a!,a!,a!,a!,a!,a!,a!,a!,a!,a!,a!,a!,a!,a!,a!,a!,a!,a!,a!,a!,a!,a!,a!,a!,a!,a!,a!,a!,a!,a!,a!,a!,a!,a!,a!,a!,a!,a!,a!,a!,a!,a!,a!,a!,a!,a!,a!,a!,a!,a!,a!,a!,a!,a!,a!,a!,a!,a!,a!,a!,a!,a!,a!,a!,a!,a!,a!,a!,a!,a!,a!,a!,a!,a!],[]⟩)
    (λx=>Α Y v w R (L % 4294967296) x.1 x.2/\x.1<=4294967297) (λx=>x.1=(R*4294967296+L % 4294967296) / Y) (λx=>4294967296-x.2) (R / v,R % v) ?_ ?_ ?_ ?_ (λ_=>by grind[Oi]) ?_
   .exact⟨o.start.resolve_right (by have:=Oah R N;have:=F.hYv;have:=F.hYn.2;omega),o.q_le (r:=R % v) (by grind[yah])⟩
   .exact At.same _ _ _ B!
   .rintro⟨q,r⟩ _;exact⟨Q? _,by simp[f?,below,u64],p6⟩
   .rintro⟨p,r⟩ ⟨i,c⟩;refine Z.T Ie ?_;simp only at i c;have hrB:=i.hr;have huB:=o.hu;have e0:(4294967296:Int)*(r:Int)=((4294967296*r:Nat):Int):=U
    have e1:aa E? ((4294967296*r:Nat):Int)=((4294967296*r:Nat):Int):=Wb U;have e2:aa E? (((4294967296*r:Nat):Int)+((L % 4294967296:Nat):Int))=((4294967296*r+L % 4294967296:Nat):Int):=by rw[ac9,Wb U]
    have e4:aa E? ((r:Int)+(v:Int))=((r+v:Nat):Int):=by rw[ac9,Wb (by have:=F.hYv;have:=F.hYn.2;omega)]
    have e5:aa E? ((p:Int)*(w:Int))=aa E? ((p*w:Nat):Int):=p6
    have out:∀c1:(4294967296<=p\/4294967296*r+L % 4294967296<p*w),aa E? ((p:Int)-1)=((p-1:Nat):Int)/\(4294967296<=r+v->p-1=(R*4294967296+L % 4294967296) / Y)/\(r+v<4294967296->Α Y v w R (L % 4294967296) (p-1) (r+v)):=λc1=>by
     obtain⟨O,u,k3⟩:=i.less o c1;exact⟨Eae O U,λh=>o.big k3 h U u,λh=>⟨k3,h,u⟩⟩
    by_cases c1:4294967296<=p
    .have b:(4294967296:Int)<=(p:Int):=U
     obtain⟨f,z,A⟩:=out (.inl c1);by_cases c2:4294967296<=r+v
     .have a:(4294967296:Int)<=((r+v:Nat):Int):=U
      simp only[u64,zz,Zm,As,Wm,ts,Ds,Vm,Di,Ym,Xm,Cs,Kc,Vf,Ai,d!,undef,Ee,q',C.Jf,C.va,oa,c!,d?,ba,St.ev,St.put,h!,n!,l?,Fa,pa,qa,Sa,D.ok,D.cells,one,reduceCtorEq,o!,l!,b,f,e4,a];exact⟨(p-1,r+v),z c2,At.same _ _ _ B!⟩
     .have a:¬(4294967296:Int)<=((r+v:Nat):Int):=U
      simp only[u64,zz,Zm,As,Wm,ts,Ds,Vm,Di,Ym,Xm,Cs,Kc,Vf,Ai,d!,undef,Ee,q',C.Jf,C.va,oa,c!,d?,ba,St.ev,St.put,h!,n!,l?,Fa,pa,qa,Sa,D.ok,D.cells,one,reduceCtorEq,o!,l!,b,f,e4,a];exact⟨(p-1,r+v),⟨A U,U⟩,s5,At.same _ _ _ B!⟩
    .have b:¬(4294967296:Int)<=(p:Int):=U
     have e6:aa E? ((p*w:Nat):Int)=((p*w:Nat):Int):=Wb (by
      have:=sah (show p<=4294967295 by omega) (show w<=4294967295 by have:=F.hwB;omega);omega)
     by_cases c3:4294967296*r+L % 4294967296<p*w
     .obtain⟨f,z,A⟩:=out (.inr c3);by_cases c2:4294967296<=r+v
      .have a:(4294967296:Int)<=((r+v:Nat):Int):=U
       simp only[u64,zz,Zm,As,Wm,ts,Ds,Vm,Di,Ym,Xm,Cs,Kc,Vf,Ai,d!,undef,Ee,q',C.Jf,C.va,oa,c!,d?,ba,St.ev,St.put,h!,n!,l?,Fa,pa,qa,Sa,D.ok,D.cells,one,reduceCtorEq,o!,l!,b,f,e0,e1,e2,e4,e5,e6,Gs,c3,a];exact⟨(p-1,r+v),z c2,At.same _ _ _ B!⟩
      .have a:¬(4294967296:Int)<=((r+v:Nat):Int):=U
       simp only[u64,zz,Zm,As,Wm,ts,Ds,Vm,Di,Ym,Xm,Cs,Kc,Vf,Ai,d!,undef,Ee,q',C.Jf,C.va,oa,c!,d?,ba,St.ev,St.put,h!,n!,l?,Fa,pa,qa,Sa,D.ok,D.cells,one,reduceCtorEq,o!,l!,b,f,e0,e1,e2,e4,e5,e6,Gs,c3,a];exact⟨(p-1,r+v),⟨A U,U⟩,s5,At.same _ _ _ B!⟩
     .simp only[u64,zz,Zm,As,Wm,ts,Ds,Vm,Di,Ym,Xm,Cs,Kc,Vf,Ai,d!,undef,Ee,q',C.Jf,C.va,oa,c!,d?,ba,St.ev,St.put,h!,n!,l?,Fa,pa,qa,Sa,D.ok,D.cells,one,reduceCtorEq,o!,l!,b,e0,e1,e2,e4,e5,e6,Gs,c3];exact⟨(p,r),i.done o (eak.1 c3),At.same _ _ _ B!⟩
   .rintro⟨p,r'⟩ P;simp only at P;obtain⟨Q',E⟩:∃Q,(R*4294967296+L % 4294967296) / Y=Q:=⟨_,rfl⟩;have hp1:=o.Q_lt;rw[←P]at hp1;rw[E]at P;subst P;obtain⟨B,hZ⟩:∃B,(R*4294967296+L % 4294967296) % Y=B:=⟨_,rfl⟩;have S:B<Y:=by rw[←hZ];exact Oah _ H
    have I:=yah (R*4294967296+L % 4294967296) Y;rw[E,hZ,Eah]at I;have c:=g.Q_lt;rw[hQ]at c;have u:aa E? ((R:Int)*4294967296+((L % 4294967296:Nat):Int)-(p:Int)*(Y:Int))=(B:Int):=by
     rw[aP3,show(R:Int)*4294967296+((L % 4294967296:Nat):Int)-((p*Y:Nat):Int)=(B:Int) by omega,Wb (Baj S F.hYn.2)]
    have k3:aa E? (aa E? ((q:Int)*4294967296)+(p:Int))=((q*4294967296+p:Nat):Int):=by
     rw[show(q:Int)*4294967296=((q*4294967296:Nat):Int) by omega,Wb U,ac9,Wb U]
    have o4:(hi*18446744073709551616+lo)*2 ^ s=(q*4294967296+p)*(y*2 ^ s)+B:=by
     rw[F.hN,F.hY,Nat.add_mul,Nat.mul_right_comm];omega
    have n6:=aK6 U o4 (by rw[F.hY];omega);simp only[zz,Zm,As,Wm,ts,Ds,Vm,Di,Ym,Xm,Cs,Kc,Vf,Ai,d!,undef,Ee,q',C.Jf,C.va,oa,c!,d?,ba,St.ev,St.put,h!,n!,l?,Fa,pa,qa,Sa,D.ok,D.cells,one,reduceCtorEq,o!,l!];refine Z.T Ie ?_;simp only[u64,zz,Zm,As,Wm,ts,Ds,Vm,Di,Ym,Xm,Cs,Kc,Vf,Ai,d!,undef,Ee,q',C.Jf,C.va,oa,c!,d?,ba,St.ev,St.put,h!,n!,l?,Fa,pa,qa,Sa,D.ok,D.cells,one,reduceCtorEq,o!,l!,aA9,u,k3,faa,F.m1,iY,n6.1,n6.2]
    simp_all[er,zz,fq,zg]
theorem XC{t0 t1 t2:Int}{r:Int×Int}(h:Rf t0 t1 t2=M r):k! al 251 [Ii t0,Ii t1,Ii t2] (.tup [Ii r.1,Ii r.2]):=by
 unfold Rf at h;split at h
 .rename_i hc;obtain⟨x,rfl⟩:∃x:Nat,t0=x:=⟨t0.toNat,U⟩;obtain⟨y,rfl⟩:∃y:Nat,t1=y:=⟨t1.toNat,U⟩;obtain⟨z,rfl⟩:∃z:Nat,t2=z:=⟨t2.toNat,U⟩;obtain rfl:=R' h;have a:=bI2 x y z U U U;have e1:((x:Int)*18446744073709551616+(y:Int)) / (z:Int)=(((x*18446744073709551616+y) / z:Nat):Int):=by
   simp
  have e2:((x:Int)*18446744073709551616+(y:Int)) % (z:Int)=(((x*18446744073709551616+y) % z:Nat):Int):=by
   simp
  dsimp only;rw[e1,e2];exact a
 .cases h
instance {t0 t1 r}:r? (Je t0 t1=M r) (k! al 250 [Ii t0,Ii t1] (.tup [Ii r.1,Ii r.2])):=⟨YC⟩
instance {t0 t1 t2 r}:r? (Rf t0 t1 t2=M r) (k! al 251 [Ii t0,Ii t1,Ii t2] (.tup [Ii r.1,Ii r.2])):=⟨XC⟩
end Go.Proofs.Dev
