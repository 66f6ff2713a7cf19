/-
  Contracts by hand: the conditions stand in each.
-/
import Derived.Test.YtmhfebelfmgckaaGreatDoorC3
import Derived.Test.YtmhfebelfmgckaaGreatDoorPA
import Derived.Test.YtmhfebelfmgckaaGreatDoorK
import Derived.Test.YtmhfebelfmgckaaGreatDoorED
import Derived.Test.YtmhfebelfmgckaaGreatDoorSH
import Derived.Lib.ItoaNum
import Derived.Test.YtmhfebelfmgckaaGreatDoorC0
import Derived.Test.YtmhfebelfmgckaaGreatDoorC1
import Derived.Test.YtmhfebelfmgckaaGreatDoorC2
open Go.Proofs.Tryz renaming prog->al
open Int renaming reduceEq->Jaa,reduceLT->Fab
open List renaming map_cons->cab,replicate->Daa
open Nat renaming div_add_mod->Wab,div_le_self->fac,div_lt_iff_lt_mul->qac,land->Eae,le_antisymm->Uae,le_div_iff_mul_le->zad,lor->caf,lt_of_le_of_lt->vad,lt_trans->Kae,min_eq_left->Vae,mod_lt->hac,mul_comm->Aad,mul_div_mul_right->kae,mul_le_mul->aac,mul_le_mul_right->Zaa,not_lt->iaf,pow_add->wae,reduceAdd->Qaa,reduceEqDiff->rab,reduceSub->Eab,two_pow_pos->Kad,zero_le->pab
open Option.some renaming inj->wab
set_option linter.all false
set_option maxHeartbeats 2000000
set_option maxRecDepth 10000
namespace Go.Proofs.Dev
open Go Go.Tm
def u64(n:Nat):D:=.v (.int .u64 n)
def i64(n:Int):D:=.v (.int .i64 n)
theorem sh32:(2 ^ min (Int.toNat 32) IntKind.u64.bits:Nat)=4294967296:=rfl
theorem andM{x:Nat}(h:x<18446744073709551616):mG Eae .u64 (x:Int) 4294967295=.int .u64 ((x % 4294967296:Nat):Int):=by
 have e1:((x:Int) % JG .u64).toNat=x:=by grind[JG]
 have e2:((4294967295:Int) % JG .u64).toNat=4294967295:=by decide
 unfold mG;rw[e1,e2];have e3:Eae x 4294967295=x % 4294967296:=Nat.and_two_pow_sub_one_eq_mod x 32
 grind[td]
theorem mulN(a b:Nat):(a:Int)*(b:Int)=((a*b:Nat):Int):=(Int.natCast_mul a b).symm
theorem addN(a b:Nat):(a:Int)+(b:Int)=((a+b:Nat):Int):=(Int.natCast_add a b).symm
theorem uT{P:Program}{k:Nat}{vs us:List Value}(b:Tm.Enters P k) (h:∀w,Calls P k vs.toArray w λe w'=>e=.returned (.tuple us.toArray)/\w'=w):Den P k (vs.map .v) (.tup (us.map .v)):=by
 refine λm=>⟨b,λG w a hv hi=>?_⟩;have key:∀(vs us:List Value),VsRel G w (vs.map .v) us->us=vs:=by
  intro vs
  induction vs with
  |nil=>intro us h;simpa [VsRel] using h
  |cons x l c=>
   intro us h;simp only[cab,VsRel,VRel]at h
   grind
 have key2:∀us:List Value,VsRel G w (us.map .v) us:=by
  intro us
  induction us with
  |nil=>simp[VsRel]
  |cons x l c=>simp only[cab,VsRel,VRel];grind
 obtain rfl:=key vs a hv;refine(h w).mono ?_;rintro e w' ⟨rfl,rfl⟩;refine⟨_,_,_,G,rfl,⟨rfl,rfl⟩,?_,hi,Step.refl _ _ _⟩;simp only[VRel]
 simp_all
theorem jE{t0 t1:Int}{r:Int×Int}(h:Ie t0 t1=some r):Den al 387 [Tj t0,Tj t1] (.tup [Tj r.1,Tj r.2]):=by
 unfold Ie at h;split at h
 .rename_i hc;obtain⟨x,rfl⟩:∃x:Nat,t0=x:=⟨t0.toNat,by omega⟩;obtain⟨y,rfl⟩:∃y:Nat,t1=y:=⟨t1.toNat,by omega⟩;obtain rfl:=wab h;have a:=uT (vs:=[.int .u64 x,.int .u64 y]) (us:=[.int .u64 ((x*y / 18446744073709551616:Nat):Int),.int .u64 ((x*y % 18446744073709551616:Nat):Int)]) (WE k387.ok k387.nm) (λw=>Tryz.bits_Mul64 x y (by omega) (by omega) w);have e1:(x:Int)*(y:Int) / 18446744073709551616=((x*y / 18446744073709551616:Nat):Int):=by omega
  have e2:(x:Int)*(y:Int) % 18446744073709551616=((x*y % 18446744073709551616:Nat):Int):=by omega
  dsimp only;rw[e1,e2];exact a
 .cases h
def gV(Y:Nat):Prop:=9223372036854775808<=Y/\Y<18446744073709551616
theorem lz55(y:Nat) (h0:0<y) (c:y<18446744073709551616) (m:List Ent):CallT al 419 [u64 y] m λd m'=>(∃s:Nat,d=i64 s/\s<=63/\gV (y*2 ^ s))/\m'=m:=by
 obtain⟨h1,h2,a⟩:=Lib.bitLenAux_bounds 64 y c (by omega);have h4:Lib.bitLenAux 64 y<=64:=by
  by_cases hc:Lib.bitLenAux 64 y<=64
  .omega
  .have:2 ^ 64<=2 ^ (Lib.bitLenAux 64 y-1):=Nat.pow_le_pow_right (by decide) (by omega);omega
 have b:=IM (vs:=[.int .u64 y]) (WE k419.ok k419.nm) (λw=>Tryz.bits_LeadingZeros64 (y:Int) w (by omega) (by omega));refine(b m).mono ?_;rintro d m' ⟨rfl,rfl⟩;refine⟨⟨64-Lib.bitLenAux 64 y,?_,by omega,?_,?_⟩,rfl⟩
 .grind[i64,Lib.bitLen]
 .have:=Zaa (2 ^ (64-Lib.bitLenAux 64 y)) h2;rw[←wae,show Lib.bitLenAux 64 y-1+(64-Lib.bitLenAux 64 y)=63 by omega]at this;omega
 .have:=Nat.mul_lt_mul_of_pos_right a (Kad (64-Lib.bitLenAux 64 y));rw[←wae,show Lib.bitLenAux 64 y+(64-Lib.bitLenAux 64 y)=64 by omega]at this;omega
theorem R4(n:Nat):decide ((n:Int)<0)=false:=by simp
theorem lor64{a b s:Nat}(hb:b<2 ^ s) (h:2 ^ s*a+b<18446744073709551616):mG caf .u64 ((2 ^ s*a:Nat):Int) (b:Int)=.int .u64 ((2 ^ s*a+b:Nat):Int):=by
 have e1:(((2 ^ s*a:Nat):Int) % JG .u64).toNat=2 ^ s*a:=by grind[JG]
 have e2:((b:Int) % JG .u64).toNat=b:=by grind[JG]
 unfold mG;rw[e1,e2];have e3:caf (2 ^ s*a) b=2 ^ s*a+b:=(Nat.two_pow_add_eq_or_of_lt hb a).symm
 grind[td]
theorem scaled{N y s q R:Nat}(hy:0<y) (h:N*2 ^ s=q*(y*2 ^ s)+R) (hR:R<y*2 ^ s):N / y=q/\N % y=R / 2 ^ s:=by
 have hp:=Kad s;have h1:N*2 ^ s / (y*2 ^ s)=q:=by
  simp_all[Nat.add_comm,Nat.add_mul_div_right]
 grind[Nat.add_mul_mod_self_right,Nat.mod_eq_of_lt,kae,Nat.mul_mod_mul_right,Nat.mul_div_cancel]
theorem wrap3(a b c:Int):aa .u64 (aa .u64 (aa .u64 a+b)-aa .u64 c)=aa .u64 (a+b-c):=by
 grind[aa]
structure DivF (hi lo y s Y v w e U L:Nat):Prop where
 hY:y*2 ^ s=Y
 hYn:gV Y
 hYv:Y=4294967296*v+w
 hwB:w<4294967296
 hU:2 ^ s*hi+e=U
 hUY:U<Y
 hLM:L<18446744073709551616
 hN:(hi*18446744073709551616+lo)*2 ^ s=U*18446744073709551616+L
 he:lo / 2 ^ (64-s)=e
 hv:Y / 4294967296=v
 hv0:¬(v:Int)=0
 m1:min s IntKind.u64.bits=s
 m2:min (64-s) IntKind.u64.bits=64-s
 f1:aa .u64 (s:Int)=(s:Int)
 f2:aa .u64 ((y:Int)*((2 ^ s:Nat):Int))=(Y:Int)
 f3:aa .u64 ((hi:Int)*((2 ^ s:Nat):Int))=((2 ^ s*hi:Nat):Int)
 f4:aa .u64 (64-(s:Int))=((64-s:Nat):Int)
 f6:mG caf .u64 ((2 ^ s*hi:Nat):Int) (e:Int)=.int .u64 (U:Int)
 f7:aa .u64 ((lo:Int)*((2 ^ s:Nat):Int))=(L:Int)
 f8:mG Eae .u64 (Y:Int) 4294967295=.int .u64 (w:Int)
 f9:mG Eae .u64 (L:Int) 4294967295=.int .u64 ((L % 4294967296:Nat):Int)
theorem VX(hi lo y s:Nat) (b:hi<y) (hlo:lo<18446744073709551616) (s2:s<=63) (a:gV (y*2 ^ s)):∃Y v w e U L,DivF hi lo y s Y v w e U L:=by
 simp only[gV]at a;obtain⟨Y,hY⟩:∃Y,y*2 ^ s=Y:=⟨_,rfl⟩;rw[hY]at a;obtain⟨v,hv⟩:∃v,Y / 4294967296=v:=⟨_,rfl⟩;obtain⟨w,hw⟩:∃w,Y % 4294967296=w:=⟨_,rfl⟩;have hYv:Y=4294967296*v+w:=by omega
 have hwB:w<4294967296:=by omega
 have hv0:¬(v:Int)=0:=by omega
 have m1:min s IntKind.u64.bits=s:=Vae (by show s<=64;omega);have m2:min (64-s) IntKind.u64.bits=64-s:=Vae (by show 64-s<=64;omega);obtain⟨e,he⟩:∃e,lo / 2 ^ (64-s)=e:=⟨_,rfl⟩;have hes:e<2 ^ s:=by
  rw[←he,qac (Kad _),←wae,show s+(64-s)=64 by omega];omega
 have hhs:2 ^ s*hi+2 ^ s<=Y:=by
  rw[←hY,←Nat.mul_succ,Aad];exact Zaa _ b
 obtain⟨U,hU⟩:∃U,2 ^ s*hi+e=U:=⟨_,rfl⟩;have hUY:U<Y:=by omega
 obtain⟨L,hL⟩:∃L,lo*2 ^ s % 18446744073709551616=L:=⟨_,rfl⟩;have hLM:L<18446744073709551616:=by omega
 have hloe:lo*2 ^ s=e*18446744073709551616+L:=by
  have h1:lo*2 ^ s / 18446744073709551616=e:=by
   rw[←he,show(18446744073709551616:Nat)=2 ^ (64-s)*2 ^ s by rw[←wae,show 64-s+s=64 by omega],kae _ _ (Kad s)]
  omega
 have hN:(hi*18446744073709551616+lo)*2 ^ s=U*18446744073709551616+L:=by
  grind
 have f1:aa .u64 (s:Int)=(s:Int):=td (by omega);have f2:aa .u64 ((y:Int)*((2 ^ s:Nat):Int))=(Y:Int):=by grind[td]
 have f3:aa .u64 ((hi:Int)*((2 ^ s:Nat):Int))=((2 ^ s*hi:Nat):Int):=by grind[Aad,td]
 have f4:aa .u64 (64-(s:Int))=((64-s:Nat):Int):=by grind[td]
 have f6:mG caf .u64 ((2 ^ s*hi:Nat):Int) (e:Int)=.int .u64 (U:Int):=by grind[lor64]
 have f7:aa .u64 ((lo:Int)*((2 ^ s:Nat):Int))=(L:Int):=by grind[aa]
 have f8:=andM (x:=Y) a.2;have f9:=andM (x:=L) hLM;rw[hw]at f8;exact⟨Y,v,w,e,U,L,⟨hY,a,hYv,hwB,hU,hUY,hLM,hN,he,hv,hv0,m1,m2,f1,f2,f3,f4,f6,f7,f8,f9⟩⟩
structure Dig (Y v w U u:Nat):Prop where
 hY:Y=4294967296*v+w
 hv:2147483648<=v
 hYM:Y<18446744073709551616
 hw:w<4294967296
 hU:U<Y
 hu:u<4294967296
structure Guess (Y v w U u q r:Nat):Prop where
 hP:q*v+r=U
 hr:r<4294967296
 hQ:(U*4294967296+u) / Y<=q
section
variable {Y v w U u q r:Nat}
theorem Dig.mulY(D:Dig Y v w U u) (q:Nat):q*Y=4294967296*(q*v)+q*w:=by
 rw[D.hY,Nat.mul_add,Nat.mul_left_comm]
theorem Dig.Q_lt(D:Dig Y v w U u):(U*4294967296+u) / Y<4294967296:=by
 have h:=D.hU;have h1:=D.hu;have h2:=D.hv;have h3:=D.hY;rw[qac (by omega)];omega
theorem Dig.q_le(D:Dig Y v w U u) {q r:Nat}(h:q*v+r=U):q<=4294967297:=by
 have h0:=D.hU;have h1:=D.hw;have h2:=D.hv;have h3:=D.hY;have:q*v<4294967298*v:=by omega
 have:=Nat.lt_of_mul_lt_mul_right this;omega
theorem Dig.start(D:Dig Y v w U u):Guess Y v w U u (U / v) (U % v)\/(4294967296<=U % v):=by
 have h0:=D.hU;have h1:=D.hw;have h2:=D.hv;have h3:=D.hY;have h4:=D.hYM;have a:0<v:=by omega
 left;have hm:=hac U a;have hd:U / v*v+U % v=U:=by grind[Wab]
 refine⟨hd,by omega,?_⟩;rw[Nat.div_le_iff_le_mul_add_pred (by omega)];have e:=D.mulY (U / v);rw[Aad]at e;rw[e];have h5:=D.hu;omega
theorem Guess.less(D:Dig Y v w U u) (G:Guess Y v w U u q r) (h:4294967296<=q\/4294967296*r+u<q*w):1<=q/\(U*4294967296+u) / Y<=q-1/\(q-1)*v+(r+v)=U:=by
 have a:(U*4294967296+u) / Y<q:=by
  rcases h with h|h
  .exact Nat.lt_of_lt_of_le D.Q_lt h
  .have b:=D.hY;have h2:=D.hv;rw[qac (by omega),D.mulY];have:=G.hP;omega
 have b:1<=q:=vad (pab _) a;refine⟨b,Nat.le_sub_one_of_lt a,?_⟩;have e:q*v=(q-1)*v+v:=by rw[←Nat.succ_mul];simp_all
 have:=G.hP;omega
theorem Guess.done(D:Dig Y v w U u) (G:Guess Y v w U u q r) (h:q*w<=4294967296*r+u):q=(U*4294967296+u) / Y:=by
 refine Uae ?_ G.hQ;have h1:=D.hY;have h2:=D.hv;rw[zad (by omega),D.mulY];have:=G.hP;omega
theorem Dig.big(D:Dig Y v w U u) (hP:q*v+r=U) (hr:4294967296<=r) (hq:q<=4294967296) (hQ:(U*4294967296+u) / Y<=q):q=(U*4294967296+u) / Y:=by
 refine Uae ?_ hQ;have h1:=D.hY;have h2:=D.hv;have h3:=D.hw;rw[zad (by omega),D.mulY];have:=aac hq (show w<=4294967296 by omega);omega
end
theorem wrapM1{q:Nat}(h1:1<=q) (h2:q<18446744073709551616):aa .u64 ((q:Int)-1)=((q-1:Nat):Int):=by
 grind[td]
theorem div48(hi lo y:Nat) (hhi:hi<y) (O:lo<18446744073709551616) (hy:y<18446744073709551616) :
 Den al 388 [u64 hi,u64 lo,u64 y] (.tup [u64 ((hi*18446744073709551616+lo) / y),u64 ((hi*18446744073709551616+lo) % y)]):=by
 have f:¬(y:Int)=0:=by omega
 have k:¬(y:Int)<=(hi:Int):=by omega
 simp only[u64];by_cases h0:hi=0
 .subst h0;have a:¬(y:Int)<=0:=by omega
  have hlq:lo / y<18446744073709551616:=vad (fac _ _) O;have q1:aa .u64 (Int.tdiv (lo:Int) (y:Int))=((lo / y:Nat):Int):=td hlq;have q2:Int.tmod (lo:Int) (y:Int)=((lo % y:Nat):Int):=rfl;refine dk (hf:=rfl) 132 k388 ?_;simp only[k388,Kf.of,zs,ze];refine Z.T Xx ?_;simp only[f,a,V3,q1,q2,Nat.zero_mul,Nat.zero_add,zz,zp,xv,tp,wv,zv,rp,fk,yp,xp,yv,od,lh,ck,leaves,undef,gB,Fab,C.TI,C.vn,Kc,contents,gate,fa,St.ev,St.put,Daa,Eab,Qaa,Yh,qd,Db,Zx,D.ok,D.cells,one,reduceCtorEq,rab,Jaa]
  simp_all[er,zz,fq,zg]
 .have c:¬(hi:Int)=0:=by omega
  refine dk (hf:=rfl) 132 k388 ?_;simp only[k388,Kf.of,zs,ze];refine Z.T Xx ?_;simp only[f,k,c,zz,zp,xv,tp,wv,zv,rp,fk,yp,xp,yv,od,lh,ck,leaves,undef,gB,Fab,C.TI,C.vn,Kc,contents,gate,fa,St.ev,St.put,Daa,Eab,Qaa,Yh,qd,Db,Zx,D.ok,D.cells,one,reduceCtorEq,rab,Jaa];refine oz (lz55 y (by omega) hy _) ?_;intro d m' hh;obtain⟨⟨s,hd,s2,s3⟩,hm'⟩:=hh;obtain⟨Y,v,w,e,U,L,F⟩:=VX hi lo y s hhi O s2 s3;have j:Dig Y v w U (L / 4294967296):=⟨F.hYv,by have:=F.hYn.1;have:=F.hYv;have:=F.hwB;omega,F.hYn.2,F.hwB,F.hUY,by have:=F.hLM;omega⟩;have hvM:v<18446744073709551616:=by have:=F.hYv;have:=F.hYn.2;omega
  have A:U<18446744073709551616:=Kae F.hUY F.hYn.2;have S:0<v:=by have:=j.hv;omega
  have o:∀n:Nat,n<18446744073709551616->aa .u64 (Int.tdiv (n:Int) (v:Int))=((n / v:Nat):Int):=λn hn=>td (vad (fac _ _) hn);have t:∀n:Nat,n<18446744073709551616->aa .u64 (((n / v:Nat):Int)*(v:Int))=((n / v*v:Nat):Int):=λn hn=>by rw[mulN,td (vad (Nat.div_mul_le_self _ _) hn)]
  have u:∀n:Nat,n<18446744073709551616->aa .u64 ((n:Int)-((n / v*v:Nat):Int))=((n % v:Nat):Int):=λn hn=>by
   have:=Wab n v;grind[td]
  have g1:=o U A;have g2:=t U A;have g3:=u U A;simp only[hd,hm',zz,zp,xv,tp,wv,zv,rp,fk,yp,xp,yv,od,lh,ck,leaves,undef,gB,Fab,C.TI,C.vn,Kc,contents,gate,fa,St.ev,St.put,Daa,Eab,Qaa,Yh,qd,Db,Zx,D.ok,D.cells,one,reduceCtorEq,rab,Jaa,i64,R4,F.m1,F.m2,F.f1,F.f2,F.f3,F.f4,fdivN,F.he,F.f6,F.f7,F.f8,F.f9,sh32,F.hv,F.hv0,g1,g2,g3,V3];refine T.NP (X:=Nat×Nat) (λx=>⟨[.dead,.dead,u64 Y,.dead,.dead,.dead,.dead,.dead,u64 s,u64 v,u64 w,u64 U,.dead,u64 (L / 4294967296),u64 (L % 4294967296),u64 x.1,u64 x.2,.dead,.dead,.dead,.dead,.dead,.dead,.dead,.dead,.dead,.dead,.dead,.dead,.dead,.dead,.dead,.dead,.dead,.dead,.dead,.dead,.dead,.dead,.dead,.dead,.dead,.dead,.dead,.dead,.dead,.dead,.dead,.dead,.dead,.dead,.dead,.dead,.dead,.dead,.dead,.dead,.dead,.dead,.dead,.dead,.dead,.dead,.dead,.dead,.dead,.dead,.dead,.dead,.dead,.dead,.dead,.dead,.dead,.dead,.dead,.dead,.dead,.dead,.dead,.dead,.dead,.dead,.dead,.dead,.dead,.dead,.dead,.dead,.dead,.dead,.dead,.dead,.dead,.dead,.dead,.dead,.dead,.dead,.dead,.dead,.dead,.dead,.dead,.dead,.dead,.dead,.dead,.dead,.dead,.dead,.dead,.dead,.dead,.dead,.dead,.dead,.dead,.dead,.dead,.dead,.dead,.dead,.dead,.dead,.dead,.dead,.dead,.dead,.dead,.dead,.dead,.dead,.dead,.dead],[]⟩)
   (λx=>Guess Y v w U (L / 4294967296) x.1 x.2/\x.1<=4294967297) (λx=>x.1=(U*4294967296+L / 4294967296) / Y) (λx=>4294967296-x.2) (U / v,U % v) ?_ ?_ ?_ ?_ (λ_=>by grind[oC]) ?_
  .exact⟨j.start.resolve_right (by have:=hac U S;have:=F.hYv;have:=F.hYn.2;omega),j.q_le (r:=U % v) (by grind[Wab])⟩
  .exact At.same _ _ _ (by repeat (first|exact xa.Dc _|refine xa.cons (Sub.refl _) ?_|refine xa.cons (Sub.sb _) ?_))
  .rintro⟨q,r⟩ _;exact⟨pab _,by simp[belows,below,u64],by simp⟩
  .rintro⟨q,r⟩ ⟨l,g⟩;refine Z.T Xx ?_;simp only at l g;have hrB:=l.hr;have huB:=j.hu;have e0:(4294967296:Int)*(r:Int)=((4294967296*r:Nat):Int):=by omega
   have e1:aa .u64 ((4294967296*r:Nat):Int)=((4294967296*r:Nat):Int):=td (by omega);have e2:aa .u64 (((4294967296*r:Nat):Int)+((L / 4294967296:Nat):Int))=((4294967296*r+L / 4294967296:Nat):Int):=by rw[addN,td (by omega)]
   have e4:aa .u64 ((r:Int)+(v:Int))=((r+v:Nat):Int):=by rw[addN,td (by have:=F.hYv;have:=F.hYn.2;omega)]
   have e5:aa .u64 ((q:Int)*(w:Int))=aa .u64 ((q*w:Nat):Int):=by simp
   have out:∀f:(4294967296<=q\/4294967296*r+L / 4294967296<q*w),aa .u64 ((q:Int)-1)=((q-1:Nat):Int)/\(4294967296<=r+v->q-1=(U*4294967296+L / 4294967296) / Y)/\(r+v<4294967296->Guess Y v w U (L / 4294967296) (q-1) (r+v)):=λf=>by
    obtain⟨V,B,k3⟩:=l.less j f;exact⟨wrapM1 V (by omega),λh=>j.big k3 h (by omega) B,λh=>⟨k3,h,B⟩⟩
   by_cases f:4294967296<=q
   .have b:(4294967296:Int)<=(q:Int):=by omega
    obtain⟨i,E,G⟩:=out (.inl f);by_cases k:4294967296<=r+v
    .have a:(4294967296:Int)<=((r+v:Nat):Int):=by omega
     simp only[u64,zz,zp,xv,tp,wv,zv,rp,fk,yp,xp,yv,od,lh,ck,leaves,undef,gB,Fab,C.TI,C.vn,Kc,contents,gate,fa,St.ev,St.put,Daa,Eab,Qaa,Yh,qd,Db,Zx,D.ok,D.cells,one,reduceCtorEq,rab,Jaa,b,i,e4,a];exact⟨(q-1,r+v),E k,At.same _ _ _ (by repeat (first|exact xa.Dc _|refine xa.cons (Sub.refl _) ?_|refine xa.cons (Sub.sb _) ?_))⟩
    .have a:¬(4294967296:Int)<=((r+v:Nat):Int):=by omega
     simp only[u64,zz,zp,xv,tp,wv,zv,rp,fk,yp,xp,yv,od,lh,ck,leaves,undef,gB,Fab,C.TI,C.vn,Kc,contents,gate,fa,St.ev,St.put,Daa,Eab,Qaa,Yh,qd,Db,Zx,D.ok,D.cells,one,reduceCtorEq,rab,Jaa,b,i,e4,a];exact⟨(q-1,r+v),⟨G (by omega),by omega⟩,by grind,At.same _ _ _ (by repeat (first|exact xa.Dc _|refine xa.cons (Sub.refl _) ?_|refine xa.cons (Sub.sb _) ?_))⟩
   .have b:¬(4294967296:Int)<=(q:Int):=by omega
    have e6:aa .u64 ((q*w:Nat):Int)=((q*w:Nat):Int):=td (by
     have:=aac (show q<=4294967295 by omega) (show w<=4294967295 by have:=F.hwB;omega);omega)
    by_cases c:4294967296*r+L / 4294967296<q*w
    .obtain⟨i,E,G⟩:=out (.inr c);by_cases k:4294967296<=r+v
     .have a:(4294967296:Int)<=((r+v:Nat):Int):=by omega
      simp only[u64,zz,zp,xv,tp,wv,zv,rp,fk,yp,xp,yv,od,lh,ck,leaves,undef,gB,Fab,C.TI,C.vn,Kc,contents,gate,fa,St.ev,St.put,Daa,Eab,Qaa,Yh,qd,Db,Zx,D.ok,D.cells,one,reduceCtorEq,rab,Jaa,b,i,e0,e1,e2,e4,e5,e6,kN,c,a];exact⟨(q-1,r+v),E k,At.same _ _ _ (by repeat (first|exact xa.Dc _|refine xa.cons (Sub.refl _) ?_|refine xa.cons (Sub.sb _) ?_))⟩
     .have a:¬(4294967296:Int)<=((r+v:Nat):Int):=by omega
      simp only[u64,zz,zp,xv,tp,wv,zv,rp,fk,yp,xp,yv,od,lh,ck,leaves,undef,gB,Fab,C.TI,C.vn,Kc,contents,gate,fa,St.ev,St.put,Daa,Eab,Qaa,Yh,qd,Db,Zx,D.ok,D.cells,one,reduceCtorEq,rab,Jaa,b,i,e0,e1,e2,e4,e5,e6,kN,c,a];exact⟨(q-1,r+v),⟨G (by omega),by omega⟩,by grind,At.same _ _ _ (by repeat (first|exact xa.Dc _|refine xa.cons (Sub.refl _) ?_|refine xa.cons (Sub.sb _) ?_))⟩
    .simp only[u64,zz,zp,xv,tp,wv,zv,rp,fk,yp,xp,yv,od,lh,ck,leaves,undef,gB,Fab,C.TI,C.vn,Kc,contents,gate,fa,St.ev,St.put,Daa,Eab,Qaa,Yh,qd,Db,Zx,D.ok,D.cells,one,reduceCtorEq,rab,Jaa,b,e0,e1,e2,e4,e5,e6,kN,c];exact⟨(q,r),l.done j (iaf.1 c),At.same _ _ _ (by repeat (first|exact xa.Dc _|refine xa.cons (Sub.refl _) ?_|refine xa.cons (Sub.sb _) ?_))⟩
  .rintro⟨q,r⟩ hq;simp only at hq;obtain⟨Q,hQ⟩:∃Q,(U*4294967296+L / 4294967296) / Y=Q:=⟨_,rfl⟩;rw[hQ]at hq;subst hq;obtain⟨R,hR⟩:∃R,(U*4294967296+L / 4294967296) % Y=R:=⟨_,rfl⟩;have K:0<Y:=by have:=F.hYn.1;omega
   have J:R<Y:=by rw[←hR];exact hac _ K
   have hdm:=Wab (U*4294967296+L / 4294967296) Y;rw[hQ,hR,Aad]at hdm;have m:R<18446744073709551616:=Kae J F.hYn.2;have z:Dig Y v w R (L % 4294967296):=⟨F.hYv,j.hv,F.hYn.2,F.hwB,J,hac _ (by decide)⟩;have V:aa .u64 ((U:Int)*4294967296+((L / 4294967296:Nat):Int)-(q:Int)*(Y:Int))=(R:Int):=by
    rw[mulN,show(U:Int)*4294967296+((L / 4294967296:Nat):Int)-((q*Y:Nat):Int)=(R:Int) by omega,td m]
   simp only[zz,zp,xv,tp,wv,zv,rp,fk,yp,xp,yv,od,lh,ck,leaves,undef,gB,Fab,C.TI,C.vn,Kc,contents,gate,fa,St.ev,St.put,Daa,Eab,Qaa,Yh,qd,Db,Zx,D.ok,D.cells,one,reduceCtorEq,rab,Jaa];refine Z.T Xx ?_;simp only[u64,zz,zp,xv,tp,wv,zv,rp,fk,yp,xp,yv,od,lh,ck,leaves,undef,gB,Fab,C.TI,C.vn,Kc,contents,gate,fa,St.ev,St.put,Daa,Eab,Qaa,Yh,qd,Db,Zx,D.ok,D.cells,one,reduceCtorEq,rab,Jaa,wrap3,V,F.hv0,o R m,t R m,u R m];refine T.NP (X:=Nat×Nat) (λx=>⟨[.dead,.dead,u64 Y,.dead,.dead,.dead,.dead,.dead,u64 s,u64 v,u64 w,.dead,.dead,.dead,u64 (L % 4294967296),u64 q,u64 x.2,u64 R,u64 x.1,.dead,.dead,.dead,.dead,.dead,.dead,.dead,.dead,.dead,.dead,.dead,.dead,.dead,.dead,.dead,.dead,.dead,.dead,.dead,.dead,.dead,.dead,.dead,.dead,.dead,.dead,.dead,.dead,.dead,.dead,.dead,.dead,.dead,.dead,.dead,.dead,.dead,.dead,.dead,.dead,.dead,.dead,.dead,.dead,.dead,.dead,.dead,.dead,.dead,.dead,.dead,.dead,.dead,.dead,.dead,.dead,.dead,.dead,.dead,.dead,.dead,.dead,.dead,.dead,.dead,.dead,.dead,.dead,.dead,.dead,.dead,.dead,.dead,.dead,.dead,.dead,.dead,.dead,.dead,.dead,.dead,.dead,.dead,.dead,.dead,.dead,.dead,.dead,.dead,.dead,.dead,.dead,.dead,.dead,.dead,.dead,.dead,.dead,.dead,.dead,.dead,.dead,.dead,.dead,.dead,.dead,.dead,.dead,.dead,.dead,.dead,.dead,.dead,.dead,.dead,.dead],[]⟩)
    (λx=>Guess Y v w R (L % 4294967296) x.1 x.2/\x.1<=4294967297) (λx=>x.1=(R*4294967296+L % 4294967296) / Y) (λx=>4294967296-x.2) (R / v,R % v) ?_ ?_ ?_ ?_ (λ_=>by grind[oC]) ?_
   .exact⟨z.start.resolve_right (by have:=hac R S;have:=F.hYv;have:=F.hYn.2;omega),z.q_le (r:=R % v) (by grind[Wab])⟩
   .exact At.same _ _ _ (by repeat (first|exact xa.Dc _|refine xa.cons (Sub.refl _) ?_|refine xa.cons (Sub.sb _) ?_))
   .rintro⟨q,r⟩ _;exact⟨pab _,by simp[belows,below,u64],by simp⟩
   .rintro⟨p,r⟩ ⟨l,g⟩;refine Z.T Xx ?_;simp only at l g;have hrB:=l.hr;have huB:=z.hu;have e0:(4294967296:Int)*(r:Int)=((4294967296*r:Nat):Int):=by omega
    have e1:aa .u64 ((4294967296*r:Nat):Int)=((4294967296*r:Nat):Int):=td (by omega);have e2:aa .u64 (((4294967296*r:Nat):Int)+((L % 4294967296:Nat):Int))=((4294967296*r+L % 4294967296:Nat):Int):=by rw[addN,td (by omega)]
    have e4:aa .u64 ((r:Int)+(v:Int))=((r+v:Nat):Int):=by rw[addN,td (by have:=F.hYv;have:=F.hYn.2;omega)]
    have e5:aa .u64 ((p:Int)*(w:Int))=aa .u64 ((p*w:Nat):Int):=by simp
    have out:∀f:(4294967296<=p\/4294967296*r+L % 4294967296<p*w),aa .u64 ((p:Int)-1)=((p-1:Nat):Int)/\(4294967296<=r+v->p-1=(R*4294967296+L % 4294967296) / Y)/\(r+v<4294967296->Guess Y v w R (L % 4294967296) (p-1) (r+v)):=λf=>by
     obtain⟨V,B,k3⟩:=l.less z f;exact⟨wrapM1 V (by omega),λh=>z.big k3 h (by omega) B,λh=>⟨k3,h,B⟩⟩
    by_cases f:4294967296<=p
    .have b:(4294967296:Int)<=(p:Int):=by omega
     obtain⟨i,E,G⟩:=out (.inl f);by_cases k:4294967296<=r+v
     .have a:(4294967296:Int)<=((r+v:Nat):Int):=by omega
      simp only[u64,zz,zp,xv,tp,wv,zv,rp,fk,yp,xp,yv,od,lh,ck,leaves,undef,gB,Fab,C.TI,C.vn,Kc,contents,gate,fa,St.ev,St.put,Daa,Eab,Qaa,Yh,qd,Db,Zx,D.ok,D.cells,one,reduceCtorEq,rab,Jaa,b,i,e4,a];exact⟨(p-1,r+v),E k,At.same _ _ _ (by repeat (first|exact xa.Dc _|refine xa.cons (Sub.refl _) ?_|refine xa.cons (Sub.sb _) ?_))⟩
     .have a:¬(4294967296:Int)<=((r+v:Nat):Int):=by omega
      simp only[u64,zz,zp,xv,tp,wv,zv,rp,fk,yp,xp,yv,od,lh,ck,leaves,undef,gB,Fab,C.TI,C.vn,Kc,contents,gate,fa,St.ev,St.put,Daa,Eab,Qaa,Yh,qd,Db,Zx,D.ok,D.cells,one,reduceCtorEq,rab,Jaa,b,i,e4,a];exact⟨(p-1,r+v),⟨G (by omega),by omega⟩,by grind,At.same _ _ _ (by repeat (first|exact xa.Dc _|refine xa.cons (Sub.refl _) ?_|refine xa.cons (Sub.sb _) ?_))⟩
    .have b:¬(4294967296:Int)<=(p:Int):=by omega
     have e6:aa .u64 ((p*w:Nat):Int)=((p*w:Nat):Int):=td (by
      have:=aac (show p<=4294967295 by omega) (show w<=4294967295 by have:=F.hwB;omega);omega)
     by_cases c:4294967296*r+L % 4294967296<p*w
     .obtain⟨i,E,G⟩:=out (.inr c);by_cases k:4294967296<=r+v
      .have a:(4294967296:Int)<=((r+v:Nat):Int):=by omega
       simp only[u64,zz,zp,xv,tp,wv,zv,rp,fk,yp,xp,yv,od,lh,ck,leaves,undef,gB,Fab,C.TI,C.vn,Kc,contents,gate,fa,St.ev,St.put,Daa,Eab,Qaa,Yh,qd,Db,Zx,D.ok,D.cells,one,reduceCtorEq,rab,Jaa,b,i,e0,e1,e2,e4,e5,e6,kN,c,a];exact⟨(p-1,r+v),E k,At.same _ _ _ (by repeat (first|exact xa.Dc _|refine xa.cons (Sub.refl _) ?_|refine xa.cons (Sub.sb _) ?_))⟩
      .have a:¬(4294967296:Int)<=((r+v:Nat):Int):=by omega
       simp only[u64,zz,zp,xv,tp,wv,zv,rp,fk,yp,xp,yv,od,lh,ck,leaves,undef,gB,Fab,C.TI,C.vn,Kc,contents,gate,fa,St.ev,St.put,Daa,Eab,Qaa,Yh,qd,Db,Zx,D.ok,D.cells,one,reduceCtorEq,rab,Jaa,b,i,e0,e1,e2,e4,e5,e6,kN,c,a];exact⟨(p-1,r+v),⟨G (by omega),by omega⟩,by grind,At.same _ _ _ (by repeat (first|exact xa.Dc _|refine xa.cons (Sub.refl _) ?_|refine xa.cons (Sub.sb _) ?_))⟩
     .simp only[u64,zz,zp,xv,tp,wv,zv,rp,fk,yp,xp,yv,od,lh,ck,leaves,undef,gB,Fab,C.TI,C.vn,Kc,contents,gate,fa,St.ev,St.put,Daa,Eab,Qaa,Yh,qd,Db,Zx,D.ok,D.cells,one,reduceCtorEq,rab,Jaa,b,e0,e1,e2,e4,e5,e6,kN,c];exact⟨(p,r),l.done z (iaf.1 c),At.same _ _ _ (by repeat (first|exact xa.Dc _|refine xa.cons (Sub.refl _) ?_|refine xa.cons (Sub.sb _) ?_))⟩
   .rintro⟨p,r'⟩ W;simp only at W;obtain⟨Q',I⟩:∃Q,(R*4294967296+L % 4294967296) / Y=Q:=⟨_,rfl⟩;have hp1:=z.Q_lt;rw[←W]at hp1;rw[I]at W;subst W;obtain⟨H,hZ⟩:∃H,(R*4294967296+L % 4294967296) % Y=H:=⟨_,rfl⟩;have hZY:H<Y:=by rw[←hZ];exact hac _ K
    have M:=Wab (R*4294967296+L % 4294967296) Y;rw[I,hZ,Aad]at M;have g:=j.Q_lt;rw[hQ]at g;have B:aa .u64 ((R:Int)*4294967296+((L % 4294967296:Nat):Int)-(p:Int)*(Y:Int))=(H:Int):=by
     rw[mulN,show(R:Int)*4294967296+((L % 4294967296:Nat):Int)-((p*Y:Nat):Int)=(H:Int) by omega,td (Kae hZY F.hYn.2)]
    have k3:aa .u64 (aa .u64 ((q:Int)*4294967296)+(p:Int))=((q*4294967296+p:Nat):Int):=by
     rw[show(q:Int)*4294967296=((q*4294967296:Nat):Int) by omega,td (by omega),addN,td (by omega)]
    have N:(hi*18446744073709551616+lo)*2 ^ s=(q*4294967296+p)*(y*2 ^ s)+H:=by
     rw[F.hN,F.hY,Nat.add_mul,Nat.mul_right_comm];omega
    have P:=scaled (by omega) N (by rw[F.hY];omega);simp only[zz,zp,xv,tp,wv,zv,rp,fk,yp,xp,yv,od,lh,ck,leaves,undef,gB,Fab,C.TI,C.vn,Kc,contents,gate,fa,St.ev,St.put,Daa,Eab,Qaa,Yh,qd,Db,Zx,D.ok,D.cells,one,reduceCtorEq,rab,Jaa];refine Z.T Xx ?_;simp only[u64,zz,zp,xv,tp,wv,zv,rp,fk,yp,xp,yv,od,lh,ck,leaves,undef,gB,Fab,C.TI,C.vn,Kc,contents,gate,fa,St.ev,St.put,Daa,Eab,Qaa,Yh,qd,Db,Zx,D.ok,D.cells,one,reduceCtorEq,rab,Jaa,wrap3,B,k3,R4,F.m1,fdivN,P.1,P.2]
    simp_all[er,zz,fq,zg]
theorem iE{t0 t1 t2:Int}{r:Int×Int}(h:ig t0 t1 t2=some r):Den al 388 [Tj t0,Tj t1,Tj t2] (.tup [Tj r.1,Tj r.2]):=by
 unfold ig at h;split at h
 .rename_i hc;obtain⟨x,rfl⟩:∃x:Nat,t0=x:=⟨t0.toNat,by omega⟩;obtain⟨y,rfl⟩:∃y:Nat,t1=y:=⟨t1.toNat,by omega⟩;obtain⟨z,rfl⟩:∃z:Nat,t2=z:=⟨t2.toNat,by omega⟩;obtain rfl:=wab h;have a:=div48 x y z (by omega) (by omega) (by omega);have e1:((x:Int)*18446744073709551616+(y:Int)) / (z:Int)=(((x*18446744073709551616+y) / z:Nat):Int):=by
   simp
  have e2:((x:Int)*18446744073709551616+(y:Int)) % (z:Int)=(((x*18446744073709551616+y) % z:Nat):Int):=by
   simp
  dsimp only;rw[e1,e2];exact a
 .cases h
instance {t0 t1 r}:Con (Ie t0 t1=some r) (Den al 387 [Tj t0,Tj t1] (.tup [Tj r.1,Tj r.2])):=⟨jE⟩
instance {t0 t1 t2 r}:Con (ig t0 t1 t2=some r) (Den al 388 [Tj t0,Tj t1,Tj t2] (.tup [Tj r.1,Tj r.2])):=⟨iE⟩
end Go.Proofs.Dev
