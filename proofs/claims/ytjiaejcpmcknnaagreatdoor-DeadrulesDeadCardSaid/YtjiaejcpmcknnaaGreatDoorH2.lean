/-
  Contracts by hand: the conditions stand in each.
-/
import Derived.Test.YtjiaejcpmcknnaaGreatDoorC3
import Derived.Test.YtjiaejcpmcknnaaGreatDoorPA
import Derived.Test.YtjiaejcpmcknnaaGreatDoorK
import Derived.Test.YtjiaejcpmcknnaaGreatDoorEC
import Derived.Test.YtjiaejcpmcknnaaGreatDoorSH
import Derived.Lib.ItoaNum
import Derived.Test.YtjiaejcpmcknnaaGreatDoorG
import Derived.Test.YtjiaejcpmcknnaaGreatDoorC0
import Derived.Test.YtjiaejcpmcknnaaGreatDoorC1
import Derived.Test.YtjiaejcpmcknnaaGreatDoorC2
open Int renaming reduceEq->naa,reduceLE->qaa,reduceLT->raa,reduceToNat->kaa
open List renaming map_cons->Maa,map_nil->Wab,replicate->jaa
open Nat renaming add_comm->jac,add_mul->Zab,div_add_mod->Uab,div_le_self->cad,div_lt_iff_lt_mul->Aac,land->Dad,le_antisymm->Lad,le_div_iff_mul_le->dad,lor->Tad,lt_of_le_of_lt->wac,lt_trans->yad,min_eq_left->Mad,mod_lt->yac,mul_comm->Hab,mul_div_mul_right->ead,mul_le_mul->jad,mul_le_mul_right->Gaa,mul_right_comm->tad,not_lt->Xad,pow_add->oad,reduceAdd->Aaa,reduceEqDiff->Saa,reduceLT->Aab,reduceSub->aab,two_pow_pos->Jac,zero_add->jab,zero_le->wab
open Option.some renaming inj->Iaa
set_option linter.all false
set_option maxHeartbeats 2000000
set_option maxRecDepth 10000
namespace Go.Proofs.Dev
open Go Go.Tm
def u64(n:Nat):D:=.v (.int .u64 n)
def i64(n:Int):D:=.v (.int .i64 n)
theorem sh32:(2 ^ min (Int.toNat 32) IntKind.u64.bits:Nat)=4294967296:=rfl
theorem andM{x:Nat}(h:x<18446744073709551616):JB Dad .u64 (x:Int) 4294967295=.int .u64 ((x % 4294967296:Nat):Int):=by
 have e1:((x:Int) % HD .u64).toNat=x:=by simp only[HD];omega
 have e2:((4294967295:Int) % HD .u64).toNat=4294967295:=by decide
 unfold JB;rw[e1,e2];have e3:Dad x 4294967295=x % 4294967296:=Nat.and_two_pow_sub_one_eq_mod x 32;rw[e3,Cc (by omega)]
theorem mulN(a b:Nat):(a:Int)*(b:Int)=((a*b:Nat):Int):=(Int.natCast_mul a b).symm
theorem addN(a b:Nat):(a:Int)+(b:Int)=((a+b:Nat):Int):=(Int.natCast_add a b).symm
theorem DJ{P:Program}{k:Nat}{vs us:List Value}(hE:Tm.Enters P k) (h:∀w,Calls P k vs.toArray w λe w'=>e=.returned (.tuple us.toArray)/\w'=w):Den P k (vs.map .v) (.tup (us.map .v)):=by
 refine λm=>⟨hE,λG w us' hv hi=>?_⟩;have key:∀(vs us:List Value),VsRel G w (vs.map .v) us->us=vs:=by
  intro vs
  induction vs with
  |nil=>intro us h;simpa [VsRel] using h
  |cons x l ih=>
   intro us h;simp only[Maa,VsRel,VRel]at h;obtain⟨u,r,rfl,rfl,h2⟩:=h;rw[ih r h2]
 have key2:∀us:List Value,VsRel G w (us.map .v) us:=by
  intro us
  induction us with
  |nil=>simp[VsRel]
  |cons x l ih=>simp only[Maa,VsRel,VRel];exact⟨x,l,rfl,rfl,ih⟩
 obtain rfl:=key vs us' hv;refine(h w).mono ?_;rintro e w' ⟨rfl,rfl⟩;refine⟨_,_,_,G,rfl,⟨rfl,rfl⟩,?_,hi,Step.refl _ _ _⟩;simp only[VRel];exact⟨us,rfl,key2 us⟩
theorem jy{t0 t1:Int}{r:Int×Int}(h:Cq t0 t1=some r):Den Tryz.prog 311 [Bm t0,Bm t1] (.tup [Bm r.1,Bm r.2]):=by
 unfold Cq at h;split at h
 .rename_i hc;obtain⟨x,rfl⟩:∃x:Nat,t0=x:=⟨t0.toNat,by omega⟩;obtain⟨y,rfl⟩:∃y:Nat,t1=y:=⟨t1.toNat,by omega⟩;obtain rfl:=Iaa h;have h1:=DJ (vs:=[.int .u64 x,.int .u64 y]) (us:=[.int .u64 ((x*y / 18446744073709551616:Nat):Int),.int .u64 ((x*y % 18446744073709551616:Nat):Int)]) (jz B8.ok B8.nm) (λw=>Tryz.bits_Mul64 x y (by omega) (by omega) w);have e1:(x:Int)*(y:Int) / 18446744073709551616=((x*y / 18446744073709551616:Nat):Int):=by rw[mulN];omega
  have e2:(x:Int)*(y:Int) % 18446744073709551616=((x*y % 18446744073709551616:Nat):Int):=by rw[mulN];omega
  dsimp only;rw[e1,e2];exact h1
 .cases h
def MK(Y:Nat):Prop:=9223372036854775808<=Y/\Y<18446744073709551616
theorem lz55(y:Nat) (h0:0<y) (hy:y<18446744073709551616) (m:List Ent):CallT Tryz.prog 340 [u64 y] m λd m'=>(∃s:Nat,d=i64 s/\s<=63/\MK (y*2 ^ s))/\m'=m:=by
 obtain⟨h1,h2,h3⟩:=Lib.bitLenAux_bounds 64 y hy (by omega);have h4:Lib.bitLenAux 64 y<=64:=by
  by_cases hc:Lib.bitLenAux 64 y<=64
  .exact hc
  .have:2 ^ 64<=2 ^ (Lib.bitLenAux 64 y-1):=Nat.pow_le_pow_right (by decide) (by omega);omega
 have h5:=FF (vs:=[.int .u64 y]) (jz J8.ok J8.nm) (λw=>Tryz.bits_LeadingZeros64 (y:Int) w (by omega) (by omega));refine(h5 m).mono ?_;rintro d m' ⟨rfl,rfl⟩;refine⟨⟨64-Lib.bitLenAux 64 y,?_,by omega,?_,?_⟩,rfl⟩
 .unfold i64 Lib.bitLen;rw[Int.toNat_natCast];congr 2;omega
 .have:=Gaa (2 ^ (64-Lib.bitLenAux 64 y)) h2;rw[←oad,show Lib.bitLenAux 64 y-1+(64-Lib.bitLenAux 64 y)=63 by omega]at this;exact this
 .have:=Nat.mul_lt_mul_of_pos_right h3 (Jac (64-Lib.bitLenAux 64 y));rw[←oad,show Lib.bitLenAux 64 y+(64-Lib.bitLenAux 64 y)=64 by omega]at this;exact this
theorem QO(n:Nat):decide ((n:Int)<0)=false:=by simp
theorem O8{a b s:Nat}(hb:b<2 ^ s) (h:2 ^ s*a+b<18446744073709551616):JB Tad .u64 ((2 ^ s*a:Nat):Int) (b:Int)=.int .u64 ((2 ^ s*a+b:Nat):Int):=by
 have e1:(((2 ^ s*a:Nat):Int) % HD .u64).toNat=2 ^ s*a:=by simp only[HD];omega
 have e2:((b:Int) % HD .u64).toNat=b:=by simp only[HD];omega
 unfold JB;rw[e1,e2];have e3:Tad (2 ^ s*a) b=2 ^ s*a+b:=(Nat.two_pow_add_eq_or_of_lt hb a).symm;rw[e3,Cc h]
theorem scaled{N y s q R:Nat}(hy:0<y) (h:N*2 ^ s=q*(y*2 ^ s)+R) (hR:R<y*2 ^ s):N / y=q/\N % y=R / 2 ^ s:=by
 have hp:=Jac s;have h1:N*2 ^ s / (y*2 ^ s)=q:=by
  rw[h,jac,Nat.add_mul_div_right _ _ (Nat.mul_pos hy hp),Nat.div_eq_of_lt hR,jab]
 have h2:N*2 ^ s % (y*2 ^ s)=R:=by
  rw[h,jac,Nat.add_mul_mod_self_right,Nat.mod_eq_of_lt hR]
 rw[ead _ _ hp]at h1;rw[Nat.mul_mod_mul_right]at h2;exact⟨h1,by rw[←h2,Nat.mul_div_cancel _ hp]⟩
theorem JW(a b c:Int):da .u64 (da .u64 (da .u64 a+b)-da .u64 c)=da .u64 (a+b-c):=by
 simp only[da];omega
structure DivF (hi lo y s Y v w e U L:Nat):Prop where
 hY:y*2 ^ s=Y
 hYn:MK Y
 hYv:Y=4294967296*v+w
 hwB:w<4294967296
 hU:2 ^ s*hi+e=U
 hUY:U<Y
 hLM:L<18446744073709551616
 hN:(hi*18446744073709551616+lo)*2 ^ s=U*18446744073709551616+L
 he:lo / 2 ^ (64-s)=e
 hv:Y / 4294967296=v
 hv0:¬(v:Int)=0
 m1:min s IntKind.u64.bits=s
 m2:min (64-s) IntKind.u64.bits=64-s
 f1:da .u64 (s:Int)=(s:Int)
 f2:da .u64 ((y:Int)*((2 ^ s:Nat):Int))=(Y:Int)
 f3:da .u64 ((hi:Int)*((2 ^ s:Nat):Int))=((2 ^ s*hi:Nat):Int)
 f4:da .u64 (64-(s:Int))=((64-s:Nat):Int)
 f6:JB Tad .u64 ((2 ^ s*hi:Nat):Int) (e:Int)=.int .u64 (U:Int)
 f7:da .u64 ((lo:Int)*((2 ^ s:Nat):Int))=(L:Int)
 f8:JB Dad .u64 (Y:Int) 4294967295=.int .u64 (w:Int)
 f9:JB Dad .u64 (L:Int) 4294967295=.int .u64 ((L % 4294967296:Nat):Int)
theorem pM(hi lo y s:Nat) (hhi:hi<y) (hlo:lo<18446744073709551616) (s2:s<=63) (s3:MK (y*2 ^ s)):∃Y v w e U L,DivF hi lo y s Y v w e U L:=by
 simp only[MK]at s3;obtain⟨Y,hY⟩:∃Y,y*2 ^ s=Y:=⟨_,rfl⟩;rw[hY]at s3;obtain⟨v,hv⟩:∃v,Y / 4294967296=v:=⟨_,rfl⟩;obtain⟨w,hw⟩:∃w,Y % 4294967296=w:=⟨_,rfl⟩;have hYv:Y=4294967296*v+w:=by omega
 have hwB:w<4294967296:=by omega
 have hv0:¬(v:Int)=0:=by omega
 have m1:min s IntKind.u64.bits=s:=Mad (by show s<=64;omega);have m2:min (64-s) IntKind.u64.bits=64-s:=Mad (by show 64-s<=64;omega);obtain⟨e,he⟩:∃e,lo / 2 ^ (64-s)=e:=⟨_,rfl⟩;have hes:e<2 ^ s:=by
  rw[←he,Aac (Jac _),←oad,show s+(64-s)=64 by omega];exact hlo
 have hhs:2 ^ s*hi+2 ^ s<=Y:=by
  rw[←hY,←Nat.mul_succ,Hab];exact Gaa _ hhi
 obtain⟨U,hU⟩:∃U,2 ^ s*hi+e=U:=⟨_,rfl⟩;have hUY:U<Y:=by omega
 obtain⟨L,hL⟩:∃L,lo*2 ^ s % 18446744073709551616=L:=⟨_,rfl⟩;have hLM:L<18446744073709551616:=by omega
 have hloe:lo*2 ^ s=e*18446744073709551616+L:=by
  have h1:lo*2 ^ s / 18446744073709551616=e:=by
   rw[←he,show(18446744073709551616:Nat)=2 ^ (64-s)*2 ^ s by rw[←oad,show 64-s+s=64 by omega],ead _ _ (Jac s)]
  omega
 have hN:(hi*18446744073709551616+lo)*2 ^ s=U*18446744073709551616+L:=by
  have h2:hi*18446744073709551616*2 ^ s=2 ^ s*hi*18446744073709551616:=by
   rw[tad,Hab hi]
  rw[Zab,hloe,h2];omega
 have f1:da .u64 (s:Int)=(s:Int):=Cc (by omega);have f2:da .u64 ((y:Int)*((2 ^ s:Nat):Int))=(Y:Int):=by rw[mulN,hY,Cc s3.2]
 have f3:da .u64 ((hi:Int)*((2 ^ s:Nat):Int))=((2 ^ s*hi:Nat):Int):=by rw[mulN,Hab hi,Cc (by omega)]
 have f4:da .u64 (64-(s:Int))=((64-s:Nat):Int):=by rw[show(64:Int)-(s:Int)=((64-s:Nat):Int) by omega,Cc (by omega)]
 have f6:JB Tad .u64 ((2 ^ s*hi:Nat):Int) (e:Int)=.int .u64 (U:Int):=by rw[O8 hes (by omega),hU]
 have f7:da .u64 ((lo:Int)*((2 ^ s:Nat):Int))=(L:Int):=by rw[mulN];simp only[da];omega
 have f8:=andM (x:=Y) s3.2;have f9:=andM (x:=L) hLM;rw[hw]at f8;exact⟨Y,v,w,e,U,L,⟨hY,s3,hYv,hwB,hU,hUY,hLM,hN,he,hv,hv0,m1,m2,f1,f2,f3,f4,f6,f7,f8,f9⟩⟩
structure Dig (Y v w U u:Nat):Prop where
 hY:Y=4294967296*v+w
 hv:2147483648<=v
 hYM:Y<18446744073709551616
 hw:w<4294967296
 hU:U<Y
 hu:u<4294967296
structure Guess (Y v w U u q r:Nat):Prop where
 hP:q*v+r=U
 hr:r<4294967296
 hQ:(U*4294967296+u) / Y<=q
section
variable {Y v w U u q r:Nat}
theorem Dig.RT(D:Dig Y v w U u) (q:Nat):q*Y=4294967296*(q*v)+q*w:=by
 rw[D.hY,Nat.mul_add,Nat.mul_left_comm]
theorem Dig.TW(D:Dig Y v w U u):(U*4294967296+u) / Y<4294967296:=by
 have h:=D.hU;have h1:=D.hu;have h2:=D.hv;have h3:=D.hY;rw[Aac (by omega)];omega
theorem Dig.D9(D:Dig Y v w U u) {q r:Nat}(h:q*v+r=U):q<=4294967297:=by
 have h0:=D.hU;have h1:=D.hw;have h2:=D.hv;have h3:=D.hY;have:q*v<4294967298*v:=by omega
 have:=Nat.lt_of_mul_lt_mul_right this;omega
theorem Dig.start(D:Dig Y v w U u):Guess Y v w U u (U / v) (U % v)\/(4294967296<=U % v):=by
 have h0:=D.hU;have h1:=D.hw;have h2:=D.hv;have h3:=D.hY;have h4:=D.hYM;have hp:0<v:=by omega
 left;have hm:=yac U hp;have hd:U / v*v+U % v=U:=by rw[Hab];exact Uab U v
 refine⟨hd,by omega,?_⟩;rw[Nat.div_le_iff_le_mul_add_pred (by omega)];have e:=D.RT (U / v);rw[Hab]at e;rw[e];have h5:=D.hu;omega
theorem Guess.less(D:Dig Y v w U u) (G:Guess Y v w U u q r) (h:4294967296<=q\/4294967296*r+u<q*w):1<=q/\(U*4294967296+u) / Y<=q-1/\(q-1)*v+(r+v)=U:=by
 have hlt:(U*4294967296+u) / Y<q:=by
  rcases h with h|h
  .exact Nat.lt_of_lt_of_le D.TW h
  .have h1:=D.hY;have h2:=D.hv;rw[Aac (by omega),D.RT];have:=G.hP;omega
 have h1:1<=q:=wac (wab _) hlt;refine⟨h1,Nat.le_sub_one_of_lt hlt,?_⟩;have e:q*v=(q-1)*v+v:=by rw[←Nat.succ_mul];congr 1;omega
 have:=G.hP;omega
theorem Guess.done(D:Dig Y v w U u) (G:Guess Y v w U u q r) (h:q*w<=4294967296*r+u):q=(U*4294967296+u) / Y:=by
 refine Lad ?_ G.hQ;have h1:=D.hY;have h2:=D.hv;rw[dad (by omega),D.RT];have:=G.hP;omega
theorem Dig.big(D:Dig Y v w U u) (hP:q*v+r=U) (hr:4294967296<=r) (hq:q<=4294967296) (hQ:(U*4294967296+u) / Y<=q):q=(U*4294967296+u) / Y:=by
 refine Lad ?_ hQ;have h1:=D.hY;have h2:=D.hv;have h3:=D.hw;rw[dad (by omega),D.RT];have:=jad hq (show w<=4294967296 by omega);omega
end
theorem NR{q:Nat}(h1:1<=q) (h2:q<18446744073709551616):da .u64 ((q:Int)-1)=((q-1:Nat):Int):=by
 rw[show(q:Int)-1=((q-1:Nat):Int) by omega,Cc (by omega)]
theorem N2(hi lo y:Nat) (hhi:hi<y) (hlo:lo<18446744073709551616) (hy:y<18446744073709551616) :
 Den Tryz.prog 312 [u64 hi,u64 lo,u64 y] (.tup [u64 ((hi*18446744073709551616+lo) / y),u64 ((hi*18446744073709551616+lo) % y)]):=by
 have c1:¬(y:Int)=0:=by omega
 have c2:¬(y:Int)<=(hi:Int):=by omega
 simp only[u64];by_cases h0:hi=0
 .subst h0;have c2':¬(y:Int)<=0:=by omega
  have hlq:lo / y<18446744073709551616:=wac (cad _ _) hlo;have q1:da .u64 (Int.tdiv (lo:Int) (y:Int))=((lo / y:Nat):Int):=Cc hlq;have q2:Int.tmod (lo:Int) (y:Int)=((lo % y:Nat):Int):=rfl;refine dk (hf:=rfl) 132 vT ?_;simp only[vT,Kf.of,zs,ze];refine Z.T gn ?_;simp only[c1,c2',rO,q1,q2,Nat.zero_mul,jab,zz,Sk,Mp,Pk,Lp,Pp,Nk,kh,Rk,Qk,Np,xc,Ge,gh,leaves,undef,Fv,raa,C.pC,C.pj,Yb,contents,gate,ia,St.ev,St.put,jaa,aab,Aaa,ag,Bc,qb,Ks,D.ok,D.cells,one,reduceCtorEq,Saa,naa];exact er (by simp only[zz,zr];exact fq (by simp only[zg]))
 .have c3:¬(hi:Int)=0:=by omega
  refine dk (hf:=rfl) 132 vT ?_;simp only[vT,Kf.of,zs,ze];refine Z.T gn ?_;simp only[c1,c2,c3,zz,Sk,Mp,Pk,Lp,Pp,Nk,kh,Rk,Qk,Np,xc,Ge,gh,leaves,undef,Fv,raa,C.pC,C.pj,Yb,contents,gate,ia,St.ev,St.put,jaa,aab,Aaa,ag,Bc,qb,Ks,D.ok,D.cells,one,reduceCtorEq,Saa,naa];refine oO (lz55 y (by omega) hy _) ?_;intro d m' hh;obtain⟨⟨s,hd,s2,s3⟩,hm'⟩:=hh;obtain⟨Y,v,w,e,U,L,F⟩:=pM hi lo y s hhi hlo s2 s3;have D1:Dig Y v w U (L / 4294967296):=⟨F.hYv,by have:=F.hYn.1;have:=F.hYv;have:=F.hwB;omega,F.hYn.2,F.hwB,F.hUY,by have:=F.hLM;omega⟩;have hvM:v<18446744073709551616:=by have:=F.hYv;have:=F.hYn.2;omega
  have hUM:U<18446744073709551616:=yad F.hUY F.hYn.2;have hvp:0<v:=by have:=D1.hv;omega
  have hdiv:∀n:Nat,n<18446744073709551616->da .u64 (Int.tdiv (n:Int) (v:Int))=((n / v:Nat):Int):=λn hn=>Cc (wac (cad _ _) hn);have hmul:∀n:Nat,n<18446744073709551616->da .u64 (((n / v:Nat):Int)*(v:Int))=((n / v*v:Nat):Int):=λn hn=>by rw[mulN,Cc (wac (Nat.div_mul_le_self _ _) hn)]
  have hsub:∀n:Nat,n<18446744073709551616->da .u64 ((n:Int)-((n / v*v:Nat):Int))=((n % v:Nat):Int):=λn hn=>by
   have:=Uab n v;rw[Hab]at this;rw[show(n:Int)-((n / v*v:Nat):Int)=((n % v:Nat):Int) by omega,Cc (by omega)]
  have g1:=hdiv U hUM;have g2:=hmul U hUM;have g3:=hsub U hUM;simp only[hd,hm',zz,Sk,Mp,Pk,Lp,Pp,Nk,kh,Rk,Qk,Np,xc,Ge,gh,leaves,undef,Fv,raa,C.pC,C.pj,Yb,contents,gate,ia,St.ev,St.put,jaa,aab,Aaa,ag,Bc,qb,Ks,D.ok,D.cells,one,reduceCtorEq,Saa,naa,i64,QO,F.m1,F.m2,F.f1,F.f2,F.f3,F.f4,oW,F.he,F.f6,F.f7,F.f8,F.f9,sh32,F.hv,F.hv0,g1,g2,g3,rO];refine T.vX (X:=Nat×Nat) (λx=>⟨[.dead,.dead,u64 Y,.dead,.dead,.dead,.dead,.dead,u64 s,u64 v,u64 w,u64 U,.dead,u64 (L / 4294967296),u64 (L % 4294967296),u64 x.1,u64 x.2,.dead,.dead,.dead,.dead,.dead,.dead,.dead,.dead,.dead,.dead,.dead,.dead,.dead,.dead,.dead,.dead,.dead,.dead,.dead,.dead,.dead,.dead,.dead,.dead,.dead,.dead,.dead,.dead,.dead,.dead,.dead,.dead,.dead,.dead,.dead,.dead,.dead,.dead,.dead,.dead,.dead,.dead,.dead,.dead,.dead,.dead,.dead,.dead,.dead,.dead,.dead,.dead,.dead,.dead,.dead,.dead,.dead,.dead,.dead,.dead,.dead,.dead,.dead,.dead,.dead,.dead,.dead,.dead,.dead,.dead,.dead,.dead,.dead,.dead,.dead,.dead,.dead,.dead,.dead,.dead,.dead,.dead,.dead,.dead,.dead,.dead,.dead,.dead,.dead,.dead,.dead,.dead,.dead,.dead,.dead,.dead,.dead,.dead,.dead,.dead,.dead,.dead,.dead,.dead,.dead,.dead,.dead,.dead,.dead,.dead,.dead,.dead,.dead,.dead,.dead,.dead,.dead,.dead],[]⟩)
   (λx=>Guess Y v w U (L / 4294967296) x.1 x.2/\x.1<=4294967297) (λx=>x.1=(U*4294967296+L / 4294967296) / Y) (λx=>4294967296-x.2) (U / v,U % v) ?_ ?_ ?_ ?_ (λ_=>by repeat (first|exact oH|exact sR|exact tR|exact uR|refine rR ?_)) ?_
  .exact⟨D1.start.resolve_right (by have:=yac U hvp;have:=F.hYv;have:=F.hYn.2;omega),D1.D9 (r:=U % v) (by rw[Hab];exact Uab U v)⟩
  .exact At.same _ _ _ (by repeat (first|exact Ka.Yj _|refine Ka.cons (Sub.refl _) ?_|refine Ka.cons (Sub.Nf _) ?_))
  .rintro⟨q,r⟩ _;exact⟨wab _,by simp[belows,below,u64],by simp⟩
  .rintro⟨q,r⟩ ⟨hG,hq1⟩;refine Z.T gn ?_;simp only at hG hq1;have hrB:=hG.hr;have huB:=D1.hu;have e0:(4294967296:Int)*(r:Int)=((4294967296*r:Nat):Int):=by omega
   have e1:da .u64 ((4294967296*r:Nat):Int)=((4294967296*r:Nat):Int):=Cc (by omega);have e2:da .u64 (((4294967296*r:Nat):Int)+((L / 4294967296:Nat):Int))=((4294967296*r+L / 4294967296:Nat):Int):=by rw[addN,Cc (by omega)]
   have e4:da .u64 ((r:Int)+(v:Int))=((r+v:Nat):Int):=by rw[addN,Cc (by have:=F.hYv;have:=F.hYn.2;omega)]
   have e5:da .u64 ((q:Int)*(w:Int))=da .u64 ((q*w:Nat):Int):=by rw[mulN]
   have out:∀c1:(4294967296<=q\/4294967296*r+L / 4294967296<q*w),da .u64 ((q:Int)-1)=((q-1:Nat):Int)/\(4294967296<=r+v->q-1=(U*4294967296+L / 4294967296) / Y)/\(r+v<4294967296->Guess Y v w U (L / 4294967296) (q-1) (r+v)):=λc1=>by
    obtain⟨k1,k2,k3⟩:=hG.less D1 c1;exact⟨NR k1 (by omega),λh=>D1.big k3 h (by omega) k2,λh=>⟨k3,h,k2⟩⟩
   by_cases c1:4294967296<=q
   .have c1':(4294967296:Int)<=(q:Int):=by omega
    obtain⟨o1,o2,o3⟩:=out (.inl c1);by_cases c2:4294967296<=r+v
    .have c2':(4294967296:Int)<=((r+v:Nat):Int):=by omega
     simp only[u64,zz,Sk,Mp,Pk,Lp,Pp,Nk,kh,Rk,Qk,Np,xc,Ge,gh,leaves,undef,Fv,raa,C.pC,C.pj,Yb,contents,gate,ia,St.ev,St.put,jaa,aab,Aaa,ag,Bc,qb,Ks,D.ok,D.cells,one,reduceCtorEq,Saa,naa,c1',o1,e4,c2'];exact⟨(q-1,r+v),o2 c2,At.same _ _ _ (by repeat (first|exact Ka.Yj _|refine Ka.cons (Sub.refl _) ?_|refine Ka.cons (Sub.Nf _) ?_))⟩
    .have c2':¬(4294967296:Int)<=((r+v:Nat):Int):=by omega
     simp only[u64,zz,Sk,Mp,Pk,Lp,Pp,Nk,kh,Rk,Qk,Np,xc,Ge,gh,leaves,undef,Fv,raa,C.pC,C.pj,Yb,contents,gate,ia,St.ev,St.put,jaa,aab,Aaa,ag,Bc,qb,Ks,D.ok,D.cells,one,reduceCtorEq,Saa,naa,c1',o1,e4,c2'];exact⟨(q-1,r+v),⟨o3 (by omega),by show q-1<=_;omega⟩,by show 4294967296-(r+v)<4294967296-r;have:=D1.hv;omega,At.same _ _ _ (by repeat (first|exact Ka.Yj _|refine Ka.cons (Sub.refl _) ?_|refine Ka.cons (Sub.Nf _) ?_))⟩
   .have c1':¬(4294967296:Int)<=(q:Int):=by omega
    have e6:da .u64 ((q*w:Nat):Int)=((q*w:Nat):Int):=Cc (by
     have:=jad (show q<=4294967295 by omega) (show w<=4294967295 by have:=F.hwB;omega);omega)
    by_cases c3:4294967296*r+L / 4294967296<q*w
    .obtain⟨o1,o2,o3⟩:=out (.inr c3);by_cases c2:4294967296<=r+v
     .have c2':(4294967296:Int)<=((r+v:Nat):Int):=by omega
      simp only[u64,zz,Sk,Mp,Pk,Lp,Pp,Nk,kh,Rk,Qk,Np,xc,Ge,gh,leaves,undef,Fv,raa,C.pC,C.pj,Yb,contents,gate,ia,St.ev,St.put,jaa,aab,Aaa,ag,Bc,qb,Ks,D.ok,D.cells,one,reduceCtorEq,Saa,naa,c1',o1,e0,e1,e2,e4,e5,e6,QF,c3,c2'];exact⟨(q-1,r+v),o2 c2,At.same _ _ _ (by repeat (first|exact Ka.Yj _|refine Ka.cons (Sub.refl _) ?_|refine Ka.cons (Sub.Nf _) ?_))⟩
     .have c2':¬(4294967296:Int)<=((r+v:Nat):Int):=by omega
      simp only[u64,zz,Sk,Mp,Pk,Lp,Pp,Nk,kh,Rk,Qk,Np,xc,Ge,gh,leaves,undef,Fv,raa,C.pC,C.pj,Yb,contents,gate,ia,St.ev,St.put,jaa,aab,Aaa,ag,Bc,qb,Ks,D.ok,D.cells,one,reduceCtorEq,Saa,naa,c1',o1,e0,e1,e2,e4,e5,e6,QF,c3,c2'];exact⟨(q-1,r+v),⟨o3 (by omega),by show q-1<=_;omega⟩,by show 4294967296-(r+v)<4294967296-r;have:=D1.hv;omega,At.same _ _ _ (by repeat (first|exact Ka.Yj _|refine Ka.cons (Sub.refl _) ?_|refine Ka.cons (Sub.Nf _) ?_))⟩
    .simp only[u64,zz,Sk,Mp,Pk,Lp,Pp,Nk,kh,Rk,Qk,Np,xc,Ge,gh,leaves,undef,Fv,raa,C.pC,C.pj,Yb,contents,gate,ia,St.ev,St.put,jaa,aab,Aaa,ag,Bc,qb,Ks,D.ok,D.cells,one,reduceCtorEq,Saa,naa,c1',e0,e1,e2,e4,e5,e6,QF,c3];exact⟨(q,r),hG.done D1 (Xad.1 c3),At.same _ _ _ (by repeat (first|exact Ka.Yj _|refine Ka.cons (Sub.refl _) ?_|refine Ka.cons (Sub.Nf _) ?_))⟩
  .rintro⟨q,r⟩ hq;simp only at hq;obtain⟨Q,hQ⟩:∃Q,(U*4294967296+L / 4294967296) / Y=Q:=⟨_,rfl⟩;rw[hQ]at hq;subst hq;obtain⟨R,hR⟩:∃R,(U*4294967296+L / 4294967296) % Y=R:=⟨_,rfl⟩;have hYp:0<Y:=by have:=F.hYn.1;omega
   have hRY:R<Y:=by rw[←hR];exact yac _ hYp
   have hdm:=Uab (U*4294967296+L / 4294967296) Y;rw[hQ,hR,Hab]at hdm;have hRM:R<18446744073709551616:=yad hRY F.hYn.2;have D2:Dig Y v w R (L % 4294967296):=⟨F.hYv,D1.hv,F.hYn.2,F.hwB,hRY,yac _ (by decide)⟩;have k1:da .u64 ((U:Int)*4294967296+((L / 4294967296:Nat):Int)-(q:Int)*(Y:Int))=(R:Int):=by
    rw[mulN,show(U:Int)*4294967296+((L / 4294967296:Nat):Int)-((q*Y:Nat):Int)=(R:Int) by omega,Cc hRM]
   simp only[zz,Sk,Mp,Pk,Lp,Pp,Nk,kh,Rk,Qk,Np,xc,Ge,gh,leaves,undef,Fv,raa,C.pC,C.pj,Yb,contents,gate,ia,St.ev,St.put,jaa,aab,Aaa,ag,Bc,qb,Ks,D.ok,D.cells,one,reduceCtorEq,Saa,naa];refine Z.T gn ?_;simp only[u64,zz,Sk,Mp,Pk,Lp,Pp,Nk,kh,Rk,Qk,Np,xc,Ge,gh,leaves,undef,Fv,raa,C.pC,C.pj,Yb,contents,gate,ia,St.ev,St.put,jaa,aab,Aaa,ag,Bc,qb,Ks,D.ok,D.cells,one,reduceCtorEq,Saa,naa,JW,k1,F.hv0,hdiv R hRM,hmul R hRM,hsub R hRM];refine T.vX (X:=Nat×Nat) (λx=>⟨[.dead,.dead,u64 Y,.dead,.dead,.dead,.dead,.dead,u64 s,u64 v,u64 w,.dead,.dead,.dead,u64 (L % 4294967296),u64 q,u64 x.2,u64 R,u64 x.1,.dead,.dead,.dead,.dead,.dead,.dead,.dead,.dead,.dead,.dead,.dead,.dead,.dead,.dead,.dead,.dead,.dead,.dead,.dead,.dead,.dead,.dead,.dead,.dead,.dead,.dead,.dead,.dead,.dead,.dead,.dead,.dead,.dead,.dead,.dead,.dead,.dead,.dead,.dead,.dead,.dead,.dead,.dead,.dead,.dead,.dead,.dead,.dead,.dead,.dead,.dead,.dead,.dead,.dead,.dead,.dead,.dead,.dead,.dead,.dead,.dead,.dead,.dead,.dead,.dead,.dead,.dead,.dead,.dead,.dead,.dead,.dead,.dead,.dead,.dead,.dead,.dead,.dead,.dead,.dead,.dead,.dead,.dead,.dead,.dead,.dead,.dead,.dead,.dead,.dead,.dead,.dead,.dead,.dead,.dead,.dead,.dead,.dead,.dead,.dead,.dead,.dead,.dead,.dead,.dead,.dead,.dead,.dead,.dead,.dead,.dead,.dead,.dead,.dead,.dead,.dead],[]⟩)
    (λx=>Guess Y v w R (L % 4294967296) x.1 x.2/\x.1<=4294967297) (λx=>x.1=(R*4294967296+L % 4294967296) / Y) (λx=>4294967296-x.2) (R / v,R % v) ?_ ?_ ?_ ?_ (λ_=>by repeat (first|exact oH|exact sR|exact tR|exact uR|refine rR ?_)) ?_
   .exact⟨D2.start.resolve_right (by have:=yac R hvp;have:=F.hYv;have:=F.hYn.2;omega),D2.D9 (r:=R % v) (by rw[Hab];exact Uab R v)⟩
   .exact At.same _ _ _ (by repeat (first|exact Ka.Yj _|refine Ka.cons (Sub.refl _) ?_|refine Ka.cons (Sub.Nf _) ?_))
   .rintro⟨q,r⟩ _;exact⟨wab _,by simp[belows,below,u64],by simp⟩
   .rintro⟨p,r⟩ ⟨hG,hq1⟩;refine Z.T gn ?_;simp only at hG hq1;have hrB:=hG.hr;have huB:=D2.hu;have e0:(4294967296:Int)*(r:Int)=((4294967296*r:Nat):Int):=by omega
    have e1:da .u64 ((4294967296*r:Nat):Int)=((4294967296*r:Nat):Int):=Cc (by omega);have e2:da .u64 (((4294967296*r:Nat):Int)+((L % 4294967296:Nat):Int))=((4294967296*r+L % 4294967296:Nat):Int):=by rw[addN,Cc (by omega)]
    have e4:da .u64 ((r:Int)+(v:Int))=((r+v:Nat):Int):=by rw[addN,Cc (by have:=F.hYv;have:=F.hYn.2;omega)]
    have e5:da .u64 ((p:Int)*(w:Int))=da .u64 ((p*w:Nat):Int):=by rw[mulN]
    have out:∀c1:(4294967296<=p\/4294967296*r+L % 4294967296<p*w),da .u64 ((p:Int)-1)=((p-1:Nat):Int)/\(4294967296<=r+v->p-1=(R*4294967296+L % 4294967296) / Y)/\(r+v<4294967296->Guess Y v w R (L % 4294967296) (p-1) (r+v)):=λc1=>by
     obtain⟨k1,k2,k3⟩:=hG.less D2 c1;exact⟨NR k1 (by omega),λh=>D2.big k3 h (by omega) k2,λh=>⟨k3,h,k2⟩⟩
    by_cases c1:4294967296<=p
    .have c1':(4294967296:Int)<=(p:Int):=by omega
     obtain⟨o1,o2,o3⟩:=out (.inl c1);by_cases c2:4294967296<=r+v
     .have c2':(4294967296:Int)<=((r+v:Nat):Int):=by omega
      simp only[u64,zz,Sk,Mp,Pk,Lp,Pp,Nk,kh,Rk,Qk,Np,xc,Ge,gh,leaves,undef,Fv,raa,C.pC,C.pj,Yb,contents,gate,ia,St.ev,St.put,jaa,aab,Aaa,ag,Bc,qb,Ks,D.ok,D.cells,one,reduceCtorEq,Saa,naa,c1',o1,e4,c2'];exact⟨(p-1,r+v),o2 c2,At.same _ _ _ (by repeat (first|exact Ka.Yj _|refine Ka.cons (Sub.refl _) ?_|refine Ka.cons (Sub.Nf _) ?_))⟩
     .have c2':¬(4294967296:Int)<=((r+v:Nat):Int):=by omega
      simp only[u64,zz,Sk,Mp,Pk,Lp,Pp,Nk,kh,Rk,Qk,Np,xc,Ge,gh,leaves,undef,Fv,raa,C.pC,C.pj,Yb,contents,gate,ia,St.ev,St.put,jaa,aab,Aaa,ag,Bc,qb,Ks,D.ok,D.cells,one,reduceCtorEq,Saa,naa,c1',o1,e4,c2'];exact⟨(p-1,r+v),⟨o3 (by omega),by show p-1<=_;omega⟩,by show 4294967296-(r+v)<4294967296-r;have:=D2.hv;omega,At.same _ _ _ (by repeat (first|exact Ka.Yj _|refine Ka.cons (Sub.refl _) ?_|refine Ka.cons (Sub.Nf _) ?_))⟩
    .have c1':¬(4294967296:Int)<=(p:Int):=by omega
     have e6:da .u64 ((p*w:Nat):Int)=((p*w:Nat):Int):=Cc (by
      have:=jad (show p<=4294967295 by omega) (show w<=4294967295 by have:=F.hwB;omega);omega)
     by_cases c3:4294967296*r+L % 4294967296<p*w
     .obtain⟨o1,o2,o3⟩:=out (.inr c3);by_cases c2:4294967296<=r+v
      .have c2':(4294967296:Int)<=((r+v:Nat):Int):=by omega
       simp only[u64,zz,Sk,Mp,Pk,Lp,Pp,Nk,kh,Rk,Qk,Np,xc,Ge,gh,leaves,undef,Fv,raa,C.pC,C.pj,Yb,contents,gate,ia,St.ev,St.put,jaa,aab,Aaa,ag,Bc,qb,Ks,D.ok,D.cells,one,reduceCtorEq,Saa,naa,c1',o1,e0,e1,e2,e4,e5,e6,QF,c3,c2'];exact⟨(p-1,r+v),o2 c2,At.same _ _ _ (by repeat (first|exact Ka.Yj _|refine Ka.cons (Sub.refl _) ?_|refine Ka.cons (Sub.Nf _) ?_))⟩
      .have c2':¬(4294967296:Int)<=((r+v:Nat):Int):=by omega
       simp only[u64,zz,Sk,Mp,Pk,Lp,Pp,Nk,kh,Rk,Qk,Np,xc,Ge,gh,leaves,undef,Fv,raa,C.pC,C.pj,Yb,contents,gate,ia,St.ev,St.put,jaa,aab,Aaa,ag,Bc,qb,Ks,D.ok,D.cells,one,reduceCtorEq,Saa,naa,c1',o1,e0,e1,e2,e4,e5,e6,QF,c3,c2'];exact⟨(p-1,r+v),⟨o3 (by omega),by show p-1<=_;omega⟩,by show 4294967296-(r+v)<4294967296-r;have:=D2.hv;omega,At.same _ _ _ (by repeat (first|exact Ka.Yj _|refine Ka.cons (Sub.refl _) ?_|refine Ka.cons (Sub.Nf _) ?_))⟩
     .simp only[u64,zz,Sk,Mp,Pk,Lp,Pp,Nk,kh,Rk,Qk,Np,xc,Ge,gh,leaves,undef,Fv,raa,C.pC,C.pj,Yb,contents,gate,ia,St.ev,St.put,jaa,aab,Aaa,ag,Bc,qb,Ks,D.ok,D.cells,one,reduceCtorEq,Saa,naa,c1',e0,e1,e2,e4,e5,e6,QF,c3];exact⟨(p,r),hG.done D2 (Xad.1 c3),At.same _ _ _ (by repeat (first|exact Ka.Yj _|refine Ka.cons (Sub.refl _) ?_|refine Ka.cons (Sub.Nf _) ?_))⟩
   .rintro⟨p,r'⟩ hp;simp only at hp;obtain⟨Q',hQ'⟩:∃Q,(R*4294967296+L % 4294967296) / Y=Q:=⟨_,rfl⟩;have hp1:=D2.TW;rw[←hp]at hp1;rw[hQ']at hp;subst hp;obtain⟨R',hZ⟩:∃R',(R*4294967296+L % 4294967296) % Y=R':=⟨_,rfl⟩;have hZY:R'<Y:=by rw[←hZ];exact yac _ hYp
    have hdm2:=Uab (R*4294967296+L % 4294967296) Y;rw[hQ',hZ,Hab]at hdm2;have hq1:=D1.TW;rw[hQ]at hq1;have k2:da .u64 ((R:Int)*4294967296+((L % 4294967296:Nat):Int)-(p:Int)*(Y:Int))=(R':Int):=by
     rw[mulN,show(R:Int)*4294967296+((L % 4294967296:Nat):Int)-((p*Y:Nat):Int)=(R':Int) by omega,Cc (yad hZY F.hYn.2)]
    have k3:da .u64 (da .u64 ((q:Int)*4294967296)+(p:Int))=((q*4294967296+p:Nat):Int):=by
     rw[show(q:Int)*4294967296=((q*4294967296:Nat):Int) by omega,Cc (by omega),addN,Cc (by omega)]
    have hfin:(hi*18446744073709551616+lo)*2 ^ s=(q*4294967296+p)*(y*2 ^ s)+R':=by
     rw[F.hN,F.hY,Zab,tad];omega
    have hsc:=scaled (by omega) hfin (by rw[F.hY];exact hZY);simp only[zz,Sk,Mp,Pk,Lp,Pp,Nk,kh,Rk,Qk,Np,xc,Ge,gh,leaves,undef,Fv,raa,C.pC,C.pj,Yb,contents,gate,ia,St.ev,St.put,jaa,aab,Aaa,ag,Bc,qb,Ks,D.ok,D.cells,one,reduceCtorEq,Saa,naa];refine Z.T gn ?_;simp only[u64,zz,Sk,Mp,Pk,Lp,Pp,Nk,kh,Rk,Qk,Np,xc,Ge,gh,leaves,undef,Fv,raa,C.pC,C.pj,Yb,contents,gate,ia,St.ev,St.put,jaa,aab,Aaa,ag,Bc,qb,Ks,D.ok,D.cells,one,reduceCtorEq,Saa,naa,JW,k2,k3,QO,F.m1,oW,hsc.1,hsc.2];exact er (by simp only[zz,zr];exact fq (by simp only[zg]))
theorem iy{t0 t1 t2:Int}{r:Int×Int}(h:Bq t0 t1 t2=some r):Den Tryz.prog 312 [Bm t0,Bm t1,Bm t2] (.tup [Bm r.1,Bm r.2]):=by
 unfold Bq at h;split at h
 .rename_i hc;obtain⟨x,rfl⟩:∃x:Nat,t0=x:=⟨t0.toNat,by omega⟩;obtain⟨y,rfl⟩:∃y:Nat,t1=y:=⟨t1.toNat,by omega⟩;obtain⟨z,rfl⟩:∃z:Nat,t2=z:=⟨t2.toNat,by omega⟩;obtain rfl:=Iaa h;have h1:=N2 x y z (by omega) (by omega) (by omega);have e1:((x:Int)*18446744073709551616+(y:Int)) / (z:Int)=(((x*18446744073709551616+y) / z:Nat):Int):=by
   rw[show(x:Int)*18446744073709551616+(y:Int)=((x*18446744073709551616+y:Nat):Int) by omega];rfl
  have e2:((x:Int)*18446744073709551616+(y:Int)) % (z:Int)=(((x*18446744073709551616+y) % z:Nat):Int):=by
   rw[show(x:Int)*18446744073709551616+(y:Int)=((x*18446744073709551616+y:Nat):Int) by omega];rfl
  dsimp only;rw[e1,e2];exact h1
 .cases h
instance {t0 t1 r}:Con (Cq t0 t1=some r) (Den Tryz.prog 311 [Bm t0,Bm t1] (.tup [Bm r.1,Bm r.2])):=⟨jy⟩
instance {t0 t1 t2 r}:Con (Bq t0 t1 t2=some r) (Den Tryz.prog 312 [Bm t0,Bm t1,Bm t2] (.tup [Bm r.1,Bm r.2])):=⟨iy⟩
end Go.Proofs.Dev
set_option maxHeartbeats 1000000
namespace Go.Proofs.Dev
open Go Go.Tm
theorem TG{t0 r}(h:Xx t0=some r):HB Tryz.prog 24 [] [] 2 (t0.map Ea) (Ib r):=by
 obtain rfl:=Iaa h;refine HB.at 23 n7.ok n7.nm oB oB (Fr.l _) rfl ?_;simp only[n7,Kf.of,zs,ze];refine T.sr ?_;simp only[zx];refine T.sr ?_;simp only[zx];apply Cj;apply Kv Y0 21 rfl
 .simp only[Y0,Kf.of,zs,ze];refine T.sr ?_;simp only[zx];refine T.sr ?_;simp only[zx];refine T.sr ?_;simp only[zx];refine T.sr ?_;simp only[zx];refine T.sr ?_;simp only[zx];refine T.ret (gG ?_);simp only[zx,zr,du];exact .refl _
 .simp only[zx];refine T.sr ?_;simp only[zx,qaa,kaa,Aab,Aaa,if_true];refine T.sr ?_;simp only[zx,qaa,kaa,Aab,Aaa,if_true];refine T.sr ?_;simp only[zx,qaa,kaa,Aab,Aaa,if_true];refine T.ret (Rl ?_);simp only[zx,zr,gk,Ji,yv,ze,Maa,Wab];exact fq (by simp only[zg])
theorem yD{r}(h:tB []=some r):Den Tryz.prog 24 [.v (.slice none 0 0)] (Ib r):=by
 obtain rfl:=Iaa h;refine dk 23 n7 ?_ rfl;simp only[n7,Kf.of,zs,ze];refine T.sr ?_;simp only[zx];refine T.sr ?_;simp only[zx];apply Cj;apply Kv Y0 21 rfl
 .simp only[Y0,Kf.of,zs,ze];refine T.sr ?_;simp only[zx];refine T.sr ?_;simp only[zx];refine T.sr ?_;simp only[zx];refine T.sr ?_;simp only[zx];refine T.sr ?_;simp only[zx];refine T.ret (gG ?_);simp only[zx,zr,du];exact .refl _
 .simp only[zx];refine T.sr ?_;simp only[zx,qaa,kaa,Aab,Aaa,if_true];refine T.sr ?_;simp only[zx,qaa,kaa,Aab,Aaa,if_true];refine T.sr ?_;simp only[zx,qaa,kaa,Aab,Aaa,if_true];refine T.ret (Rl ?_);simp only[zx,zr,gk,Ji,yv,ze,Maa,Wab];exact fq (by simp only[zg])
instance {t0 r}:Con (Xx t0=some r) (HB Tryz.prog 24 [] [] 2 (t0.map Ea) (Ib r)):=⟨TG⟩
instance {r}:Con (tB []=some r) (Den Tryz.prog 24 [.v (.slice none 0 0)] (Ib r)):=⟨yD⟩
theorem UG{r}(h:jr=some r):Den Tryz.prog 44 [] (Ib r):=by
 obtain rfl:=Iaa h;refine dk 44 k44 ?_;simp only[k44,Kf.of,zs,ze];refine T.sr ?_;simp only[zx];refine T.sr ?_;simp only[zx];apply Cj;apply Kv Y0 21 rfl
 .simp only[Y0,Kf.of,zs,ze];refine T.sr ?_;simp only[zx];refine T.sr ?_;simp only[zx];refine T.sr ?_;simp only[zx];refine T.sr ?_;simp only[zx];refine T.sr ?_;simp only[zx];refine T.ret (gG ?_);simp only[zx,zr,du];exact .refl _
 .simp only[zx];refine T.sr ?_;simp only[zx,qaa,kaa,Aab,Aaa,if_true];refine T.sr ?_;simp only[zx,qaa,kaa,Aab,Aaa,if_true];refine T.sr ?_;simp only[zx,qaa,kaa,Aab,Aaa,if_true];refine T.sr ?_;simp only[zx,qaa,kaa,Aab,Aaa,if_true];refine T.sr ?_;simp only[zx,qaa,kaa,Aab,Aaa,if_true];refine T.qx (T.ay gn [[],[],[],[],[],[],[],[],[],[1]] (by kernel_rfl) ?_);simp only[zx,zy,qaa,kaa,Aab,Aaa,if_true];refine⟨by decide,?_⟩;refine T.sr ?_;simp only[zx,qaa,kaa,Aab,Aaa,if_true];refine T.ret (Rl ?_);simp only[zx,zr,gk,Ji,yv,ze,Maa,Wab];exact fq (by simp only[zg])
instance {r}:Con (jr=some r) (Den Tryz.prog 44 [] (Ib r)):=⟨UG⟩
end Go.Proofs.Dev
