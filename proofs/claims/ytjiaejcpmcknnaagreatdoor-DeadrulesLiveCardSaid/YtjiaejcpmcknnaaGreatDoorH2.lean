/-
  Contracts by hand: the conditions stand in each.
-/
import Derived.Test.YtjiaejcpmcknnaaGreatDoorC3
import Derived.Test.YtjiaejcpmcknnaaGreatDoorPA
import Derived.Test.YtjiaejcpmcknnaaGreatDoorK
import Derived.Test.YtjiaejcpmcknnaaGreatDoorEC
import Derived.Test.YtjiaejcpmcknnaaGreatDoorSH
import Derived.Lib.ItoaNum
import Derived.Test.YtjiaejcpmcknnaaGreatDoorG
import Derived.Test.YtjiaejcpmcknnaaGreatDoorC0
import Derived.Test.YtjiaejcpmcknnaaGreatDoorC1
import Derived.Test.YtjiaejcpmcknnaaGreatDoorC2
open Int renaming reduceEq->Uac,reduceLE->Yac,reduceLT->Vac,reduceToNat->Rac
open List renaming map_cons->Bad,map_nil->Vae,replicate->Nac
open Nat renaming add_comm->Fae,add_mul->Yae,div_add_mod->Tae,div_le_self->iag,div_lt_iff_lt_mul->Faf,land->Kag,le_antisymm->Vag,le_div_iff_mul_le->jag,lor->cah,lt_of_le_of_lt->xaf,lt_trans->Gag,min_eq_left->Wag,mod_lt->Caf,mul_comm->Kae,mul_div_mul_right->kag,mul_le_mul->pag,mul_le_mul_right->uad,mul_right_comm->xag,not_lt->gah,pow_add->uag,reduceAdd->kad,reduceEqDiff->Had,reduceLT->xae,reduceSub->Xad,two_pow_pos->Naf,zero_add->oae,zero_le->Sad
open Option.some renaming inj->nad
set_option linter.all false
set_option maxHeartbeats 2000000
set_option maxRecDepth 10000
namespace Go.Proofs.Dev
open Go Go.Tm
def u64(n:Nat):D:=.v (.int .u64 n)
def i64(n:Int):D:=.v (.int .i64 n)
theorem sh32:(2 ^ min (Int.toNat 32) IntKind.u64.bits:Nat)=4294967296:=rfl
theorem andM{x:Nat}(h:x<18446744073709551616):HD Kag .u64 (x:Int) 4294967295=.int .u64 ((x % 4294967296:Nat):Int):=by
 have e1:((x:Int) % cG .u64).toNat=x:=by simp only[cG];omega
 have e2:((4294967295:Int) % cG .u64).toNat=4294967295:=by decide
 unfold HD;rw[e1,e2];have e3:Kag x 4294967295=x % 4294967296:=Nat.and_two_pow_sub_one_eq_mod x 32;rw[e3,Sc (by omega)]
theorem mulN(a b:Nat):(a:Int)*(b:Int)=((a*b:Nat):Int):=(Int.natCast_mul a b).symm
theorem addN(a b:Nat):(a:Int)+(b:Int)=((a+b:Nat):Int):=(Int.natCast_add a b).symm
theorem MM{P:Program}{k:Nat}{vs us:List Value}(hE:Tm.Enters P k) (h:∀w,Calls P k vs.toArray w λe w'=>e=.returned (.tuple us.toArray)/\w'=w):Den P k (vs.map .v) (.tup (us.map .v)):=by
 refine λm=>⟨hE,λG w us' hv hi=>?_⟩;have key:∀(vs us:List Value),VsRel G w (vs.map .v) us->us=vs:=by
  intro vs
  induction vs with
  |nil=>intro us h;simpa [VsRel] using h
  |cons x l ih=>
   intro us h;simp only[Bad,VsRel,VRel]at h;obtain⟨u,r,rfl,rfl,h2⟩:=h;rw[ih r h2]
 have key2:∀us:List Value,VsRel G w (us.map .v) us:=by
  intro us
  induction us with
  |nil=>simp[VsRel]
  |cons x l ih=>simp only[Bad,VsRel,VRel];exact⟨x,l,rfl,rfl,ih⟩
 obtain rfl:=key vs us' hv;refine(h w).mono ?_;rintro e w' ⟨rfl,rfl⟩;refine⟨_,_,_,G,rfl,⟨rfl,rfl⟩,?_,hi,Step.refl _ _ _⟩;simp only[VRel];exact⟨us,rfl,key2 us⟩
theorem Mz{t0 t1:Int}{r:Int×Int}(h:Co t0 t1=some r):Den Tryz.prog 311 [Wn t0,Wn t1] (.tup [Wn r.1,Wn r.2]):=by
 unfold Co at h;split at h
 .rename_i hc;obtain⟨x,rfl⟩:∃x:Nat,t0=x:=⟨t0.toNat,by omega⟩;obtain⟨y,rfl⟩:∃y:Nat,t1=y:=⟨t1.toNat,by omega⟩;obtain rfl:=nad h;have h1:=MM (vs:=[.int .u64 x,.int .u64 y]) (us:=[.int .u64 ((x*y / 18446744073709551616:Nat):Int),.int .u64 ((x*y % 18446744073709551616:Nat):Int)]) (xA k311.ok k311.nm) (λw=>Tryz.bits_Mul64 x y (by omega) (by omega) w);have e1:(x:Int)*(y:Int) / 18446744073709551616=((x*y / 18446744073709551616:Nat):Int):=by rw[mulN];omega
  have e2:(x:Int)*(y:Int) % 18446744073709551616=((x*y % 18446744073709551616:Nat):Int):=by rw[mulN];omega
  dsimp only;rw[e1,e2];exact h1
 .cases h
def kO(Y:Nat):Prop:=9223372036854775808<=Y/\Y<18446744073709551616
theorem lz55(y:Nat) (h0:0<y) (hy:y<18446744073709551616) (m:List Ent):CallT Tryz.prog 340 [u64 y] m λd m'=>(∃s:Nat,d=i64 s/\s<=63/\kO (y*2 ^ s))/\m'=m:=by
 obtain⟨h1,h2,h3⟩:=Lib.bitLenAux_bounds 64 y hy (by omega);have h4:Lib.bitLenAux 64 y<=64:=by
  by_cases hc:Lib.bitLenAux 64 y<=64
  .exact hc
  .have:2 ^ 64<=2 ^ (Lib.bitLenAux 64 y-1):=Nat.pow_le_pow_right (by decide) (by omega);omega
 have h5:=lI (vs:=[.int .u64 y]) (xA k340.ok k340.nm) (λw=>Tryz.bits_LeadingZeros64 (y:Int) w (by omega) (by omega));refine(h5 m).mono ?_;rintro d m' ⟨rfl,rfl⟩;refine⟨⟨64-Lib.bitLenAux 64 y,?_,by omega,?_,?_⟩,rfl⟩
 .unfold i64 Lib.bitLen;rw[Int.toNat_natCast];congr 2;omega
 .have:=uad (2 ^ (64-Lib.bitLenAux 64 y)) h2;rw[←uag,show Lib.bitLenAux 64 y-1+(64-Lib.bitLenAux 64 y)=63 by omega]at this;exact this
 .have:=Nat.mul_lt_mul_of_pos_right h3 (Naf (64-Lib.bitLenAux 64 y));rw[←uag,show Lib.bitLenAux 64 y+(64-Lib.bitLenAux 64 y)=64 by omega]at this;exact this
theorem PS(n:Nat):decide ((n:Int)<0)=false:=by simp
theorem lor64{a b s:Nat}(hb:b<2 ^ s) (h:2 ^ s*a+b<18446744073709551616):HD cah .u64 ((2 ^ s*a:Nat):Int) (b:Int)=.int .u64 ((2 ^ s*a+b:Nat):Int):=by
 have e1:(((2 ^ s*a:Nat):Int) % cG .u64).toNat=2 ^ s*a:=by simp only[cG];omega
 have e2:((b:Int) % cG .u64).toNat=b:=by simp only[cG];omega
 unfold HD;rw[e1,e2];have e3:cah (2 ^ s*a) b=2 ^ s*a+b:=(Nat.two_pow_add_eq_or_of_lt hb a).symm;rw[e3,Sc h]
theorem scaled{N y s q R:Nat}(hy:0<y) (h:N*2 ^ s=q*(y*2 ^ s)+R) (hR:R<y*2 ^ s):N / y=q/\N % y=R / 2 ^ s:=by
 have hp:=Naf s;have h1:N*2 ^ s / (y*2 ^ s)=q:=by
  rw[h,Fae,Nat.add_mul_div_right _ _ (Nat.mul_pos hy hp),Nat.div_eq_of_lt hR,oae]
 have h2:N*2 ^ s % (y*2 ^ s)=R:=by
  rw[h,Fae,Nat.add_mul_mod_self_right,Nat.mod_eq_of_lt hR]
 rw[kag _ _ hp]at h1;rw[Nat.mul_mod_mul_right]at h2;exact⟨h1,by rw[←h2,Nat.mul_div_cancel _ hp]⟩
theorem C2(a b c:Int):ca .u64 (ca .u64 (ca .u64 a+b)-ca .u64 c)=ca .u64 (a+b-c):=by
 simp only[ca];omega
structure DivF (hi lo y s Y v w e U L:Nat):Prop where
 hY:y*2 ^ s=Y
 hYn:kO Y
 hYv:Y=4294967296*v+w
 hwB:w<4294967296
 hU:2 ^ s*hi+e=U
 hUY:U<Y
 hLM:L<18446744073709551616
 hN:(hi*18446744073709551616+lo)*2 ^ s=U*18446744073709551616+L
 he:lo / 2 ^ (64-s)=e
 hv:Y / 4294967296=v
 hv0:¬(v:Int)=0
 m1:min s IntKind.u64.bits=s
 m2:min (64-s) IntKind.u64.bits=64-s
 f1:ca .u64 (s:Int)=(s:Int)
 f2:ca .u64 ((y:Int)*((2 ^ s:Nat):Int))=(Y:Int)
 f3:ca .u64 ((hi:Int)*((2 ^ s:Nat):Int))=((2 ^ s*hi:Nat):Int)
 f4:ca .u64 (64-(s:Int))=((64-s:Nat):Int)
 f6:HD cah .u64 ((2 ^ s*hi:Nat):Int) (e:Int)=.int .u64 (U:Int)
 f7:ca .u64 ((lo:Int)*((2 ^ s:Nat):Int))=(L:Int)
 f8:HD Kag .u64 (Y:Int) 4294967295=.int .u64 (w:Int)
 f9:HD Kag .u64 (L:Int) 4294967295=.int .u64 ((L % 4294967296:Nat):Int)
theorem cQ(hi lo y s:Nat) (hhi:hi<y) (hlo:lo<18446744073709551616) (s2:s<=63) (s3:kO (y*2 ^ s)):∃Y v w e U L,DivF hi lo y s Y v w e U L:=by
 simp only[kO]at s3;obtain⟨Y,hY⟩:∃Y,y*2 ^ s=Y:=⟨_,rfl⟩;rw[hY]at s3;obtain⟨v,hv⟩:∃v,Y / 4294967296=v:=⟨_,rfl⟩;obtain⟨w,hw⟩:∃w,Y % 4294967296=w:=⟨_,rfl⟩;have hYv:Y=4294967296*v+w:=by omega
 have hwB:w<4294967296:=by omega
 have hv0:¬(v:Int)=0:=by omega
 have m1:min s IntKind.u64.bits=s:=Wag (by show s<=64;omega);have m2:min (64-s) IntKind.u64.bits=64-s:=Wag (by show 64-s<=64;omega);obtain⟨e,he⟩:∃e,lo / 2 ^ (64-s)=e:=⟨_,rfl⟩;have hes:e<2 ^ s:=by
  rw[←he,Faf (Naf _),←uag,show s+(64-s)=64 by omega];exact hlo
 have hhs:2 ^ s*hi+2 ^ s<=Y:=by
  rw[←hY,←Nat.mul_succ,Kae];exact uad _ hhi
 obtain⟨U,hU⟩:∃U,2 ^ s*hi+e=U:=⟨_,rfl⟩;have hUY:U<Y:=by omega
 obtain⟨L,hL⟩:∃L,lo*2 ^ s % 18446744073709551616=L:=⟨_,rfl⟩;have hLM:L<18446744073709551616:=by omega
 have hloe:lo*2 ^ s=e*18446744073709551616+L:=by
  have h1:lo*2 ^ s / 18446744073709551616=e:=by
   rw[←he,show(18446744073709551616:Nat)=2 ^ (64-s)*2 ^ s by rw[←uag,show 64-s+s=64 by omega],kag _ _ (Naf s)]
  omega
 have hN:(hi*18446744073709551616+lo)*2 ^ s=U*18446744073709551616+L:=by
  have h2:hi*18446744073709551616*2 ^ s=2 ^ s*hi*18446744073709551616:=by
   rw[xag,Kae hi]
  rw[Yae,hloe,h2];omega
 have f1:ca .u64 (s:Int)=(s:Int):=Sc (by omega);have f2:ca .u64 ((y:Int)*((2 ^ s:Nat):Int))=(Y:Int):=by rw[mulN,hY,Sc s3.2]
 have f3:ca .u64 ((hi:Int)*((2 ^ s:Nat):Int))=((2 ^ s*hi:Nat):Int):=by rw[mulN,Kae hi,Sc (by omega)]
 have f4:ca .u64 (64-(s:Int))=((64-s:Nat):Int):=by rw[show(64:Int)-(s:Int)=((64-s:Nat):Int) by omega,Sc (by omega)]
 have f6:HD cah .u64 ((2 ^ s*hi:Nat):Int) (e:Int)=.int .u64 (U:Int):=by rw[lor64 hes (by omega),hU]
 have f7:ca .u64 ((lo:Int)*((2 ^ s:Nat):Int))=(L:Int):=by rw[mulN];simp only[ca];omega
 have f8:=andM (x:=Y) s3.2;have f9:=andM (x:=L) hLM;rw[hw]at f8;exact⟨Y,v,w,e,U,L,⟨hY,s3,hYv,hwB,hU,hUY,hLM,hN,he,hv,hv0,m1,m2,f1,f2,f3,f4,f6,f7,f8,f9⟩⟩
structure Dig (Y v w U u:Nat):Prop where
 hY:Y=4294967296*v+w
 hv:2147483648<=v
 hYM:Y<18446744073709551616
 hw:w<4294967296
 hU:U<Y
 hu:u<4294967296
structure Guess (Y v w U u q r:Nat):Prop where
 hP:q*v+r=U
 hr:r<4294967296
 hQ:(U*4294967296+u) / Y<=q
section
variable {Y v w U u q r:Nat}
theorem Dig.cY(D:Dig Y v w U u) (q:Nat):q*Y=4294967296*(q*v)+q*w:=by
 rw[D.hY,Nat.mul_add,Nat.mul_left_comm]
theorem Dig.y3(D:Dig Y v w U u):(U*4294967296+u) / Y<4294967296:=by
 have h:=D.hU;have h1:=D.hu;have h2:=D.hv;have h3:=D.hY;rw[Faf (by omega)];omega
theorem Dig.q_le(D:Dig Y v w U u) {q r:Nat}(h:q*v+r=U):q<=4294967297:=by
 have h0:=D.hU;have h1:=D.hw;have h2:=D.hv;have h3:=D.hY;have:q*v<4294967298*v:=by omega
 have:=Nat.lt_of_mul_lt_mul_right this;omega
theorem Dig.start(D:Dig Y v w U u):Guess Y v w U u (U / v) (U % v)\/(4294967296<=U % v):=by
 have h0:=D.hU;have h1:=D.hw;have h2:=D.hv;have h3:=D.hY;have h4:=D.hYM;have hp:0<v:=by omega
 left;have hm:=Caf U hp;have hd:U / v*v+U % v=U:=by rw[Kae];exact Tae U v
 refine⟨hd,by omega,?_⟩;rw[Nat.div_le_iff_le_mul_add_pred (by omega)];have e:=D.cY (U / v);rw[Kae]at e;rw[e];have h5:=D.hu;omega
theorem Guess.less(D:Dig Y v w U u) (G:Guess Y v w U u q r) (h:4294967296<=q\/4294967296*r+u<q*w):1<=q/\(U*4294967296+u) / Y<=q-1/\(q-1)*v+(r+v)=U:=by
 have hlt:(U*4294967296+u) / Y<q:=by
  rcases h with h|h
  .exact Nat.lt_of_lt_of_le D.y3 h
  .have h1:=D.hY;have h2:=D.hv;rw[Faf (by omega),D.cY];have:=G.hP;omega
 have h1:1<=q:=xaf (Sad _) hlt;refine⟨h1,Nat.le_sub_one_of_lt hlt,?_⟩;have e:q*v=(q-1)*v+v:=by rw[←Nat.succ_mul];congr 1;omega
 have:=G.hP;omega
theorem Guess.done(D:Dig Y v w U u) (G:Guess Y v w U u q r) (h:q*w<=4294967296*r+u):q=(U*4294967296+u) / Y:=by
 refine Vag ?_ G.hQ;have h1:=D.hY;have h2:=D.hv;rw[jag (by omega),D.cY];have:=G.hP;omega
theorem Dig.big(D:Dig Y v w U u) (hP:q*v+r=U) (hr:4294967296<=r) (hq:q<=4294967296) (hQ:(U*4294967296+u) / Y<=q):q=(U*4294967296+u) / Y:=by
 refine Vag ?_ hQ;have h1:=D.hY;have h2:=D.hv;have h3:=D.hw;rw[jag (by omega),D.cY];have:=pag hq (show w<=4294967296 by omega);omega
end
theorem kW{q:Nat}(h1:1<=q) (h2:q<18446744073709551616):ca .u64 ((q:Int)-1)=((q-1:Nat):Int):=by
 rw[show(q:Int)-1=((q-1:Nat):Int) by omega,Sc (by omega)]
theorem baa(hi lo y:Nat) (hhi:hi<y) (hlo:lo<18446744073709551616) (hy:y<18446744073709551616) :
 Den Tryz.prog 312 [u64 hi,u64 lo,u64 y] (.tup [u64 ((hi*18446744073709551616+lo) / y),u64 ((hi*18446744073709551616+lo) % y)]):=by
 have c1:¬(y:Int)=0:=by omega
 have c2:¬(y:Int)<=(hi:Int):=by omega
 simp only[u64];by_cases h0:hi=0
 .subst h0;have c2':¬(y:Int)<=0:=by omega
  have hlq:lo / y<18446744073709551616:=xaf (iag _ _) hlo;have q1:ca .u64 (Int.tdiv (lo:Int) (y:Int))=((lo / y:Nat):Int):=Sc hlq;have q2:Int.tmod (lo:Int) (y:Int)=((lo % y:Nat):Int):=rfl;refine dk (hf:=rfl) 132 LX ?_;simp only[LX,Kf.of,zs,ze];refine Z.T Rn ?_;simp only[c1,c2',jS,q1,q2,Nat.zero_mul,oae,zz,Am,jr,xm,ir,lr,wm,Di,zm,ym,kr,Mc,Hf,Ci,leaves,undef,Xw,Vac,C.qE,C.Vk,vc,contents,gate,fa,St.ev,St.put,Nac,Xad,kad,oh,Qc,Cb,tu,D.ok,D.cells,one,reduceCtorEq,Had,Uac];exact er (by simp only[zz,zr];exact fq (by simp only[zg]))
 .have c3:¬(hi:Int)=0:=by omega
  refine dk (hf:=rfl) 132 LX ?_;simp only[LX,Kf.of,zs,ze];refine Z.T Rn ?_;simp only[c1,c2,c3,zz,Am,jr,xm,ir,lr,wm,Di,zm,ym,kr,Mc,Hf,Ci,leaves,undef,Xw,Vac,C.qE,C.Vk,vc,contents,gate,fa,St.ev,St.put,Nac,Xad,kad,oh,Qc,Cb,tu,D.ok,D.cells,one,reduceCtorEq,Had,Uac];refine pv (lz55 y (by omega) hy _) ?_;intro d m' hh;obtain⟨⟨s,hd,s2,s3⟩,hm'⟩:=hh;obtain⟨Y,v,w,e,U,L,F⟩:=cQ hi lo y s hhi hlo s2 s3;have D1:Dig Y v w U (L / 4294967296):=⟨F.hYv,by have:=F.hYn.1;have:=F.hYv;have:=F.hwB;omega,F.hYn.2,F.hwB,F.hUY,by have:=F.hLM;omega⟩;have hvM:v<18446744073709551616:=by have:=F.hYv;have:=F.hYn.2;omega
  have hUM:U<18446744073709551616:=Gag F.hUY F.hYn.2;have hvp:0<v:=by have:=D1.hv;omega
  have hdiv:∀n:Nat,n<18446744073709551616->ca .u64 (Int.tdiv (n:Int) (v:Int))=((n / v:Nat):Int):=λn hn=>Sc (xaf (iag _ _) hn);have hmul:∀n:Nat,n<18446744073709551616->ca .u64 (((n / v:Nat):Int)*(v:Int))=((n / v*v:Nat):Int):=λn hn=>by rw[mulN,Sc (xaf (Nat.div_mul_le_self _ _) hn)]
  have hsub:∀n:Nat,n<18446744073709551616->ca .u64 ((n:Int)-((n / v*v:Nat):Int))=((n % v:Nat):Int):=λn hn=>by
   have:=Tae n v;rw[Kae]at this;rw[show(n:Int)-((n / v*v:Nat):Int)=((n % v:Nat):Int) by omega,Sc (by omega)]
  have g1:=hdiv U hUM;have g2:=hmul U hUM;have g3:=hsub U hUM;simp only[hd,hm',zz,Am,jr,xm,ir,lr,wm,Di,zm,ym,kr,Mc,Hf,Ci,leaves,undef,Xw,Vac,C.qE,C.Vk,vc,contents,gate,fa,St.ev,St.put,Nac,Xad,kad,oh,Qc,Cb,tu,D.ok,D.cells,one,reduceCtorEq,Had,Uac,i64,PS,F.m1,F.m2,F.f1,F.f2,F.f3,F.f4,Y0,F.he,F.f6,F.f7,F.f8,F.f9,sh32,F.hv,F.hv0,g1,g2,g3,jS];refine T.JK (X:=Nat×Nat) (λx=>⟨[.dead,.dead,u64 Y,.dead,.dead,.dead,.dead,.dead,u64 s,u64 v,u64 w,u64 U,.dead,u64 (L / 4294967296),u64 (L % 4294967296),u64 x.1,u64 x.2,.dead,.dead,.dead,.dead,.dead,.dead,.dead,.dead,.dead,.dead,.dead,.dead,.dead,.dead,.dead,.dead,.dead,.dead,.dead,.dead,.dead,.dead,.dead,.dead,.dead,.dead,.dead,.dead,.dead,.dead,.dead,.dead,.dead,.dead,.dead,.dead,.dead,.dead,.dead,.dead,.dead,.dead,.dead,.dead,.dead,.dead,.dead,.dead,.dead,.dead,.dead,.dead,.dead,.dead,.dead,.dead,.dead,.dead,.dead,.dead,.dead,.dead,.dead,.dead,.dead,.dead,.dead,.dead,.dead,.dead,.dead,.dead,.dead,.dead,.dead,.dead,.dead,.dead,.dead,.dead,.dead,.dead,.dead,.dead,.dead,.dead,.dead,.dead,.dead,.dead,.dead,.dead,.dead,.dead,.dead,.dead,.dead,.dead,.dead,.dead,.dead,.dead,.dead,.dead,.dead,.dead,.dead,.dead,.dead,.dead,.dead,.dead,.dead,.dead,.dead,.dead,.dead,.dead],[]⟩)
   (λx=>Guess Y v w U (L / 4294967296) x.1 x.2/\x.1<=4294967297) (λx=>x.1=(U*4294967296+L / 4294967296) / Y) (λx=>4294967296-x.2) (U / v,U % v) ?_ ?_ ?_ ?_ (λ_=>by repeat (first|exact my|exact aO|exact JV|exact cO|refine ZN ?_)) ?_
  .exact⟨D1.start.resolve_right (by have:=Caf U hvp;have:=F.hYv;have:=F.hYn.2;omega),D1.q_le (r:=U % v) (by rw[Kae];exact Tae U v)⟩
  .exact At.same _ _ _ (by repeat (first|exact sa.qc _|refine sa.cons (Sub.refl _) ?_|refine sa.cons (Sub.ob _) ?_))
  .rintro⟨q,r⟩ _;exact⟨Sad _,by simp[belows,below,u64],by simp⟩
  .rintro⟨q,r⟩ ⟨hG,hq1⟩;refine Z.T Rn ?_;simp only at hG hq1;have hrB:=hG.hr;have huB:=D1.hu;have e0:(4294967296:Int)*(r:Int)=((4294967296*r:Nat):Int):=by omega
   have e1:ca .u64 ((4294967296*r:Nat):Int)=((4294967296*r:Nat):Int):=Sc (by omega);have e2:ca .u64 (((4294967296*r:Nat):Int)+((L / 4294967296:Nat):Int))=((4294967296*r+L / 4294967296:Nat):Int):=by rw[addN,Sc (by omega)]
   have e4:ca .u64 ((r:Int)+(v:Int))=((r+v:Nat):Int):=by rw[addN,Sc (by have:=F.hYv;have:=F.hYn.2;omega)]
   have e5:ca .u64 ((q:Int)*(w:Int))=ca .u64 ((q*w:Nat):Int):=by rw[mulN]
   have out:∀c1:(4294967296<=q\/4294967296*r+L / 4294967296<q*w),ca .u64 ((q:Int)-1)=((q-1:Nat):Int)/\(4294967296<=r+v->q-1=(U*4294967296+L / 4294967296) / Y)/\(r+v<4294967296->Guess Y v w U (L / 4294967296) (q-1) (r+v)):=λc1=>by
    obtain⟨k1,k2,k3⟩:=hG.less D1 c1;exact⟨kW k1 (by omega),λh=>D1.big k3 h (by omega) k2,λh=>⟨k3,h,k2⟩⟩
   by_cases c1:4294967296<=q
   .have c1':(4294967296:Int)<=(q:Int):=by omega
    obtain⟨o1,o2,o3⟩:=out (.inl c1);by_cases c2:4294967296<=r+v
    .have c2':(4294967296:Int)<=((r+v:Nat):Int):=by omega
     simp only[u64,zz,Am,jr,xm,ir,lr,wm,Di,zm,ym,kr,Mc,Hf,Ci,leaves,undef,Xw,Vac,C.qE,C.Vk,vc,contents,gate,fa,St.ev,St.put,Nac,Xad,kad,oh,Qc,Cb,tu,D.ok,D.cells,one,reduceCtorEq,Had,Uac,c1',o1,e4,c2'];exact⟨(q-1,r+v),o2 c2,At.same _ _ _ (by repeat (first|exact sa.qc _|refine sa.cons (Sub.refl _) ?_|refine sa.cons (Sub.ob _) ?_))⟩
    .have c2':¬(4294967296:Int)<=((r+v:Nat):Int):=by omega
     simp only[u64,zz,Am,jr,xm,ir,lr,wm,Di,zm,ym,kr,Mc,Hf,Ci,leaves,undef,Xw,Vac,C.qE,C.Vk,vc,contents,gate,fa,St.ev,St.put,Nac,Xad,kad,oh,Qc,Cb,tu,D.ok,D.cells,one,reduceCtorEq,Had,Uac,c1',o1,e4,c2'];exact⟨(q-1,r+v),⟨o3 (by omega),by show q-1<=_;omega⟩,by show 4294967296-(r+v)<4294967296-r;have:=D1.hv;omega,At.same _ _ _ (by repeat (first|exact sa.qc _|refine sa.cons (Sub.refl _) ?_|refine sa.cons (Sub.ob _) ?_))⟩
   .have c1':¬(4294967296:Int)<=(q:Int):=by omega
    have e6:ca .u64 ((q*w:Nat):Int)=((q*w:Nat):Int):=Sc (by
     have:=pag (show q<=4294967295 by omega) (show w<=4294967295 by have:=F.hwB;omega);omega)
    by_cases c3:4294967296*r+L / 4294967296<q*w
    .obtain⟨o1,o2,o3⟩:=out (.inr c3);by_cases c2:4294967296<=r+v
     .have c2':(4294967296:Int)<=((r+v:Nat):Int):=by omega
      simp only[u64,zz,Am,jr,xm,ir,lr,wm,Di,zm,ym,kr,Mc,Hf,Ci,leaves,undef,Xw,Vac,C.qE,C.Vk,vc,contents,gate,fa,St.ev,St.put,Nac,Xad,kad,oh,Qc,Cb,tu,D.ok,D.cells,one,reduceCtorEq,Had,Uac,c1',o1,e0,e1,e2,e4,e5,e6,CI,c3,c2'];exact⟨(q-1,r+v),o2 c2,At.same _ _ _ (by repeat (first|exact sa.qc _|refine sa.cons (Sub.refl _) ?_|refine sa.cons (Sub.ob _) ?_))⟩
     .have c2':¬(4294967296:Int)<=((r+v:Nat):Int):=by omega
      simp only[u64,zz,Am,jr,xm,ir,lr,wm,Di,zm,ym,kr,Mc,Hf,Ci,leaves,undef,Xw,Vac,C.qE,C.Vk,vc,contents,gate,fa,St.ev,St.put,Nac,Xad,kad,oh,Qc,Cb,tu,D.ok,D.cells,one,reduceCtorEq,Had,Uac,c1',o1,e0,e1,e2,e4,e5,e6,CI,c3,c2'];exact⟨(q-1,r+v),⟨o3 (by omega),by show q-1<=_;omega⟩,by show 4294967296-(r+v)<4294967296-r;have:=D1.hv;omega,At.same _ _ _ (by repeat (first|exact sa.qc _|refine sa.cons (Sub.refl _) ?_|refine sa.cons (Sub.ob _) ?_))⟩
    .simp only[u64,zz,Am,jr,xm,ir,lr,wm,Di,zm,ym,kr,Mc,Hf,Ci,leaves,undef,Xw,Vac,C.qE,C.Vk,vc,contents,gate,fa,St.ev,St.put,Nac,Xad,kad,oh,Qc,Cb,tu,D.ok,D.cells,one,reduceCtorEq,Had,Uac,c1',e0,e1,e2,e4,e5,e6,CI,c3];exact⟨(q,r),hG.done D1 (gah.1 c3),At.same _ _ _ (by repeat (first|exact sa.qc _|refine sa.cons (Sub.refl _) ?_|refine sa.cons (Sub.ob _) ?_))⟩
  .rintro⟨q,r⟩ hq;simp only at hq;obtain⟨Q,hQ⟩:∃Q,(U*4294967296+L / 4294967296) / Y=Q:=⟨_,rfl⟩;rw[hQ]at hq;subst hq;obtain⟨R,hR⟩:∃R,(U*4294967296+L / 4294967296) % Y=R:=⟨_,rfl⟩;have hYp:0<Y:=by have:=F.hYn.1;omega
   have hRY:R<Y:=by rw[←hR];exact Caf _ hYp
   have hdm:=Tae (U*4294967296+L / 4294967296) Y;rw[hQ,hR,Kae]at hdm;have hRM:R<18446744073709551616:=Gag hRY F.hYn.2;have D2:Dig Y v w R (L % 4294967296):=⟨F.hYv,D1.hv,F.hYn.2,F.hwB,hRY,Caf _ (by decide)⟩;have k1:ca .u64 ((U:Int)*4294967296+((L / 4294967296:Nat):Int)-(q:Int)*(Y:Int))=(R:Int):=by
    rw[mulN,show(U:Int)*4294967296+((L / 4294967296:Nat):Int)-((q*Y:Nat):Int)=(R:Int) by omega,Sc hRM]
   simp only[zz,Am,jr,xm,ir,lr,wm,Di,zm,ym,kr,Mc,Hf,Ci,leaves,undef,Xw,Vac,C.qE,C.Vk,vc,contents,gate,fa,St.ev,St.put,Nac,Xad,kad,oh,Qc,Cb,tu,D.ok,D.cells,one,reduceCtorEq,Had,Uac];refine Z.T Rn ?_;simp only[u64,zz,Am,jr,xm,ir,lr,wm,Di,zm,ym,kr,Mc,Hf,Ci,leaves,undef,Xw,Vac,C.qE,C.Vk,vc,contents,gate,fa,St.ev,St.put,Nac,Xad,kad,oh,Qc,Cb,tu,D.ok,D.cells,one,reduceCtorEq,Had,Uac,C2,k1,F.hv0,hdiv R hRM,hmul R hRM,hsub R hRM];refine T.JK (X:=Nat×Nat) (λx=>⟨[.dead,.dead,u64 Y,.dead,.dead,.dead,.dead,.dead,u64 s,u64 v,u64 w,.dead,.dead,.dead,u64 (L % 4294967296),u64 q,u64 x.2,u64 R,u64 x.1,.dead,.dead,.dead,.dead,.dead,.dead,.dead,.dead,.dead,.dead,.dead,.dead,.dead,.dead,.dead,.dead,.dead,.dead,.dead,.dead,.dead,.dead,.dead,.dead,.dead,.dead,.dead,.dead,.dead,.dead,.dead,.dead,.dead,.dead,.dead,.dead,.dead,.dead,.dead,.dead,.dead,.dead,.dead,.dead,.dead,.dead,.dead,.dead,.dead,.dead,.dead,.dead,.dead,.dead,.dead,.dead,.dead,.dead,.dead,.dead,.dead,.dead,.dead,.dead,.dead,.dead,.dead,.dead,.dead,.dead,.dead,.dead,.dead,.dead,.dead,.dead,.dead,.dead,.dead,.dead,.dead,.dead,.dead,.dead,.dead,.dead,.dead,.dead,.dead,.dead,.dead,.dead,.dead,.dead,.dead,.dead,.dead,.dead,.dead,.dead,.dead,.dead,.dead,.dead,.dead,.dead,.dead,.dead,.dead,.dead,.dead,.dead,.dead,.dead,.dead,.dead],[]⟩)
    (λx=>Guess Y v w R (L % 4294967296) x.1 x.2/\x.1<=4294967297) (λx=>x.1=(R*4294967296+L % 4294967296) / Y) (λx=>4294967296-x.2) (R / v,R % v) ?_ ?_ ?_ ?_ (λ_=>by repeat (first|exact my|exact aO|exact JV|exact cO|refine ZN ?_)) ?_
   .exact⟨D2.start.resolve_right (by have:=Caf R hvp;have:=F.hYv;have:=F.hYn.2;omega),D2.q_le (r:=R % v) (by rw[Kae];exact Tae R v)⟩
   .exact At.same _ _ _ (by repeat (first|exact sa.qc _|refine sa.cons (Sub.refl _) ?_|refine sa.cons (Sub.ob _) ?_))
   .rintro⟨q,r⟩ _;exact⟨Sad _,by simp[belows,below,u64],by simp⟩
   .rintro⟨p,r⟩ ⟨hG,hq1⟩;refine Z.T Rn ?_;simp only at hG hq1;have hrB:=hG.hr;have huB:=D2.hu;have e0:(4294967296:Int)*(r:Int)=((4294967296*r:Nat):Int):=by omega
    have e1:ca .u64 ((4294967296*r:Nat):Int)=((4294967296*r:Nat):Int):=Sc (by omega);have e2:ca .u64 (((4294967296*r:Nat):Int)+((L % 4294967296:Nat):Int))=((4294967296*r+L % 4294967296:Nat):Int):=by rw[addN,Sc (by omega)]
    have e4:ca .u64 ((r:Int)+(v:Int))=((r+v:Nat):Int):=by rw[addN,Sc (by have:=F.hYv;have:=F.hYn.2;omega)]
    have e5:ca .u64 ((p:Int)*(w:Int))=ca .u64 ((p*w:Nat):Int):=by rw[mulN]
    have out:∀c1:(4294967296<=p\/4294967296*r+L % 4294967296<p*w),ca .u64 ((p:Int)-1)=((p-1:Nat):Int)/\(4294967296<=r+v->p-1=(R*4294967296+L % 4294967296) / Y)/\(r+v<4294967296->Guess Y v w R (L % 4294967296) (p-1) (r+v)):=λc1=>by
     obtain⟨k1,k2,k3⟩:=hG.less D2 c1;exact⟨kW k1 (by omega),λh=>D2.big k3 h (by omega) k2,λh=>⟨k3,h,k2⟩⟩
    by_cases c1:4294967296<=p
    .have c1':(4294967296:Int)<=(p:Int):=by omega
     obtain⟨o1,o2,o3⟩:=out (.inl c1);by_cases c2:4294967296<=r+v
     .have c2':(4294967296:Int)<=((r+v:Nat):Int):=by omega
      simp only[u64,zz,Am,jr,xm,ir,lr,wm,Di,zm,ym,kr,Mc,Hf,Ci,leaves,undef,Xw,Vac,C.qE,C.Vk,vc,contents,gate,fa,St.ev,St.put,Nac,Xad,kad,oh,Qc,Cb,tu,D.ok,D.cells,one,reduceCtorEq,Had,Uac,c1',o1,e4,c2'];exact⟨(p-1,r+v),o2 c2,At.same _ _ _ (by repeat (first|exact sa.qc _|refine sa.cons (Sub.refl _) ?_|refine sa.cons (Sub.ob _) ?_))⟩
     .have c2':¬(4294967296:Int)<=((r+v:Nat):Int):=by omega
      simp only[u64,zz,Am,jr,xm,ir,lr,wm,Di,zm,ym,kr,Mc,Hf,Ci,leaves,undef,Xw,Vac,C.qE,C.Vk,vc,contents,gate,fa,St.ev,St.put,Nac,Xad,kad,oh,Qc,Cb,tu,D.ok,D.cells,one,reduceCtorEq,Had,Uac,c1',o1,e4,c2'];exact⟨(p-1,r+v),⟨o3 (by omega),by show p-1<=_;omega⟩,by show 4294967296-(r+v)<4294967296-r;have:=D2.hv;omega,At.same _ _ _ (by repeat (first|exact sa.qc _|refine sa.cons (Sub.refl _) ?_|refine sa.cons (Sub.ob _) ?_))⟩
    .have c1':¬(4294967296:Int)<=(p:Int):=by omega
     have e6:ca .u64 ((p*w:Nat):Int)=((p*w:Nat):Int):=Sc (by
      have:=pag (show p<=4294967295 by omega) (show w<=4294967295 by have:=F.hwB;omega);omega)
     by_cases c3:4294967296*r+L % 4294967296<p*w
     .obtain⟨o1,o2,o3⟩:=out (.inr c3);by_cases c2:4294967296<=r+v
      .have c2':(4294967296:Int)<=((r+v:Nat):Int):=by omega
       simp only[u64,zz,Am,jr,xm,ir,lr,wm,Di,zm,ym,kr,Mc,Hf,Ci,leaves,undef,Xw,Vac,C.qE,C.Vk,vc,contents,gate,fa,St.ev,St.put,Nac,Xad,kad,oh,Qc,Cb,tu,D.ok,D.cells,one,reduceCtorEq,Had,Uac,c1',o1,e0,e1,e2,e4,e5,e6,CI,c3,c2'];exact⟨(p-1,r+v),o2 c2,At.same _ _ _ (by repeat (first|exact sa.qc _|refine sa.cons (Sub.refl _) ?_|refine sa.cons (Sub.ob _) ?_))⟩
      .have c2':¬(4294967296:Int)<=((r+v:Nat):Int):=by omega
       simp only[u64,zz,Am,jr,xm,ir,lr,wm,Di,zm,ym,kr,Mc,Hf,Ci,leaves,undef,Xw,Vac,C.qE,C.Vk,vc,contents,gate,fa,St.ev,St.put,Nac,Xad,kad,oh,Qc,Cb,tu,D.ok,D.cells,one,reduceCtorEq,Had,Uac,c1',o1,e0,e1,e2,e4,e5,e6,CI,c3,c2'];exact⟨(p-1,r+v),⟨o3 (by omega),by show p-1<=_;omega⟩,by show 4294967296-(r+v)<4294967296-r;have:=D2.hv;omega,At.same _ _ _ (by repeat (first|exact sa.qc _|refine sa.cons (Sub.refl _) ?_|refine sa.cons (Sub.ob _) ?_))⟩
     .simp only[u64,zz,Am,jr,xm,ir,lr,wm,Di,zm,ym,kr,Mc,Hf,Ci,leaves,undef,Xw,Vac,C.qE,C.Vk,vc,contents,gate,fa,St.ev,St.put,Nac,Xad,kad,oh,Qc,Cb,tu,D.ok,D.cells,one,reduceCtorEq,Had,Uac,c1',e0,e1,e2,e4,e5,e6,CI,c3];exact⟨(p,r),hG.done D2 (gah.1 c3),At.same _ _ _ (by repeat (first|exact sa.qc _|refine sa.cons (Sub.refl _) ?_|refine sa.cons (Sub.ob _) ?_))⟩
   .rintro⟨p,r'⟩ hp;simp only at hp;obtain⟨Q',hQ'⟩:∃Q,(R*4294967296+L % 4294967296) / Y=Q:=⟨_,rfl⟩;have hp1:=D2.y3;rw[←hp]at hp1;rw[hQ']at hp;subst hp;obtain⟨R',hZ⟩:∃R',(R*4294967296+L % 4294967296) % Y=R':=⟨_,rfl⟩;have hZY:R'<Y:=by rw[←hZ];exact Caf _ hYp
    have hdm2:=Tae (R*4294967296+L % 4294967296) Y;rw[hQ',hZ,Kae]at hdm2;have hq1:=D1.y3;rw[hQ]at hq1;have k2:ca .u64 ((R:Int)*4294967296+((L % 4294967296:Nat):Int)-(p:Int)*(Y:Int))=(R':Int):=by
     rw[mulN,show(R:Int)*4294967296+((L % 4294967296:Nat):Int)-((p*Y:Nat):Int)=(R':Int) by omega,Sc (Gag hZY F.hYn.2)]
    have k3:ca .u64 (ca .u64 ((q:Int)*4294967296)+(p:Int))=((q*4294967296+p:Nat):Int):=by
     rw[show(q:Int)*4294967296=((q*4294967296:Nat):Int) by omega,Sc (by omega),addN,Sc (by omega)]
    have hfin:(hi*18446744073709551616+lo)*2 ^ s=(q*4294967296+p)*(y*2 ^ s)+R':=by
     rw[F.hN,F.hY,Yae,xag];omega
    have hsc:=scaled (by omega) hfin (by rw[F.hY];exact hZY);simp only[zz,Am,jr,xm,ir,lr,wm,Di,zm,ym,kr,Mc,Hf,Ci,leaves,undef,Xw,Vac,C.qE,C.Vk,vc,contents,gate,fa,St.ev,St.put,Nac,Xad,kad,oh,Qc,Cb,tu,D.ok,D.cells,one,reduceCtorEq,Had,Uac];refine Z.T Rn ?_;simp only[u64,zz,Am,jr,xm,ir,lr,wm,Di,zm,ym,kr,Mc,Hf,Ci,leaves,undef,Xw,Vac,C.qE,C.Vk,vc,contents,gate,fa,St.ev,St.put,Nac,Xad,kad,oh,Qc,Cb,tu,D.ok,D.cells,one,reduceCtorEq,Had,Uac,C2,k2,k3,PS,F.m1,Y0,hsc.1,hsc.2];exact er (by simp only[zz,zr];exact fq (by simp only[zg]))
theorem Lz{t0 t1 t2:Int}{r:Int×Int}(h:Bo t0 t1 t2=some r):Den Tryz.prog 312 [Wn t0,Wn t1,Wn t2] (.tup [Wn r.1,Wn r.2]):=by
 unfold Bo at h;split at h
 .rename_i hc;obtain⟨x,rfl⟩:∃x:Nat,t0=x:=⟨t0.toNat,by omega⟩;obtain⟨y,rfl⟩:∃y:Nat,t1=y:=⟨t1.toNat,by omega⟩;obtain⟨z,rfl⟩:∃z:Nat,t2=z:=⟨t2.toNat,by omega⟩;obtain rfl:=nad h;have h1:=baa x y z (by omega) (by omega) (by omega);have e1:((x:Int)*18446744073709551616+(y:Int)) / (z:Int)=(((x*18446744073709551616+y) / z:Nat):Int):=by
   rw[show(x:Int)*18446744073709551616+(y:Int)=((x*18446744073709551616+y:Nat):Int) by omega];rfl
  have e2:((x:Int)*18446744073709551616+(y:Int)) % (z:Int)=(((x*18446744073709551616+y) % z:Nat):Int):=by
   rw[show(x:Int)*18446744073709551616+(y:Int)=((x*18446744073709551616+y:Nat):Int) by omega];rfl
  dsimp only;rw[e1,e2];exact h1
 .cases h
instance {t0 t1 r}:Con (Co t0 t1=some r) (Den Tryz.prog 311 [Wn t0,Wn t1] (.tup [Wn r.1,Wn r.2])):=⟨Mz⟩
instance {t0 t1 t2 r}:Con (Bo t0 t1 t2=some r) (Den Tryz.prog 312 [Wn t0,Wn t1,Wn t2] (.tup [Wn r.1,Wn r.2])):=⟨Lz⟩
end Go.Proofs.Dev
set_option maxHeartbeats 1000000
namespace Go.Proofs.Dev
open Go Go.Tm
theorem zJ{t0 r}(h:Kt t0=some r):GD Tryz.prog 24 [] [] 2 (t0.map La) (ab r):=by
 obtain rfl:=nad h;refine GD.at 23 k24.ok k24.nm AA AA (Fr.l _) rfl ?_;simp only[k24,Kf.of,zs,ze];refine T.sr ?_;simp only[zx];refine T.sr ?_;simp only[zx];apply Ub;apply ox C9 21 rfl
 .simp only[C9,Kf.of,zs,ze];refine T.sr ?_;simp only[zx];refine T.sr ?_;simp only[zx];refine T.sr ?_;simp only[zx];refine T.sr ?_;simp only[zx];refine T.sr ?_;simp only[zx];refine T.ret (TI ?_);simp only[zx,zr,Bv];exact .refl _
 .simp only[zx];refine T.sr ?_;simp only[zx,Yac,Rac,xae,kad,if_true];refine T.sr ?_;simp only[zx,Yac,Rac,xae,kad,if_true];refine T.sr ?_;simp only[zx,Yac,Rac,xae,kad,if_true];refine T.ret (nn ?_);simp only[zx,zr,Ul,Te,Zp,ze,Bad,Vae];exact fq (by simp only[zg])
theorem QF{r}(h:Gu []=some r):Den Tryz.prog 24 [.v (.slice none 0 0)] (ab r):=by
 obtain rfl:=nad h;refine dk 23 k24 ?_ rfl;simp only[k24,Kf.of,zs,ze];refine T.sr ?_;simp only[zx];refine T.sr ?_;simp only[zx];apply Ub;apply ox C9 21 rfl
 .simp only[C9,Kf.of,zs,ze];refine T.sr ?_;simp only[zx];refine T.sr ?_;simp only[zx];refine T.sr ?_;simp only[zx];refine T.sr ?_;simp only[zx];refine T.sr ?_;simp only[zx];refine T.ret (TI ?_);simp only[zx,zr,Bv];exact .refl _
 .simp only[zx];refine T.sr ?_;simp only[zx,Yac,Rac,xae,kad,if_true];refine T.sr ?_;simp only[zx,Yac,Rac,xae,kad,if_true];refine T.sr ?_;simp only[zx,Yac,Rac,xae,kad,if_true];refine T.ret (nn ?_);simp only[zx,zr,Ul,Te,Zp,ze,Bad,Vae];exact fq (by simp only[zg])
theorem AJ{r}(h:ct=some r):Den Tryz.prog 44 [] (ab r):=by
 obtain rfl:=nad h;refine dk 44 k44 ?_;simp only[k44,Kf.of,zs,ze];refine T.sr ?_;simp only[zx];refine T.sr ?_;simp only[zx];apply Ub;apply ox C9 21 rfl
 .simp only[C9,Kf.of,zs,ze];refine T.sr ?_;simp only[zx];refine T.sr ?_;simp only[zx];refine T.sr ?_;simp only[zx];refine T.sr ?_;simp only[zx];refine T.sr ?_;simp only[zx];refine T.ret (TI ?_);simp only[zx,zr,Bv];exact .refl _
 .simp only[zx];refine T.sr ?_;simp only[zx,Yac,Rac,xae,kad,if_true];refine T.sr ?_;simp only[zx,Yac,Rac,xae,kad,if_true];refine T.sr ?_;simp only[zx,Yac,Rac,xae,kad,if_true];refine T.sr ?_;simp only[zx,Yac,Rac,xae,kad,if_true];refine T.sr ?_;simp only[zx,Yac,Rac,xae,kad,if_true];refine T.Yy (T.ay Rn [[],[],[],[],[],[],[],[],[],[1]] (by kernel_rfl) ?_);simp only[zx,zy,Yac,Rac,xae,kad,if_true];refine⟨by decide,?_⟩;refine T.sr ?_;simp only[zx,Yac,Rac,xae,kad,if_true];refine T.ret (nn ?_);simp only[zx,zr,Ul,Te,Zp,ze,Bad,Vae];exact fq (by simp only[zg])
instance {t0 r}:Con (Kt t0=some r) (GD Tryz.prog 24 [] [] 2 (t0.map La) (ab r)):=⟨zJ⟩
instance {r}:Con (Gu []=some r) (Den Tryz.prog 24 [.v (.slice none 0 0)] (ab r)):=⟨QF⟩
instance {r}:Con (ct=some r) (Den Tryz.prog 44 [] (ab r)):=⟨AJ⟩
end Go.Proofs.Dev
