/-
  Contracts by hand: the conditions stand in each.
-/
import Derived.Test.YtjjfnbpfgfopbaaGreatDoorC3
import Derived.Test.YtjjfnbpfgfopbaaGreatDoorPA
import Derived.Test.YtjjfnbpfgfopbaaGreatDoorK
import Derived.Test.YtjjfnbpfgfopbaaGreatDoorED
import Derived.Test.YtjjfnbpfgfopbaaGreatDoorSH
import Derived.Lib.ItoaNum
import Derived.Test.YtjjfnbpfgfopbaaGreatDoorC0
import Derived.Test.YtjjfnbpfgfopbaaGreatDoorC1
import Derived.Test.YtjjfnbpfgfopbaaGreatDoorC2
open Int renaming reduceEq->uaa,reduceLT->Daa
open List renaming map_cons->vaa,replicate->oaa
open Nat renaming div_add_mod->yac,div_le_self->tad,div_lt_iff_lt_mul->Bad,land->Eae,le_antisymm->Uae,le_div_iff_mul_le->Cad,lor->caf,lt_of_le_of_lt->Wac,lt_trans->Kae,min_eq_left->Vae,mod_lt->Lac,mul_comm->Dad,mul_div_mul_right->lae,mul_le_mul->Tac,mul_le_mul_right->kab,not_lt->kaf,pow_add->xae,reduceAdd->Caa,reduceEqDiff->rab,reduceSub->dab,two_pow_pos->Kad,zero_le->qab
open Option.some renaming inj->Iaa
set_option linter.all false
set_option maxHeartbeats 2000000
set_option maxRecDepth 10000
namespace Go.Proofs.Dev
open Go Go.Tm
def u64(n:Nat):D:=.v (.int .u64 n)
def i64(n:Int):D:=.v (.int .i64 n)
theorem sh32:(2 ^ min (Int.toNat 32) IntKind.u64.bits:Nat)=4294967296:=rfl
theorem andM{x:Nat}(h:x<18446744073709551616):mC Eae .u64 (x:Int) 4294967295=.int .u64 ((x % 4294967296:Nat):Int):=by
 have e1:((x:Int) % MC .u64).toNat=x:=by grind[MC]
 have e2:((4294967295:Int) % MC .u64).toNat=4294967295:=by decide
 unfold mC;rw[e1,e2];have e3:Eae x 4294967295=x % 4294967296:=Nat.and_two_pow_sub_one_eq_mod x 32
 grind[Uc]
theorem mulN(a b:Nat):(a:Int)*(b:Int)=((a*b:Nat):Int):=(Int.natCast_mul a b).symm
theorem addN(a b:Nat):(a:Int)+(b:Int)=((a+b:Nat):Int):=(Int.natCast_add a b).symm
theorem tP{P:Program}{k:Nat}{vs us:List Value}(b:Tm.Enters P k) (h:∀w,Calls P k vs.toArray w λe w'=>e=.returned (.tuple us.toArray)/\w'=w):Den P k (vs.map .v) (.tup (us.map .v)):=by
 refine λm=>⟨b,λG w a hv hi=>?_⟩;have key:∀(vs us:List Value),VsRel G w (vs.map .v) us->us=vs:=by
  intro vs
  induction vs with
  |nil=>intro us h;simpa [VsRel] using h
  |cons x l c=>
   intro us h;simp only[vaa,VsRel,VRel]at h
   grind
 have key2:∀us:List Value,VsRel G w (us.map .v) us:=by
  intro us
  induction us with
  |nil=>simp[VsRel]
  |cons x l c=>simp only[vaa,VsRel,VRel];grind
 obtain rfl:=key vs a hv;refine(h w).mono ?_;rintro e w' ⟨rfl,rfl⟩;refine⟨_,_,_,G,rfl,⟨rfl,rfl⟩,?_,hi,Step.refl _ _ _⟩;simp only[VRel]
 simp_all
theorem gA{t0 t1:Int}{r:Int×Int}(h:pe t0 t1=some r):Den Tryz.prog 119 [vi t0,vi t1] (.tup [vi r.1,vi r.2]):=by
 unfold pe at h;split at h
 .rename_i hc;obtain⟨x,rfl⟩:∃x:Nat,t0=x:=⟨t0.toNat,by omega⟩;obtain⟨y,rfl⟩:∃y:Nat,t1=y:=⟨t1.toNat,by omega⟩;obtain rfl:=Iaa h;have a:=tP (vs:=[.int .u64 x,.int .u64 y]) (us:=[.int .u64 ((x*y / 18446744073709551616:Nat):Int),.int .u64 ((x*y % 18446744073709551616:Nat):Int)]) (QA k119.ok k119.nm) (λw=>Tryz.bits_Mul64 x y (by omega) (by omega) w);have e1:(x:Int)*(y:Int) / 18446744073709551616=((x*y / 18446744073709551616:Nat):Int):=by omega
  have e2:(x:Int)*(y:Int) % 18446744073709551616=((x*y % 18446744073709551616:Nat):Int):=by omega
  dsimp only;rw[e1,e2];exact a
 .cases h
def jR(Y:Nat):Prop:=9223372036854775808<=Y/\Y<18446744073709551616
theorem lz55(y:Nat) (h0:0<y) (c:y<18446744073709551616) (m:List Ent):CallT Tryz.prog 157 [u64 y] m λd m'=>(∃s:Nat,d=i64 s/\s<=63/\jR (y*2 ^ s))/\m'=m:=by
 obtain⟨h1,h2,a⟩:=Lib.bitLenAux_bounds 64 y c (by omega);have h4:Lib.bitLenAux 64 y<=64:=by
  by_cases hc:Lib.bitLenAux 64 y<=64
  .omega
  .have:2 ^ 64<=2 ^ (Lib.bitLenAux 64 y-1):=Nat.pow_le_pow_right (by decide) (by omega);omega
 have b:=II (vs:=[.int .u64 y]) (QA k157.ok k157.nm) (λw=>Tryz.bits_LeadingZeros64 (y:Int) w (by omega) (by omega));refine(b m).mono ?_;rintro d m' ⟨rfl,rfl⟩;refine⟨⟨64-Lib.bitLenAux 64 y,?_,by omega,?_,?_⟩,rfl⟩
 .grind[i64,Lib.bitLen]
 .have:=kab (2 ^ (64-Lib.bitLenAux 64 y)) h2;rw[←xae,show Lib.bitLenAux 64 y-1+(64-Lib.bitLenAux 64 y)=63 by omega]at this;omega
 .have:=Nat.mul_lt_mul_of_pos_right a (Kad (64-Lib.bitLenAux 64 y));rw[←xae,show Lib.bitLenAux 64 y+(64-Lib.bitLenAux 64 y)=64 by omega]at this;omega
theorem NY(n:Nat):decide ((n:Int)<0)=false:=by simp
theorem lor64{a b s:Nat}(hb:b<2 ^ s) (h:2 ^ s*a+b<18446744073709551616):mC caf .u64 ((2 ^ s*a:Nat):Int) (b:Int)=.int .u64 ((2 ^ s*a+b:Nat):Int):=by
 have e1:(((2 ^ s*a:Nat):Int) % MC .u64).toNat=2 ^ s*a:=by grind[MC]
 have e2:((b:Int) % MC .u64).toNat=b:=by grind[MC]
 unfold mC;rw[e1,e2];have e3:caf (2 ^ s*a) b=2 ^ s*a+b:=(Nat.two_pow_add_eq_or_of_lt hb a).symm
 grind[Uc]
theorem scaled{N y s q R:Nat}(hy:0<y) (h:N*2 ^ s=q*(y*2 ^ s)+R) (hR:R<y*2 ^ s):N / y=q/\N % y=R / 2 ^ s:=by
 have hp:=Kad s;have h1:N*2 ^ s / (y*2 ^ s)=q:=by
  simp_all[Nat.add_comm,Nat.add_mul_div_right]
 grind[Nat.add_mul_mod_self_right,Nat.mod_eq_of_lt,lae,Nat.mul_mod_mul_right,Nat.mul_div_cancel]
theorem wrap3(a b c:Int):aa .u64 (aa .u64 (aa .u64 a+b)-aa .u64 c)=aa .u64 (a+b-c):=by
 grind[aa]
structure DivF (hi lo y s Y v w e U L:Nat):Prop where
 hY:y*2 ^ s=Y
 hYn:jR Y
 hYv:Y=4294967296*v+w
 hwB:w<4294967296
 hU:2 ^ s*hi+e=U
 hUY:U<Y
 hLM:L<18446744073709551616
 hN:(hi*18446744073709551616+lo)*2 ^ s=U*18446744073709551616+L
 he:lo / 2 ^ (64-s)=e
 hv:Y / 4294967296=v
 hv0:¬(v:Int)=0
 m1:min s IntKind.u64.bits=s
 m2:min (64-s) IntKind.u64.bits=64-s
 f1:aa .u64 (s:Int)=(s:Int)
 f2:aa .u64 ((y:Int)*((2 ^ s:Nat):Int))=(Y:Int)
 f3:aa .u64 ((hi:Int)*((2 ^ s:Nat):Int))=((2 ^ s*hi:Nat):Int)
 f4:aa .u64 (64-(s:Int))=((64-s:Nat):Int)
 f6:mC caf .u64 ((2 ^ s*hi:Nat):Int) (e:Int)=.int .u64 (U:Int)
 f7:aa .u64 ((lo:Int)*((2 ^ s:Nat):Int))=(L:Int)
 f8:mC Eae .u64 (Y:Int) 4294967295=.int .u64 (w:Int)
 f9:mC Eae .u64 (L:Int) 4294967295=.int .u64 ((L % 4294967296:Nat):Int)
theorem HU(hi lo y s:Nat) (b:hi<y) (hlo:lo<18446744073709551616) (s2:s<=63) (a:jR (y*2 ^ s)):∃Y v w e U L,DivF hi lo y s Y v w e U L:=by
 simp only[jR]at a;obtain⟨Y,hY⟩:∃Y,y*2 ^ s=Y:=⟨_,rfl⟩;rw[hY]at a;obtain⟨v,hv⟩:∃v,Y / 4294967296=v:=⟨_,rfl⟩;obtain⟨w,hw⟩:∃w,Y % 4294967296=w:=⟨_,rfl⟩;have hYv:Y=4294967296*v+w:=by omega
 have hwB:w<4294967296:=by omega
 have hv0:¬(v:Int)=0:=by omega
 have m1:min s IntKind.u64.bits=s:=Vae (by show s<=64;omega);have m2:min (64-s) IntKind.u64.bits=64-s:=Vae (by show 64-s<=64;omega);obtain⟨e,he⟩:∃e,lo / 2 ^ (64-s)=e:=⟨_,rfl⟩;have hes:e<2 ^ s:=by
  rw[←he,Bad (Kad _),←xae,show s+(64-s)=64 by omega];omega
 have hhs:2 ^ s*hi+2 ^ s<=Y:=by
  rw[←hY,←Nat.mul_succ,Dad];exact kab _ b
 obtain⟨U,hU⟩:∃U,2 ^ s*hi+e=U:=⟨_,rfl⟩;have hUY:U<Y:=by omega
 obtain⟨L,hL⟩:∃L,lo*2 ^ s % 18446744073709551616=L:=⟨_,rfl⟩;have hLM:L<18446744073709551616:=by omega
 have hloe:lo*2 ^ s=e*18446744073709551616+L:=by
  have h1:lo*2 ^ s / 18446744073709551616=e:=by
   rw[←he,show(18446744073709551616:Nat)=2 ^ (64-s)*2 ^ s by rw[←xae,show 64-s+s=64 by omega],lae _ _ (Kad s)]
  omega
 have hN:(hi*18446744073709551616+lo)*2 ^ s=U*18446744073709551616+L:=by
  grind
 have f1:aa .u64 (s:Int)=(s:Int):=Uc (by omega);have f2:aa .u64 ((y:Int)*((2 ^ s:Nat):Int))=(Y:Int):=by grind[Uc]
 have f3:aa .u64 ((hi:Int)*((2 ^ s:Nat):Int))=((2 ^ s*hi:Nat):Int):=by grind[Dad,Uc]
 have f4:aa .u64 (64-(s:Int))=((64-s:Nat):Int):=by grind[Uc]
 have f6:mC caf .u64 ((2 ^ s*hi:Nat):Int) (e:Int)=.int .u64 (U:Int):=by grind[lor64]
 have f7:aa .u64 ((lo:Int)*((2 ^ s:Nat):Int))=(L:Int):=by grind[aa]
 have f8:=andM (x:=Y) a.2;have f9:=andM (x:=L) hLM;rw[hw]at f8;exact⟨Y,v,w,e,U,L,⟨hY,a,hYv,hwB,hU,hUY,hLM,hN,he,hv,hv0,m1,m2,f1,f2,f3,f4,f6,f7,f8,f9⟩⟩
structure Dig (Y v w U u:Nat):Prop where
 hY:Y=4294967296*v+w
 hv:2147483648<=v
 hYM:Y<18446744073709551616
 hw:w<4294967296
 hU:U<Y
 hu:u<4294967296
structure Guess (Y v w U u q r:Nat):Prop where
 hP:q*v+r=U
 hr:r<4294967296
 hQ:(U*4294967296+u) / Y<=q
section
variable {Y v w U u q r:Nat}
theorem Dig.mulY(D:Dig Y v w U u) (q:Nat):q*Y=4294967296*(q*v)+q*w:=by
 rw[D.hY,Nat.mul_add,Nat.mul_left_comm]
theorem Dig.Q_lt(D:Dig Y v w U u):(U*4294967296+u) / Y<4294967296:=by
 have h:=D.hU;have h1:=D.hu;have h2:=D.hv;have h3:=D.hY;rw[Bad (by omega)];omega
theorem Dig.q_le(D:Dig Y v w U u) {q r:Nat}(h:q*v+r=U):q<=4294967297:=by
 have h0:=D.hU;have h1:=D.hw;have h2:=D.hv;have h3:=D.hY;have:q*v<4294967298*v:=by omega
 have:=Nat.lt_of_mul_lt_mul_right this;omega
theorem Dig.start(D:Dig Y v w U u):Guess Y v w U u (U / v) (U % v)\/(4294967296<=U % v):=by
 have h0:=D.hU;have h1:=D.hw;have h2:=D.hv;have h3:=D.hY;have h4:=D.hYM;have a:0<v:=by omega
 left;have hm:=Lac U a;have hd:U / v*v+U % v=U:=by grind[yac]
 refine⟨hd,by omega,?_⟩;rw[Nat.div_le_iff_le_mul_add_pred (by omega)];have e:=D.mulY (U / v);rw[Dad]at e;rw[e];have h5:=D.hu;omega
theorem Guess.less(D:Dig Y v w U u) (G:Guess Y v w U u q r) (h:4294967296<=q\/4294967296*r+u<q*w):1<=q/\(U*4294967296+u) / Y<=q-1/\(q-1)*v+(r+v)=U:=by
 have a:(U*4294967296+u) / Y<q:=by
  rcases h with h|h
  .exact Nat.lt_of_lt_of_le D.Q_lt h
  .have b:=D.hY;have h2:=D.hv;rw[Bad (by omega),D.mulY];have:=G.hP;omega
 have b:1<=q:=Wac (qab _) a;refine⟨b,Nat.le_sub_one_of_lt a,?_⟩;have e:q*v=(q-1)*v+v:=by rw[←Nat.succ_mul];simp_all
 have:=G.hP;omega
theorem Guess.done(D:Dig Y v w U u) (G:Guess Y v w U u q r) (h:q*w<=4294967296*r+u):q=(U*4294967296+u) / Y:=by
 refine Uae ?_ G.hQ;have h1:=D.hY;have h2:=D.hv;rw[Cad (by omega),D.mulY];have:=G.hP;omega
theorem Dig.big(D:Dig Y v w U u) (hP:q*v+r=U) (hr:4294967296<=r) (hq:q<=4294967296) (hQ:(U*4294967296+u) / Y<=q):q=(U*4294967296+u) / Y:=by
 refine Uae ?_ hQ;have h1:=D.hY;have h2:=D.hv;have h3:=D.hw;rw[Cad (by omega),D.mulY];have:=Tac hq (show w<=4294967296 by omega);omega
end
theorem D6{q:Nat}(h1:1<=q) (h2:q<18446744073709551616):aa .u64 ((q:Int)-1)=((q-1:Nat):Int):=by
 grind[Uc]
theorem div48(hi lo y:Nat) (W:hi<y) (K:lo<18446744073709551616) (hy:y<18446744073709551616) :
 Den Tryz.prog 121 [u64 hi,u64 lo,u64 y] (.tup [u64 ((hi*18446744073709551616+lo) / y),u64 ((hi*18446744073709551616+lo) % y)]):=by
 have c1:¬(y:Int)=0:=by omega
 have c2:¬(y:Int)<=(hi:Int):=by omega
 simp only[u64];by_cases h0:hi=0
 .subst h0;have a:¬(y:Int)<=0:=by omega
  have hlq:lo / y<18446744073709551616:=Wac (tad _ _) K;have q1:aa .u64 (Int.tdiv (lo:Int) (y:Int))=((lo / y:Nat):Int):=Uc hlq;have q2:Int.tmod (lo:Int) (y:Int)=((lo % y:Nat):Int):=rfl;refine dk (hf:=rfl) 132 haa ?_;simp only[haa,Kf.of,zs,ze];refine Z.T Hw ?_;simp only[c1,a,qY,q1,q2,Nat.zero_mul,Nat.zero_add,zz,Mm,Lr,Jm,Kr,Nr,Im,Ji,Lm,Km,Mr,Pc,kg,Ii,leaves,undef,Cx,Daa,C.EE,C.kl,wc,contents,gate,da,St.ev,St.put,oaa,dab,Caa,Qg,Fc,yb,Du,D.ok,D.cells,one,reduceCtorEq,rab,uaa]
  simp_all[er,zz,fq,zg]
 .have c3:¬(hi:Int)=0:=by omega
  refine dk (hf:=rfl) 132 haa ?_;simp only[haa,Kf.of,zs,ze];refine Z.T Hw ?_;simp only[c1,c2,c3,zz,Mm,Lr,Jm,Kr,Nr,Im,Ji,Lm,Km,Mr,Pc,kg,Ii,leaves,undef,Cx,Daa,C.EE,C.kl,wc,contents,gate,da,St.ev,St.put,oaa,dab,Caa,Qg,Fc,yb,Du,D.ok,D.cells,one,reduceCtorEq,rab,uaa];refine Gv (lz55 y (by omega) hy _) ?_;intro d m' hh;obtain⟨⟨s,hd,s2,s3⟩,hm'⟩:=hh;obtain⟨Y,v,w,e,U,L,F⟩:=HU hi lo y s W K s2 s3;have g:Dig Y v w U (L / 4294967296):=⟨F.hYv,by have:=F.hYn.1;have:=F.hYv;have:=F.hwB;omega,F.hYn.2,F.hwB,F.hUY,by have:=F.hLM;omega⟩;have hvM:v<18446744073709551616:=by have:=F.hYv;have:=F.hYn.2;omega
  have t:U<18446744073709551616:=Kae F.hUY F.hYn.2;have N:0<v:=by have:=g.hv;omega
  have k:∀n:Nat,n<18446744073709551616->aa .u64 (Int.tdiv (n:Int) (v:Int))=((n / v:Nat):Int):=λn hn=>Uc (Wac (tad _ _) hn);have l:∀n:Nat,n<18446744073709551616->aa .u64 (((n / v:Nat):Int)*(v:Int))=((n / v*v:Nat):Int):=λn hn=>by rw[mulN,Uc (Wac (Nat.div_mul_le_self _ _) hn)]
  have m:∀n:Nat,n<18446744073709551616->aa .u64 ((n:Int)-((n / v*v:Nat):Int))=((n % v:Nat):Int):=λn hn=>by
   have:=yac n v;grind[Uc]
  have g1:=k U t;have g2:=l U t;have g3:=m U t;simp only[hd,hm',zz,Mm,Lr,Jm,Kr,Nr,Im,Ji,Lm,Km,Mr,Pc,kg,Ii,leaves,undef,Cx,Daa,C.EE,C.kl,wc,contents,gate,da,St.ev,St.put,oaa,dab,Caa,Qg,Fc,yb,Du,D.ok,D.cells,one,reduceCtorEq,rab,uaa,i64,NY,F.m1,F.m2,F.f1,F.f2,F.f3,F.f4,fdivN,F.he,F.f6,F.f7,F.f8,F.f9,sh32,F.hv,F.hv0,g1,g2,g3,qY];refine T.QL (X:=Nat×Nat) (λx=>⟨[.dead,.dead,u64 Y,.dead,.dead,.dead,.dead,.dead,u64 s,u64 v,u64 w,u64 U,.dead,u64 (L / 4294967296),u64 (L % 4294967296),u64 x.1,u64 x.2,.dead,.dead,.dead,.dead,.dead,.dead,.dead,.dead,.dead,.dead,.dead,.dead,.dead,.dead,.dead,.dead,.dead,.dead,.dead,.dead,.dead,.dead,.dead,.dead,.dead,.dead,.dead,.dead,.dead,.dead,.dead,.dead,.dead,.dead,.dead,.dead,.dead,.dead,.dead,.dead,.dead,.dead,.dead,.dead,.dead,.dead,.dead,.dead,.dead,.dead,.dead,.dead,.dead,.dead,.dead,.dead,.dead,.dead,.dead,.dead,.dead,.dead,.dead,.dead,.dead,.dead,.dead,.dead,.dead,.dead,.dead,.dead,.dead,.dead,.dead,.dead,.dead,.dead,.dead,.dead,.dead,.dead,.dead,.dead,.dead,.dead,.dead,.dead,.dead,.dead,.dead,.dead,.dead,.dead,.dead,.dead,.dead,.dead,.dead,.dead,.dead,.dead,.dead,.dead,.dead,.dead,.dead,.dead,.dead,.dead,.dead,.dead,.dead,.dead,.dead,.dead,.dead,.dead],[]⟩)
   (λx=>Guess Y v w U (L / 4294967296) x.1 x.2/\x.1<=4294967297) (λx=>x.1=(U*4294967296+L / 4294967296) / Y) (λx=>4294967296-x.2) (U / v,U % v) ?_ ?_ ?_ ?_ (λ_=>by grind[uu]) ?_
  .exact⟨g.start.resolve_right (by have:=Lac U N;have:=F.hYv;have:=F.hYn.2;omega),g.q_le (r:=U % v) (by grind[yac])⟩
  .exact At.same _ _ _ (by repeat (first|exact la.pb _|refine la.cons (Sub.refl _) ?_|refine la.cons (Sub.Ia _) ?_))
  .rintro⟨q,r⟩ _;exact⟨qab _,by simp[belows,below,u64],by simp⟩
  .rintro⟨q,r⟩ ⟨i,c⟩;refine Z.T Hw ?_;simp only at i c;have hrB:=i.hr;have huB:=g.hu;have e0:(4294967296:Int)*(r:Int)=((4294967296*r:Nat):Int):=by omega
   have e1:aa .u64 ((4294967296*r:Nat):Int)=((4294967296*r:Nat):Int):=Uc (by omega);have e2:aa .u64 (((4294967296*r:Nat):Int)+((L / 4294967296:Nat):Int))=((4294967296*r+L / 4294967296:Nat):Int):=by rw[addN,Uc (by omega)]
   have e4:aa .u64 ((r:Int)+(v:Int))=((r+v:Nat):Int):=by rw[addN,Uc (by have:=F.hYv;have:=F.hYn.2;omega)]
   have e5:aa .u64 ((q:Int)*(w:Int))=aa .u64 ((q*w:Nat):Int):=by simp
   have out:∀c1:(4294967296<=q\/4294967296*r+L / 4294967296<q*w),aa .u64 ((q:Int)-1)=((q-1:Nat):Int)/\(4294967296<=r+v->q-1=(U*4294967296+L / 4294967296) / Y)/\(r+v<4294967296->Guess Y v w U (L / 4294967296) (q-1) (r+v)):=λc1=>by
    obtain⟨O,u,k3⟩:=i.less g c1;exact⟨D6 O (by omega),λh=>g.big k3 h (by omega) u,λh=>⟨k3,h,u⟩⟩
   by_cases c1:4294967296<=q
   .have b:(4294967296:Int)<=(q:Int):=by omega
    obtain⟨f,z,A⟩:=out (.inl c1);by_cases c2:4294967296<=r+v
    .have a:(4294967296:Int)<=((r+v:Nat):Int):=by omega
     simp only[u64,zz,Mm,Lr,Jm,Kr,Nr,Im,Ji,Lm,Km,Mr,Pc,kg,Ii,leaves,undef,Cx,Daa,C.EE,C.kl,wc,contents,gate,da,St.ev,St.put,oaa,dab,Caa,Qg,Fc,yb,Du,D.ok,D.cells,one,reduceCtorEq,rab,uaa,b,f,e4,a];exact⟨(q-1,r+v),z c2,At.same _ _ _ (by repeat (first|exact la.pb _|refine la.cons (Sub.refl _) ?_|refine la.cons (Sub.Ia _) ?_))⟩
    .have a:¬(4294967296:Int)<=((r+v:Nat):Int):=by omega
     simp only[u64,zz,Mm,Lr,Jm,Kr,Nr,Im,Ji,Lm,Km,Mr,Pc,kg,Ii,leaves,undef,Cx,Daa,C.EE,C.kl,wc,contents,gate,da,St.ev,St.put,oaa,dab,Caa,Qg,Fc,yb,Du,D.ok,D.cells,one,reduceCtorEq,rab,uaa,b,f,e4,a];exact⟨(q-1,r+v),⟨A (by omega),by omega⟩,by grind,At.same _ _ _ (by repeat (first|exact la.pb _|refine la.cons (Sub.refl _) ?_|refine la.cons (Sub.Ia _) ?_))⟩
   .have b:¬(4294967296:Int)<=(q:Int):=by omega
    have e6:aa .u64 ((q*w:Nat):Int)=((q*w:Nat):Int):=Uc (by
     have:=Tac (show q<=4294967295 by omega) (show w<=4294967295 by have:=F.hwB;omega);omega)
    by_cases c3:4294967296*r+L / 4294967296<q*w
    .obtain⟨f,z,A⟩:=out (.inr c3);by_cases c2:4294967296<=r+v
     .have a:(4294967296:Int)<=((r+v:Nat):Int):=by omega
      simp only[u64,zz,Mm,Lr,Jm,Kr,Nr,Im,Ji,Lm,Km,Mr,Pc,kg,Ii,leaves,undef,Cx,Daa,C.EE,C.kl,wc,contents,gate,da,St.ev,St.put,oaa,dab,Caa,Qg,Fc,yb,Du,D.ok,D.cells,one,reduceCtorEq,rab,uaa,b,f,e0,e1,e2,e4,e5,e6,lJ,c3,a];exact⟨(q-1,r+v),z c2,At.same _ _ _ (by repeat (first|exact la.pb _|refine la.cons (Sub.refl _) ?_|refine la.cons (Sub.Ia _) ?_))⟩
     .have a:¬(4294967296:Int)<=((r+v:Nat):Int):=by omega
      simp only[u64,zz,Mm,Lr,Jm,Kr,Nr,Im,Ji,Lm,Km,Mr,Pc,kg,Ii,leaves,undef,Cx,Daa,C.EE,C.kl,wc,contents,gate,da,St.ev,St.put,oaa,dab,Caa,Qg,Fc,yb,Du,D.ok,D.cells,one,reduceCtorEq,rab,uaa,b,f,e0,e1,e2,e4,e5,e6,lJ,c3,a];exact⟨(q-1,r+v),⟨A (by omega),by omega⟩,by grind,At.same _ _ _ (by repeat (first|exact la.pb _|refine la.cons (Sub.refl _) ?_|refine la.cons (Sub.Ia _) ?_))⟩
    .simp only[u64,zz,Mm,Lr,Jm,Kr,Nr,Im,Ji,Lm,Km,Mr,Pc,kg,Ii,leaves,undef,Cx,Daa,C.EE,C.kl,wc,contents,gate,da,St.ev,St.put,oaa,dab,Caa,Qg,Fc,yb,Du,D.ok,D.cells,one,reduceCtorEq,rab,uaa,b,e0,e1,e2,e4,e5,e6,lJ,c3];exact⟨(q,r),i.done g (kaf.1 c3),At.same _ _ _ (by repeat (first|exact la.pb _|refine la.cons (Sub.refl _) ?_|refine la.cons (Sub.Ia _) ?_))⟩
  .rintro⟨q,r⟩ hq;simp only at hq;obtain⟨Q,hQ⟩:∃Q,(U*4294967296+L / 4294967296) / Y=Q:=⟨_,rfl⟩;rw[hQ]at hq;subst hq;obtain⟨R,hR⟩:∃R,(U*4294967296+L / 4294967296) % Y=R:=⟨_,rfl⟩;have H:0<Y:=by have:=F.hYn.1;omega
   have G:R<Y:=by rw[←hR];exact Lac _ H
   have V:=yac (U*4294967296+L / 4294967296) Y;rw[hQ,hR,Dad]at V;have j:R<18446744073709551616:=Kae G F.hYn.2;have o:Dig Y v w R (L % 4294967296):=⟨F.hYv,g.hv,F.hYn.2,F.hwB,G,Lac _ (by decide)⟩;have O:aa .u64 ((U:Int)*4294967296+((L / 4294967296:Nat):Int)-(q:Int)*(Y:Int))=(R:Int):=by
    rw[mulN,show(U:Int)*4294967296+((L / 4294967296:Nat):Int)-((q*Y:Nat):Int)=(R:Int) by omega,Uc j]
   simp only[zz,Mm,Lr,Jm,Kr,Nr,Im,Ji,Lm,Km,Mr,Pc,kg,Ii,leaves,undef,Cx,Daa,C.EE,C.kl,wc,contents,gate,da,St.ev,St.put,oaa,dab,Caa,Qg,Fc,yb,Du,D.ok,D.cells,one,reduceCtorEq,rab,uaa];refine Z.T Hw ?_;simp only[u64,zz,Mm,Lr,Jm,Kr,Nr,Im,Ji,Lm,Km,Mr,Pc,kg,Ii,leaves,undef,Cx,Daa,C.EE,C.kl,wc,contents,gate,da,St.ev,St.put,oaa,dab,Caa,Qg,Fc,yb,Du,D.ok,D.cells,one,reduceCtorEq,rab,uaa,wrap3,O,F.hv0,k R j,l R j,m R j];refine T.QL (X:=Nat×Nat) (λx=>⟨[.dead,.dead,u64 Y,.dead,.dead,.dead,.dead,.dead,u64 s,u64 v,u64 w,.dead,.dead,.dead,u64 (L % 4294967296),u64 q,u64 x.2,u64 R,u64 x.1,.dead,.dead,.dead,.dead,.dead,.dead,.dead,.dead,.dead,.dead,.dead,.dead,.dead,.dead,.dead,.dead,.dead,.dead,.dead,.dead,.dead,.dead,.dead,.dead,.dead,.dead,.dead,.dead,.dead,.dead,.dead,.dead,.dead,.dead,.dead,.dead,.dead,.dead,.dead,.dead,.dead,.dead,.dead,.dead,.dead,.dead,.dead,.dead,.dead,.dead,.dead,.dead,.dead,.dead,.dead,.dead,.dead,.dead,.dead,.dead,.dead,.dead,.dead,.dead,.dead,.dead,.dead,.dead,.dead,.dead,.dead,.dead,.dead,.dead,.dead,.dead,.dead,.dead,.dead,.dead,.dead,.dead,.dead,.dead,.dead,.dead,.dead,.dead,.dead,.dead,.dead,.dead,.dead,.dead,.dead,.dead,.dead,.dead,.dead,.dead,.dead,.dead,.dead,.dead,.dead,.dead,.dead,.dead,.dead,.dead,.dead,.dead,.dead,.dead,.dead,.dead],[]⟩)
    (λx=>Guess Y v w R (L % 4294967296) x.1 x.2/\x.1<=4294967297) (λx=>x.1=(R*4294967296+L % 4294967296) / Y) (λx=>4294967296-x.2) (R / v,R % v) ?_ ?_ ?_ ?_ (λ_=>by grind[uu]) ?_
   .exact⟨o.start.resolve_right (by have:=Lac R N;have:=F.hYv;have:=F.hYn.2;omega),o.q_le (r:=R % v) (by grind[yac])⟩
   .exact At.same _ _ _ (by repeat (first|exact la.pb _|refine la.cons (Sub.refl _) ?_|refine la.cons (Sub.Ia _) ?_))
   .rintro⟨q,r⟩ _;exact⟨qab _,by simp[belows,below,u64],by simp⟩
   .rintro⟨p,r⟩ ⟨i,c⟩;refine Z.T Hw ?_;simp only at i c;have hrB:=i.hr;have huB:=o.hu;have e0:(4294967296:Int)*(r:Int)=((4294967296*r:Nat):Int):=by omega
    have e1:aa .u64 ((4294967296*r:Nat):Int)=((4294967296*r:Nat):Int):=Uc (by omega);have e2:aa .u64 (((4294967296*r:Nat):Int)+((L % 4294967296:Nat):Int))=((4294967296*r+L % 4294967296:Nat):Int):=by rw[addN,Uc (by omega)]
    have e4:aa .u64 ((r:Int)+(v:Int))=((r+v:Nat):Int):=by rw[addN,Uc (by have:=F.hYv;have:=F.hYn.2;omega)]
    have e5:aa .u64 ((p:Int)*(w:Int))=aa .u64 ((p*w:Nat):Int):=by simp
    have out:∀c1:(4294967296<=p\/4294967296*r+L % 4294967296<p*w),aa .u64 ((p:Int)-1)=((p-1:Nat):Int)/\(4294967296<=r+v->p-1=(R*4294967296+L % 4294967296) / Y)/\(r+v<4294967296->Guess Y v w R (L % 4294967296) (p-1) (r+v)):=λc1=>by
     obtain⟨O,u,k3⟩:=i.less o c1;exact⟨D6 O (by omega),λh=>o.big k3 h (by omega) u,λh=>⟨k3,h,u⟩⟩
    by_cases c1:4294967296<=p
    .have b:(4294967296:Int)<=(p:Int):=by omega
     obtain⟨f,z,A⟩:=out (.inl c1);by_cases c2:4294967296<=r+v
     .have a:(4294967296:Int)<=((r+v:Nat):Int):=by omega
      simp only[u64,zz,Mm,Lr,Jm,Kr,Nr,Im,Ji,Lm,Km,Mr,Pc,kg,Ii,leaves,undef,Cx,Daa,C.EE,C.kl,wc,contents,gate,da,St.ev,St.put,oaa,dab,Caa,Qg,Fc,yb,Du,D.ok,D.cells,one,reduceCtorEq,rab,uaa,b,f,e4,a];exact⟨(p-1,r+v),z c2,At.same _ _ _ (by repeat (first|exact la.pb _|refine la.cons (Sub.refl _) ?_|refine la.cons (Sub.Ia _) ?_))⟩
     .have a:¬(4294967296:Int)<=((r+v:Nat):Int):=by omega
      simp only[u64,zz,Mm,Lr,Jm,Kr,Nr,Im,Ji,Lm,Km,Mr,Pc,kg,Ii,leaves,undef,Cx,Daa,C.EE,C.kl,wc,contents,gate,da,St.ev,St.put,oaa,dab,Caa,Qg,Fc,yb,Du,D.ok,D.cells,one,reduceCtorEq,rab,uaa,b,f,e4,a];exact⟨(p-1,r+v),⟨A (by omega),by omega⟩,by grind,At.same _ _ _ (by repeat (first|exact la.pb _|refine la.cons (Sub.refl _) ?_|refine la.cons (Sub.Ia _) ?_))⟩
    .have b:¬(4294967296:Int)<=(p:Int):=by omega
     have e6:aa .u64 ((p*w:Nat):Int)=((p*w:Nat):Int):=Uc (by
      have:=Tac (show p<=4294967295 by omega) (show w<=4294967295 by have:=F.hwB;omega);omega)
     by_cases c3:4294967296*r+L % 4294967296<p*w
     .obtain⟨f,z,A⟩:=out (.inr c3);by_cases c2:4294967296<=r+v
      .have a:(4294967296:Int)<=((r+v:Nat):Int):=by omega
       simp only[u64,zz,Mm,Lr,Jm,Kr,Nr,Im,Ji,Lm,Km,Mr,Pc,kg,Ii,leaves,undef,Cx,Daa,C.EE,C.kl,wc,contents,gate,da,St.ev,St.put,oaa,dab,Caa,Qg,Fc,yb,Du,D.ok,D.cells,one,reduceCtorEq,rab,uaa,b,f,e0,e1,e2,e4,e5,e6,lJ,c3,a];exact⟨(p-1,r+v),z c2,At.same _ _ _ (by repeat (first|exact la.pb _|refine la.cons (Sub.refl _) ?_|refine la.cons (Sub.Ia _) ?_))⟩
      .have a:¬(4294967296:Int)<=((r+v:Nat):Int):=by omega
       simp only[u64,zz,Mm,Lr,Jm,Kr,Nr,Im,Ji,Lm,Km,Mr,Pc,kg,Ii,leaves,undef,Cx,Daa,C.EE,C.kl,wc,contents,gate,da,St.ev,St.put,oaa,dab,Caa,Qg,Fc,yb,Du,D.ok,D.cells,one,reduceCtorEq,rab,uaa,b,f,e0,e1,e2,e4,e5,e6,lJ,c3,a];exact⟨(p-1,r+v),⟨A (by omega),by omega⟩,by grind,At.same _ _ _ (by repeat (first|exact la.pb _|refine la.cons (Sub.refl _) ?_|refine la.cons (Sub.Ia _) ?_))⟩
     .simp only[u64,zz,Mm,Lr,Jm,Kr,Nr,Im,Ji,Lm,Km,Mr,Pc,kg,Ii,leaves,undef,Cx,Daa,C.EE,C.kl,wc,contents,gate,da,St.ev,St.put,oaa,dab,Caa,Qg,Fc,yb,Du,D.ok,D.cells,one,reduceCtorEq,rab,uaa,b,e0,e1,e2,e4,e5,e6,lJ,c3];exact⟨(p,r),i.done o (kaf.1 c3),At.same _ _ _ (by repeat (first|exact la.pb _|refine la.cons (Sub.refl _) ?_|refine la.cons (Sub.Ia _) ?_))⟩
   .rintro⟨p,r'⟩ P;simp only at P;obtain⟨Q',E⟩:∃Q,(R*4294967296+L % 4294967296) / Y=Q:=⟨_,rfl⟩;have hp1:=o.Q_lt;rw[←P]at hp1;rw[E]at P;subst P;obtain⟨B,hZ⟩:∃B,(R*4294967296+L % 4294967296) % Y=B:=⟨_,rfl⟩;have S:B<Y:=by rw[←hZ];exact Lac _ H
    have I:=yac (R*4294967296+L % 4294967296) Y;rw[E,hZ,Dad]at I;have c:=g.Q_lt;rw[hQ]at c;have u:aa .u64 ((R:Int)*4294967296+((L % 4294967296:Nat):Int)-(p:Int)*(Y:Int))=(B:Int):=by
     rw[mulN,show(R:Int)*4294967296+((L % 4294967296:Nat):Int)-((p*Y:Nat):Int)=(B:Int) by omega,Uc (Kae S F.hYn.2)]
    have k3:aa .u64 (aa .u64 ((q:Int)*4294967296)+(p:Int))=((q*4294967296+p:Nat):Int):=by
     rw[show(q:Int)*4294967296=((q*4294967296:Nat):Int) by omega,Uc (by omega),addN,Uc (by omega)]
    have J:(hi*18446744073709551616+lo)*2 ^ s=(q*4294967296+p)*(y*2 ^ s)+B:=by
     rw[F.hN,F.hY,Nat.add_mul,Nat.mul_right_comm];omega
    have M:=scaled (by omega) J (by rw[F.hY];omega);simp only[zz,Mm,Lr,Jm,Kr,Nr,Im,Ji,Lm,Km,Mr,Pc,kg,Ii,leaves,undef,Cx,Daa,C.EE,C.kl,wc,contents,gate,da,St.ev,St.put,oaa,dab,Caa,Qg,Fc,yb,Du,D.ok,D.cells,one,reduceCtorEq,rab,uaa];refine Z.T Hw ?_;simp only[u64,zz,Mm,Lr,Jm,Kr,Nr,Im,Ji,Lm,Km,Mr,Pc,kg,Ii,leaves,undef,Cx,Daa,C.EE,C.kl,wc,contents,gate,da,St.ev,St.put,oaa,dab,Caa,Qg,Fc,yb,Du,D.ok,D.cells,one,reduceCtorEq,rab,uaa,wrap3,u,k3,NY,F.m1,fdivN,M.1,M.2]
    simp_all[er,zz,fq,zg]
theorem fA{t0 t1 t2:Int}{r:Int×Int}(h:Gf t0 t1 t2=some r):Den Tryz.prog 121 [vi t0,vi t1,vi t2] (.tup [vi r.1,vi r.2]):=by
 unfold Gf at h;split at h
 .rename_i hc;obtain⟨x,rfl⟩:∃x:Nat,t0=x:=⟨t0.toNat,by omega⟩;obtain⟨y,rfl⟩:∃y:Nat,t1=y:=⟨t1.toNat,by omega⟩;obtain⟨z,rfl⟩:∃z:Nat,t2=z:=⟨t2.toNat,by omega⟩;obtain rfl:=Iaa h;have a:=div48 x y z (by omega) (by omega) (by omega);have e1:((x:Int)*18446744073709551616+(y:Int)) / (z:Int)=(((x*18446744073709551616+y) / z:Nat):Int):=by
   simp
  have e2:((x:Int)*18446744073709551616+(y:Int)) % (z:Int)=(((x*18446744073709551616+y) % z:Nat):Int):=by
   simp
  dsimp only;rw[e1,e2];exact a
 .cases h
instance {t0 t1 r}:Con (pe t0 t1=some r) (Den Tryz.prog 119 [vi t0,vi t1] (.tup [vi r.1,vi r.2])):=⟨gA⟩
instance {t0 t1 t2 r}:Con (Gf t0 t1 t2=some r) (Den Tryz.prog 121 [vi t0,vi t1,vi t2] (.tup [vi r.1,vi r.2])):=⟨fA⟩
end Go.Proofs.Dev
