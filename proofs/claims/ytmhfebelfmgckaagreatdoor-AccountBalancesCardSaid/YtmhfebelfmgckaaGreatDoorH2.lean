/-
  Contracts by hand: the conditions stand in each.
-/
import Derived.Test.YtmhfebelfmgckaaGreatDoorK
import Derived.Lib.ItoaNum
open Option renaming some->M
open Decidable renaming decide->s6
open Go.IntKind renaming u64->B'
open Go.Tm.D renaming dead->d!
open Go.Proofs.Tryz renaming prog->al
open Int renaming reduceEq->u!,reduceLT->Λ
open List renaming map_cons->D?,replicate->k?
open Nat renaming div_add_mod->aac,div_le_self->gac,div_lt_iff_lt_mul->wac,land->Mae,le_antisymm->baf,le_div_iff_mul_le->Fad,lor->kaf,lt_of_le_of_lt->dad,lt_trans->Sae,min_eq_left->caf,mod_lt->Α,mul_comm->Gad,mul_div_mul_right->tae,mul_le_mul->dac,mul_le_mul_right->Β,not_lt->qaf,pow_add->Eae,reduceAdd->M?,reduceEqDiff->Ε,reduceSub->U?,two_pow_pos->Rad,zero_le->L!
open Option.some renaming inj->J'
set_option linter.all false
set_option maxHeartbeats 2000000
set_option maxRecDepth 10000
namespace Go.Proofs.Dev
open Go Go.Tm
def u64(n:Nat):D:=.v (.int B' n)
def i64(n:Int):D:=.v (.int .i64 n)
def ct6:(2 ^ min (Int.toNat 32) IntKind.u64.bits:Nat)=4294967296:=rfl
def cr8{x:Nat}(h:x<18446744073709551616):XJ Mae B' (x:Int) 4294967295=.int B' ((x % 4294967296:Nat):Int):=by
 have e1:((x:Int) % yK B').toNat=x:=by grind[yK]
 have e2:((4294967295:Int) % yK B').toNat=4294967295:=p5
 unfold XJ;rw[e1,e2];have e3:Mae x 4294967295=x % 4294967296:=Nat.and_two_pow_sub_one_eq_mod x 32
 grind[fe]
theorem bh4(a b:Nat):(a:Int)*(b:Int)=((a*b:Nat):Int):=(Int.natCast_mul a b).symm
def av8(a b:Nat):(a:Int)+(b:Int)=((a+b:Nat):Int):=(Int.natCast_add a b).symm
def MY{P:Program}{k:Nat}{vs us:List Value}(b:Tm.I' P k) (h:∀w,Calls P k vs.toArray w λe w'=>e=.returned (.tuple us.toArray)/\w'=w):e? P k (vs.map .v) (.tup (us.map .v)):=by
 refine λm=>⟨b,λG w a hv hi=>?_⟩;have key:∀(vs us:List Value),VsRel G w (vs.map .v) us->us=vs:=by
  intro vs
  induction vs with
  |nil=>intro us h;simpa [VsRel] using h
  |cons x l c=>
   intro us h;simp only[D?,VsRel,VRel]at h
   grind
 have key2:∀us:List Value,VsRel G w (us.map .v) us:=by
  intro us
  induction us with
  |nil=>simp[VsRel]
  |cons x l c=>simp only[D?,VsRel,VRel];grind
 obtain rfl:=key vs a hv;refine(h w).mono ?_;rintro e w' ⟨rfl,rfl⟩;refine⟨_,_,_,G,rfl,⟨rfl,rfl⟩,?_,hi,Step.refl _ _ _⟩;simp only[VRel]
 simp_all
def DH{t0 t1:Int}{r:Int×Int}(h:Bf t0 t1=M r):e? al 387 [Ml t0,Ml t1] (.tup [Ml r.1,Ml r.2]):=by
 unfold Bf at h;split at h
 .rename_i hc;obtain⟨x,rfl⟩:∃x:Nat,t0=x:=⟨t0.toNat,U⟩;obtain⟨y,rfl⟩:∃y:Nat,t1=y:=⟨t1.toNat,U⟩;obtain rfl:=J' h;have a:=MY (vs:=[.int B' x,.int B' y]) (us:=[.int B' ((x*y / 18446744073709551616:Nat):Int),.int B' ((x*y % 18446744073709551616:Nat):Int)]) (BI bM9.ok bM9.nm) (λw=>Tryz.bits_Mul64 x y U U w);have e1:(x:Int)*(y:Int) / 18446744073709551616=((x*y / 18446744073709551616:Nat):Int):=U
  have e2:(x:Int)*(y:Int) % 18446744073709551616=((x*y % 18446744073709551616:Nat):Int):=U
  dsimp only;rw[e1,e2];exact a
 .cases h
def J1(Y:Nat):Prop:=9223372036854775808<=Y/\Y<18446744073709551616
def cu7(y:Nat) (h0:0<y) (c:y<18446744073709551616) (m:List Ent):CallT al 419 [u64 y] m λd m'=>(∃s:Nat,d=i64 s/\s<=63/\J1 (y*2 ^ s))/\m'=m:=by
 obtain⟨h1,h2,a⟩:=Lib.bitLenAux_bounds 64 y c U;have h4:Lib.bitLenAux 64 y<=64:=by
  by_cases hc:Lib.bitLenAux 64 y<=64
  .omega
  .have:2 ^ 64<=2 ^ (Lib.bitLenAux 64 y-1):=Nat.pow_le_pow_right p5 U;omega
 have b:=qR (vs:=[.int B' y]) (BI bJ7.ok bJ7.nm) (λw=>Tryz.bits_LeadingZeros64 (y:Int) w U U);refine(b m).mono ?_;rintro d m' ⟨rfl,rfl⟩;refine⟨⟨64-Lib.bitLenAux 64 y,?_,U,?_,?_⟩,rfl⟩
 .grind[i64,Lib.bitLen]
 .have:=Β (2 ^ (64-Lib.bitLenAux 64 y)) h2;rw[←Eae,show Lib.bitLenAux 64 y-1+(64-Lib.bitLenAux 64 y)=63 by omega]at this;omega
 .have:=Nat.mul_lt_mul_of_pos_right a (Rad (64-Lib.bitLenAux 64 y));rw[←Eae,show Lib.bitLenAux 64 y+(64-Lib.bitLenAux 64 y)=64 by omega]at this;omega
def as0(n:Nat):s6 ((n:Int)<0)=false:=o0
theorem bB4{a b s:Nat}(hb:b<2 ^ s) (h:2 ^ s*a+b<18446744073709551616):XJ kaf B' ((2 ^ s*a:Nat):Int) (b:Int)=.int B' ((2 ^ s*a+b:Nat):Int):=by
 have e1:(((2 ^ s*a:Nat):Int) % yK B').toNat=2 ^ s*a:=by grind[yK]
 have e2:((b:Int) % yK B').toNat=b:=by grind[yK]
 unfold XJ;rw[e1,e2];have e3:kaf (2 ^ s*a) b=2 ^ s*a+b:=(Nat.two_pow_add_eq_or_of_lt hb a).symm
 grind[fe]
theorem bc9{N y s q R:Nat}(hy:0<y) (h:N*2 ^ s=q*(y*2 ^ s)+R) (hR:R<y*2 ^ s):N / y=q/\N % y=R / 2 ^ s:=by
 have hp:=Rad s;have h1:N*2 ^ s / (y*2 ^ s)=q:=by
  simp_all[Nat.add_comm,Nat.add_mul_div_right]
 grind[Nat.add_mul_mod_self_right,Nat.mod_eq_of_lt,tae,Nat.mul_mod_mul_right,Nat.mul_div_cancel]
theorem aU2(a b c:Int):aa B' (aa B' (aa B' a+b)-aa B' c)=aa B' (a+b-c):=by
 grind[aa]
structure cD1 (hi lo y s Y v w e j8 L:Nat):Prop where
 hY:y*2 ^ s=Y
 hYn:J1 Y
 hYv:Y=4294967296*v+w
 hwB:w<4294967296
 hU:2 ^ s*hi+e=j8
 hUY:j8<Y
 hLM:L<18446744073709551616
 hN:(hi*18446744073709551616+lo)*2 ^ s=j8*18446744073709551616+L
 he:lo / 2 ^ (64-s)=e
 hv:Y / 4294967296=v
 hv0:¬(v:Int)=0
 m1:min s IntKind.u64.bits=s
 m2:min (64-s) IntKind.u64.bits=64-s
 f1:aa B' (s:Int)=(s:Int)
 f2:aa B' ((y:Int)*((2 ^ s:Nat):Int))=(Y:Int)
 f3:aa B' ((hi:Int)*((2 ^ s:Nat):Int))=((2 ^ s*hi:Nat):Int)
 f4:aa B' (64-(s:Int))=((64-s:Nat):Int)
 f6:XJ kaf B' ((2 ^ s*hi:Nat):Int) (e:Int)=.int B' (j8:Int)
 f7:aa B' ((lo:Int)*((2 ^ s:Nat):Int))=(L:Int)
 f8:XJ Mae B' (Y:Int) 4294967295=.int B' (w:Int)
 f9:XJ Mae B' (L:Int) 4294967295=.int B' ((L % 4294967296:Nat):Int)
def M7(hi lo y s:Nat) (b:hi<y) (hlo:lo<18446744073709551616) (s2:s<=63) (a:J1 (y*2 ^ s)):∃Y v w e j8 L,cD1 hi lo y s Y v w e j8 L:=by
 simp only[J1]at a;obtain⟨Y,hY⟩:∃Y,y*2 ^ s=Y:=⟨_,rfl⟩;rw[hY]at a;obtain⟨v,hv⟩:∃v,Y / 4294967296=v:=⟨_,rfl⟩;obtain⟨w,hw⟩:∃w,Y % 4294967296=w:=⟨_,rfl⟩;have hYv:Y=4294967296*v+w:=U
 have hwB:w<4294967296:=U
 have hv0:¬(v:Int)=0:=U
 have m1:min s IntKind.u64.bits=s:=caf (by show s<=64;omega);have m2:min (64-s) IntKind.u64.bits=64-s:=caf (by show 64-s<=64;omega);obtain⟨e,he⟩:∃e,lo / 2 ^ (64-s)=e:=⟨_,rfl⟩;have hes:e<2 ^ s:=by
  rw[←he,wac (Rad _),←Eae,show s+(64-s)=64 by omega];omega
 have hhs:2 ^ s*hi+2 ^ s<=Y:=by
  rw[←hY,←Nat.mul_succ,Gad];exact Β _ b
 obtain⟨j8,hU⟩:∃j8,2 ^ s*hi+e=j8:=⟨_,rfl⟩;have hUY:j8<Y:=U
 obtain⟨L,hL⟩:∃L,lo*2 ^ s % 18446744073709551616=L:=⟨_,rfl⟩;have hLM:L<18446744073709551616:=U
 have hloe:lo*2 ^ s=e*18446744073709551616+L:=by
  have h1:lo*2 ^ s / 18446744073709551616=e:=by
   rw[←he,show(18446744073709551616:Nat)=2 ^ (64-s)*2 ^ s by rw[←Eae,show 64-s+s=64 by omega],tae _ _ (Rad s)]
  omega
 have hN:(hi*18446744073709551616+lo)*2 ^ s=j8*18446744073709551616+L:=by
  grind
 have f1:aa B' (s:Int)=(s:Int):=fe U;have f2:aa B' ((y:Int)*((2 ^ s:Nat):Int))=(Y:Int):=by grind[fe]
 have f3:aa B' ((hi:Int)*((2 ^ s:Nat):Int))=((2 ^ s*hi:Nat):Int):=by grind[Gad,fe]
 have f4:aa B' (64-(s:Int))=((64-s:Nat):Int):=by grind[fe]
 have f6:XJ kaf B' ((2 ^ s*hi:Nat):Int) (e:Int)=.int B' (j8:Int):=by grind[bB4]
 have f7:aa B' ((lo:Int)*((2 ^ s:Nat):Int))=(L:Int):=by grind[aa]
 have f8:=cr8 (x:=Y) a.2;have f9:=cr8 (x:=L) hLM;rw[hw]at f8;exact⟨Y,v,w,e,j8,L,⟨hY,a,hYv,hwB,hU,hUY,hLM,hN,he,hv,hv0,m1,m2,f1,f2,f3,f4,f6,f7,f8,f9⟩⟩
structure ο (Y v w j8 u:Nat):Prop where
 hY:Y=4294967296*v+w
 hv:2147483648<=v
 hYM:Y<18446744073709551616
 hw:w<4294967296
 hU:j8<Y
 hu:u<4294967296
structure R! (Y v w j8 u q r:Nat):Prop where
 hP:q*v+r=j8
 hr:r<4294967296
 hQ:(j8*4294967296+u) / Y<=q
section
variable {Y v w j8 u q r:Nat}
theorem ο.mulY(D:ο Y v w j8 u) (q:Nat):q*Y=4294967296*(q*v)+q*w:=by
 rw[D.hY,Nat.mul_add,Nat.mul_left_comm]
theorem ο.Q_lt(D:ο Y v w j8 u):(j8*4294967296+u) / Y<4294967296:=by
 have h:=D.hU;have h1:=D.hu;have h2:=D.hv;have h3:=D.hY;rw[wac U];omega
theorem ο.q_le(D:ο Y v w j8 u) {q r:Nat}(h:q*v+r=j8):q<=4294967297:=by
 have h0:=D.hU;have h1:=D.hw;have h2:=D.hv;have h3:=D.hY;have:q*v<4294967298*v:=U
 have:=Nat.lt_of_mul_lt_mul_right this;omega
theorem ο.start(D:ο Y v w j8 u):R! Y v w j8 u (j8 / v) (j8 % v)\/(4294967296<=j8 % v):=by
 have h0:=D.hU;have h1:=D.hw;have h2:=D.hv;have h3:=D.hY;have h4:=D.hYM;have a:0<v:=U
 left;have hm:=Α j8 a;have hd:j8 / v*v+j8 % v=j8:=by grind[aac]
 refine⟨hd,U,?_⟩;rw[Nat.div_le_iff_le_mul_add_pred U];have e:=D.mulY (j8 / v);rw[Gad]at e;rw[e];have h5:=D.hu;omega
theorem R!.less(D:ο Y v w j8 u) (G:R! Y v w j8 u q r) (h:4294967296<=q\/4294967296*r+u<q*w):1<=q/\(j8*4294967296+u) / Y<=q-1/\(q-1)*v+(r+v)=j8:=by
 have a:(j8*4294967296+u) / Y<q:=by
  rcases h with h|h
  .exact Nat.lt_of_lt_of_le D.Q_lt h
  .have b:=D.hY;have h2:=D.hv;rw[wac U,D.mulY];have:=G.hP;omega
 have b:1<=q:=dad (L! _) a;refine⟨b,Nat.le_sub_one_of_lt a,?_⟩;have e:q*v=(q-1)*v+v:=by rw[←Nat.succ_mul];simp_all
 have:=G.hP;omega
theorem R!.done(D:ο Y v w j8 u) (G:R! Y v w j8 u q r) (h:q*w<=4294967296*r+u):q=(j8*4294967296+u) / Y:=by
 refine baf ?_ G.hQ;have h1:=D.hY;have h2:=D.hv;rw[Fad U,D.mulY];have:=G.hP;omega
theorem ο.big(D:ο Y v w j8 u) (hP:q*v+r=j8) (hr:4294967296<=r) (hq:q<=4294967296) (hQ:(j8*4294967296+u) / Y<=q):q=(j8*4294967296+u) / Y:=by
 refine baf ?_ hQ;have h1:=D.hY;have h2:=D.hv;have h3:=D.hw;rw[Fad U,D.mulY];have:=dac hq (show w<=4294967296 by omega);omega
end
def aa9{q:Nat}(h1:1<=q) (h2:q<18446744073709551616):aa B' ((q:Int)-1)=((q-1:Nat):Int):=by
 grind[fe]
theorem cm6(hi lo y:Nat) (W:hi<y) (K:lo<18446744073709551616) (hy:y<18446744073709551616) :
 e? al 388 [u64 hi,u64 lo,u64 y] (.tup [u64 ((hi*18446744073709551616+lo) / y),u64 ((hi*18446744073709551616+lo) % y)]):=by
 have c1:¬(y:Int)=0:=U
 have c2:¬(y:Int)<=(hi:Int):=U
 simp only[u64];by_cases h0:hi=0
 .subst h0;have a:¬(y:Int)<=0:=U
  have hlq:lo / y<18446744073709551616:=dad (gac _ _) K;have q1:aa B' (Int.tdiv (lo:Int) (y:Int))=((lo / y:Nat):Int):=fe hlq;have q2:Int.tmod (lo:Int) (y:Int)=((lo % y:Nat):Int):=rfl;refine dk (hf:=rfl) 132 aK2 ?_;simp only[aK2,Kf.of,zs,ze];refine Z.T Hz ?_;simp only[c1,a,at5,q1,q2,Nat.zero_mul,Nat.zero_add,zz,Gr,my,Cr,ky,oy,Br,Vl,Er,Dr,ny,Wd,fi,Ul,r?,undef,sE,Λ,C.TM,C.Dp,pd,h!,j!,fa,St.ev,St.put,k?,U?,M?,kj,Hd,Tb,SA,D.ok,D.cells,one,reduceCtorEq,Ε,u!]
  simp_all[er,zz,fq,zg]
 .have c3:¬(hi:Int)=0:=U
  refine dk (hf:=rfl) 132 aK2 ?_;simp only[aK2,Kf.of,zs,ze];refine Z.T Hz ?_;simp only[c1,c2,c3,zz,Gr,my,Cr,ky,oy,Br,Vl,Er,Dr,ny,Wd,fi,Ul,r?,undef,sE,Λ,C.TM,C.Dp,pd,h!,j!,fa,St.ev,St.put,k?,U?,M?,kj,Hd,Tb,SA,D.ok,D.cells,one,reduceCtorEq,Ε,u!];refine qC (cu7 y U hy _) ?_;intro d m' hh;obtain⟨⟨s,hd,s2,s3⟩,hm'⟩:=hh;obtain⟨Y,v,w,e,j8,L,F⟩:=M7 hi lo y s W K s2 s3;have g:ο Y v w j8 (L / 4294967296):=⟨F.hYv,by have:=F.hYn.1;have:=F.hYv;have:=F.hwB;omega,F.hYn.2,F.hwB,F.hUY,by have:=F.hLM;omega⟩;have hvM:v<18446744073709551616:=by have:=F.hYv;have:=F.hYn.2;omega
  have t:j8<18446744073709551616:=Sae F.hUY F.hYn.2;have N:0<v:=by have:=g.hv;omega
  have k:∀n:Nat,n<18446744073709551616->aa B' (Int.tdiv (n:Int) (v:Int))=((n / v:Nat):Int):=λn hn=>fe (dad (gac _ _) hn);have l:∀n:Nat,n<18446744073709551616->aa B' (((n / v:Nat):Int)*(v:Int))=((n / v*v:Nat):Int):=λn hn=>by rw[bh4,fe (dad (Nat.div_mul_le_self _ _) hn)]
  have m:∀n:Nat,n<18446744073709551616->aa B' ((n:Int)-((n / v*v:Nat):Int))=((n % v:Nat):Int):=λn hn=>by
   have:=aac n v;grind[fe]
  have g1:=k j8 t;have g2:=l j8 t;have g3:=m j8 t;simp only[hd,hm',zz,Gr,my,Cr,ky,oy,Br,Vl,Er,Dr,ny,Wd,fi,Ul,r?,undef,sE,Λ,C.TM,C.Dp,pd,h!,j!,fa,St.ev,St.put,k?,U?,M?,kj,Hd,Tb,SA,D.ok,D.cells,one,reduceCtorEq,Ε,u!,i64,as0,F.m1,F.m2,F.f1,F.f2,F.f3,F.f4,aW8,F.he,F.f6,F.f7,F.f8,F.f9,ct6,F.hv,F.hv0,g1,g2,g3,at5];refine T.aV (X:=Nat×Nat) (λx=>⟨[d!,d!,u64 Y,d!,d!,d!,d!,d!,u64 s,u64 v,u64 w,u64 j8,d!,u64 (L / 4294967296),u64 (L % 4294967296),u64 x.1,u64 x.2,d!,d!,d!,d!,d!,d!,d!,d!,d!,d!,d!,d!,d!,d!,d!,d!,d!,d!,d!,d!,d!,d!,d!,d!,d!,d!,d!,d!,d!,d!,d!,d!,d!,d!,d!,d!,d!,d!,d!,d!,d!,d!,d!,d!,d!,d!,d!,d!,d!,d!,d!,d!,d!,d!,d!,d!,d!,d!,d!,d!,d!,d!,d!,d!,d!,d!,d!,d!,d!,d!,d!,d!,d!,d!,d!,d!,d!,d!,d!,d!,d!,d!,d!,d!,d!,d!,d!,d!,d!,d!,d!,d!,d!,d!,d!,d!,d!,d!,d!,d!,d!,d!,d!,d!,d!,d!,d!,d!,d!,d!,d!,d!,d!,d!,d!,d!,d!,d!],[]⟩)
   (λx=>R! Y v w j8 (L / 4294967296) x.1 x.2/\x.1<=4294967297) (λx=>x.1=(j8*4294967296+L / 4294967296) / Y) (λx=>4294967296-x.2) (j8 / v,j8 % v) ?_ ?_ ?_ ?_ (λ_=>by grind[FA]) ?_
  .exact⟨g.start.resolve_right (by have:=Α j8 N;have:=F.hYv;have:=F.hYn.2;omega),g.q_le (r:=j8 % v) (by grind[aac])⟩
  .exact At.same _ _ _ B?
  .rintro⟨q,r⟩ _;exact⟨L! _,by simp[j?,below,u64],o0⟩
  .rintro⟨q,r⟩ ⟨i,c⟩;refine Z.T Hz ?_;simp only at i c;have hrB:=i.hr;have huB:=g.hu;have e0:(4294967296:Int)*(r:Int)=((4294967296*r:Nat):Int):=U
   have e1:aa B' ((4294967296*r:Nat):Int)=((4294967296*r:Nat):Int):=fe U;have e2:aa B' (((4294967296*r:Nat):Int)+((L / 4294967296:Nat):Int))=((4294967296*r+L / 4294967296:Nat):Int):=by rw[av8,fe U]
   have e4:aa B' ((r:Int)+(v:Int))=((r+v:Nat):Int):=by rw[av8,fe (by have:=F.hYv;have:=F.hYn.2;omega)]
   have e5:aa B' ((q:Int)*(w:Int))=aa B' ((q*w:Nat):Int):=o0
   have out:∀c1:(4294967296<=q\/4294967296*r+L / 4294967296<q*w),aa B' ((q:Int)-1)=((q-1:Nat):Int)/\(4294967296<=r+v->q-1=(j8*4294967296+L / 4294967296) / Y)/\(r+v<4294967296->R! Y v w j8 (L / 4294967296) (q-1) (r+v)):=λc1=>by
    obtain⟨O,u,k3⟩:=i.less g c1;exact⟨aa9 O U,λh=>g.big k3 h U u,λh=>⟨k3,h,u⟩⟩
   by_cases c1:4294967296<=q
   .have b:(4294967296:Int)<=(q:Int):=U
    obtain⟨f,z,A⟩:=out (.inl c1);by_cases c2:4294967296<=r+v
    .have a:(4294967296:Int)<=((r+v:Nat):Int):=U
     simp only[u64,zz,Gr,my,Cr,ky,oy,Br,Vl,Er,Dr,ny,Wd,fi,Ul,r?,undef,sE,Λ,C.TM,C.Dp,pd,h!,j!,fa,St.ev,St.put,k?,U?,M?,kj,Hd,Tb,SA,D.ok,D.cells,one,reduceCtorEq,Ε,u!,b,f,e4,a];exact⟨(q-1,r+v),z c2,At.same _ _ _ B?⟩
    .have a:¬(4294967296:Int)<=((r+v:Nat):Int):=U
     simp only[u64,zz,Gr,my,Cr,ky,oy,Br,Vl,Er,Dr,ny,Wd,fi,Ul,r?,undef,sE,Λ,C.TM,C.Dp,pd,h!,j!,fa,St.ev,St.put,k?,U?,M?,kj,Hd,Tb,SA,D.ok,D.cells,one,reduceCtorEq,Ε,u!,b,f,e4,a];exact⟨(q-1,r+v),⟨A U,U⟩,o4,At.same _ _ _ B?⟩
   .have b:¬(4294967296:Int)<=(q:Int):=U
    have e6:aa B' ((q*w:Nat):Int)=((q*w:Nat):Int):=fe (by
     have:=dac (show q<=4294967295 by omega) (show w<=4294967295 by have:=F.hwB;omega);omega)
    by_cases c3:4294967296*r+L / 4294967296<q*w
    .obtain⟨f,z,A⟩:=out (.inr c3);by_cases c2:4294967296<=r+v
     .have a:(4294967296:Int)<=((r+v:Nat):Int):=U
      simp only[u64,zz,Gr,my,Cr,ky,oy,Br,Vl,Er,Dr,ny,Wd,fi,Ul,r?,undef,sE,Λ,C.TM,C.Dp,pd,h!,j!,fa,St.ev,St.put,k?,U?,M?,kj,Hd,Tb,SA,D.ok,D.cells,one,reduceCtorEq,Ε,u!,b,f,e0,e1,e2,e4,e5,e6,UR,c3,a];exact⟨(q-1,r+v),z c2,At.same _ _ _ B?⟩
     .have a:¬(4294967296:Int)<=((r+v:Nat):Int):=U
      simp only[u64,zz,Gr,my,Cr,ky,oy,Br,Vl,Er,Dr,ny,Wd,fi,Ul,r?,undef,sE,Λ,C.TM,C.Dp,pd,h!,j!,fa,St.ev,St.put,k?,U?,M?,kj,Hd,Tb,SA,D.ok,D.cells,one,reduceCtorEq,Ε,u!,b,f,e0,e1,e2,e4,e5,e6,UR,c3,a];exact⟨(q-1,r+v),⟨A U,U⟩,o4,At.same _ _ _ B?⟩
    .simp only[u64,zz,Gr,my,Cr,ky,oy,Br,Vl,Er,Dr,ny,Wd,fi,Ul,r?,undef,sE,Λ,C.TM,C.Dp,pd,h!,j!,fa,St.ev,St.put,k?,U?,M?,kj,Hd,Tb,SA,D.ok,D.cells,one,reduceCtorEq,Ε,u!,b,e0,e1,e2,e4,e5,e6,UR,c3];exact⟨(q,r),i.done g (qaf.1 c3),At.same _ _ _ B?⟩
  .rintro⟨q,r⟩ hq;simp only at hq;obtain⟨Q,hQ⟩:∃Q,(j8*4294967296+L / 4294967296) / Y=Q:=⟨_,rfl⟩;rw[hQ]at hq;subst hq;obtain⟨R,hR⟩:∃R,(j8*4294967296+L / 4294967296) % Y=R:=⟨_,rfl⟩;have H:0<Y:=by have:=F.hYn.1;omega
   have G:R<Y:=by rw[←hR];exact Α _ H
   have V:=aac (j8*4294967296+L / 4294967296) Y;rw[hQ,hR,Gad]at V;have j:R<18446744073709551616:=Sae G F.hYn.2;have o:ο Y v w R (L % 4294967296):=⟨F.hYv,g.hv,F.hYn.2,F.hwB,G,Α _ p5⟩;have O:aa B' ((j8:Int)*4294967296+((L / 4294967296:Nat):Int)-(q:Int)*(Y:Int))=(R:Int):=by
    rw[bh4,show(j8:Int)*4294967296+((L / 4294967296:Nat):Int)-((q*Y:Nat):Int)=(R:Int) by omega,fe j]
   simp only[zz,Gr,my,Cr,ky,oy,Br,Vl,Er,Dr,ny,Wd,fi,Ul,r?,undef,sE,Λ,C.TM,C.Dp,pd,h!,j!,fa,St.ev,St.put,k?,U?,M?,kj,Hd,Tb,SA,D.ok,D.cells,one,reduceCtorEq,Ε,u!];refine Z.T Hz ?_;simp only[u64,zz,Gr,my,Cr,ky,oy,Br,Vl,Er,Dr,ny,Wd,fi,Ul,r?,undef,sE,Λ,C.TM,C.Dp,pd,h!,j!,fa,St.ev,St.put,k?,U?,M?,kj,Hd,Tb,SA,D.ok,D.cells,one,reduceCtorEq,Ε,u!,aU2,O,F.hv0,k R j,l R j,m R j];refine T.aV (X:=Nat×Nat) (λx=>⟨[d!,d!,u64 Y,d!,d!,d!,d!,d!,u64 s,u64 v,u64 w,d!,d!,d!,u64 (L % 4294967296),u64 q,u64 x.2,u64 R,u64 x.1,d!,d!,d!,d!,d!,d!,d!,d!,d!,d!,d!,d!,d!,d!,d!,d!,d!,d!,d!,d!,d!,d!,d!,d!,d!,d!,d!,d!,d!,d!,d!,d!,d!,d!,d!,d!,d!,d!,d!,d!,d!,d!,d!,d!,d!,d!,d!,d!,d!,d!,d!,d!,d!,d!,d!,d!,d!,d!,d!,d!,d!,d!,d!,d!,d!,d!,d!,d!,d!,d!,d!,d!,d!,d!,d!,d!,d!,d!,d!,d!,d!,d!,d!,d!,d!,d!,d!,d!,d!,d!,d!,d!,d!,d!,d!,d!,d!,d!,d!,d!,d!,d!,d!,d!,d!,d!,d!,d!,d!,d!,d!,d!,d!,d!,d!,d!],[]⟩)
    (λx=>R! Y v w R (L % 4294967296) x.1 x.2/\x.1<=4294967297) (λx=>x.1=(R*4294967296+L % 4294967296) / Y) (λx=>4294967296-x.2) (R / v,R % v) ?_ ?_ ?_ ?_ (λ_=>by grind[FA]) ?_
   .exact⟨o.start.resolve_right (by have:=Α R N;have:=F.hYv;have:=F.hYn.2;omega),o.q_le (r:=R % v) (by grind[aac])⟩
   .exact At.same _ _ _ B?
   .rintro⟨q,r⟩ _;exact⟨L! _,by simp[j?,below,u64],o0⟩
   .rintro⟨p,r⟩ ⟨i,c⟩;refine Z.T Hz ?_;simp only at i c;have hrB:=i.hr;have huB:=o.hu;have e0:(4294967296:Int)*(r:Int)=((4294967296*r:Nat):Int):=U
    have e1:aa B' ((4294967296*r:Nat):Int)=((4294967296*r:Nat):Int):=fe U;have e2:aa B' (((4294967296*r:Nat):Int)+((L % 4294967296:Nat):Int))=((4294967296*r+L % 4294967296:Nat):Int):=by rw[av8,fe U]
    have e4:aa B' ((r:Int)+(v:Int))=((r+v:Nat):Int):=by rw[av8,fe (by have:=F.hYv;have:=F.hYn.2;omega)]
    have e5:aa B' ((p:Int)*(w:Int))=aa B' ((p*w:Nat):Int):=o0
    have out:∀c1:(4294967296<=p\/4294967296*r+L % 4294967296<p*w),aa B' ((p:Int)-1)=((p-1:Nat):Int)/\(4294967296<=r+v->p-1=(R*4294967296+L % 4294967296) / Y)/\(r+v<4294967296->R! Y v w R (L % 4294967296) (p-1) (r+v)):=λc1=>by
     obtain⟨O,u,k3⟩:=i.less o c1;exact⟨aa9 O U,λh=>o.big k3 h U u,λh=>⟨k3,h,u⟩⟩
    by_cases c1:4294967296<=p
    .have b:(4294967296:Int)<=(p:Int):=U
     obtain⟨f,z,A⟩:=out (.inl c1);by_cases c2:4294967296<=r+v
     .have a:(4294967296:Int)<=((r+v:Nat):Int):=U
      simp only[u64,zz,Gr,my,Cr,ky,oy,Br,Vl,Er,Dr,ny,Wd,fi,Ul,r?,undef,sE,Λ,C.TM,C.Dp,pd,h!,j!,fa,St.ev,St.put,k?,U?,M?,kj,Hd,Tb,SA,D.ok,D.cells,one,reduceCtorEq,Ε,u!,b,f,e4,a];exact⟨(p-1,r+v),z c2,At.same _ _ _ B?⟩
     .have a:¬(4294967296:Int)<=((r+v:Nat):Int):=U
      simp only[u64,zz,Gr,my,Cr,ky,oy,Br,Vl,Er,Dr,ny,Wd,fi,Ul,r?,undef,sE,Λ,C.TM,C.Dp,pd,h!,j!,fa,St.ev,St.put,k?,U?,M?,kj,Hd,Tb,SA,D.ok,D.cells,one,reduceCtorEq,Ε,u!,b,f,e4,a];exact⟨(p-1,r+v),⟨A U,U⟩,o4,At.same _ _ _ B?⟩
    .have b:¬(4294967296:Int)<=(p:Int):=U
     have e6:aa B' ((p*w:Nat):Int)=((p*w:Nat):Int):=fe (by
      have:=dac (show p<=4294967295 by omega) (show w<=4294967295 by have:=F.hwB;omega);omega)
     by_cases c3:4294967296*r+L % 4294967296<p*w
     .obtain⟨f,z,A⟩:=out (.inr c3);by_cases c2:4294967296<=r+v
      .have a:(4294967296:Int)<=((r+v:Nat):Int):=U
       simp only[u64,zz,Gr,my,Cr,ky,oy,Br,Vl,Er,Dr,ny,Wd,fi,Ul,r?,undef,sE,Λ,C.TM,C.Dp,pd,h!,j!,fa,St.ev,St.put,k?,U?,M?,kj,Hd,Tb,SA,D.ok,D.cells,one,reduceCtorEq,Ε,u!,b,f,e0,e1,e2,e4,e5,e6,UR,c3,a];exact⟨(p-1,r+v),z c2,At.same _ _ _ B?⟩
      .have a:¬(4294967296:Int)<=((r+v:Nat):Int):=U
       simp only[u64,zz,Gr,my,Cr,ky,oy,Br,Vl,Er,Dr,ny,Wd,fi,Ul,r?,undef,sE,Λ,C.TM,C.Dp,pd,h!,j!,fa,St.ev,St.put,k?,U?,M?,kj,Hd,Tb,SA,D.ok,D.cells,one,reduceCtorEq,Ε,u!,b,f,e0,e1,e2,e4,e5,e6,UR,c3,a];exact⟨(p-1,r+v),⟨A U,U⟩,o4,At.same _ _ _ B?⟩
     .simp only[u64,zz,Gr,my,Cr,ky,oy,Br,Vl,Er,Dr,ny,Wd,fi,Ul,r?,undef,sE,Λ,C.TM,C.Dp,pd,h!,j!,fa,St.ev,St.put,k?,U?,M?,kj,Hd,Tb,SA,D.ok,D.cells,one,reduceCtorEq,Ε,u!,b,e0,e1,e2,e4,e5,e6,UR,c3];exact⟨(p,r),i.done o (qaf.1 c3),At.same _ _ _ B?⟩
   .rintro⟨p,r'⟩ P;simp only at P;obtain⟨Q',E⟩:∃Q,(R*4294967296+L % 4294967296) / Y=Q:=⟨_,rfl⟩;have hp1:=o.Q_lt;rw[←P]at hp1;rw[E]at P;subst P;obtain⟨B,hZ⟩:∃B,(R*4294967296+L % 4294967296) % Y=B:=⟨_,rfl⟩;have S:B<Y:=by rw[←hZ];exact Α _ H
    have I:=aac (R*4294967296+L % 4294967296) Y;rw[E,hZ,Gad]at I;have c:=g.Q_lt;rw[hQ]at c;have u:aa B' ((R:Int)*4294967296+((L % 4294967296:Nat):Int)-(p:Int)*(Y:Int))=(B:Int):=by
     rw[bh4,show(R:Int)*4294967296+((L % 4294967296:Nat):Int)-((p*Y:Nat):Int)=(B:Int) by omega,fe (Sae S F.hYn.2)]
    have k3:aa B' (aa B' ((q:Int)*4294967296)+(p:Int))=((q*4294967296+p:Nat):Int):=by
     rw[show(q:Int)*4294967296=((q*4294967296:Nat):Int) by omega,fe U,av8,fe U]
    have j9:(hi*18446744073709551616+lo)*2 ^ s=(q*4294967296+p)*(y*2 ^ s)+B:=by
     rw[F.hN,F.hY,Nat.add_mul,Nat.mul_right_comm];omega
    have j6:=bc9 U j9 (by rw[F.hY];omega);simp only[zz,Gr,my,Cr,ky,oy,Br,Vl,Er,Dr,ny,Wd,fi,Ul,r?,undef,sE,Λ,C.TM,C.Dp,pd,h!,j!,fa,St.ev,St.put,k?,U?,M?,kj,Hd,Tb,SA,D.ok,D.cells,one,reduceCtorEq,Ε,u!];refine Z.T Hz ?_;simp only[u64,zz,Gr,my,Cr,ky,oy,Br,Vl,Er,Dr,ny,Wd,fi,Ul,r?,undef,sE,Λ,C.TM,C.Dp,pd,h!,j!,fa,St.ev,St.put,k?,U?,M?,kj,Hd,Tb,SA,D.ok,D.cells,one,reduceCtorEq,Ε,u!,aU2,u,k3,as0,F.m1,aW8,j6.1,j6.2]
    simp_all[er,zz,fq,zg]
theorem CH{t0 t1 t2:Int}{r:Int×Int}(h:Tg t0 t1 t2=M r):e? al 388 [Ml t0,Ml t1,Ml t2] (.tup [Ml r.1,Ml r.2]):=by
 unfold Tg at h;split at h
 .rename_i hc;obtain⟨x,rfl⟩:∃x:Nat,t0=x:=⟨t0.toNat,U⟩;obtain⟨y,rfl⟩:∃y:Nat,t1=y:=⟨t1.toNat,U⟩;obtain⟨z,rfl⟩:∃z:Nat,t2=z:=⟨t2.toNat,U⟩;obtain rfl:=J' h;have a:=cm6 x y z U U U;have e1:((x:Int)*18446744073709551616+(y:Int)) / (z:Int)=(((x*18446744073709551616+y) / z:Nat):Int):=by
   simp
  have e2:((x:Int)*18446744073709551616+(y:Int)) % (z:Int)=(((x*18446744073709551616+y) % z:Nat):Int):=by
   simp
  dsimp only;rw[e1,e2];exact a
 .cases h
instance {t0 t1 r}:o! (Bf t0 t1=M r) (e? al 387 [Ml t0,Ml t1] (.tup [Ml r.1,Ml r.2])):=⟨DH⟩
instance {t0 t1 t2 r}:o! (Tg t0 t1 t2=M r) (e? al 388 [Ml t0,Ml t1,Ml t2] (.tup [Ml r.1,Ml r.2])):=⟨CH⟩
end Go.Proofs.Dev
