/-
  Contracts by hand: the conditions stand in each.
-/
import Derived.Test.YtmhfebelfmgckaaGreatDoorK
import Derived.Lib.ItoaNum
open Option renaming some->M
open Decidable renaming decide->s5
open Go.IntKind renaming u64->B!
open Go.Tm.D renaming dead->d!
open Go.Proofs.Tryz renaming prog->al
open Int renaming reduceEq->t?,reduceLT->Η
open List renaming map_cons->F?,replicate->l!
open Nat renaming div_add_mod->Pab,div_le_self->Yab,div_lt_iff_lt_mul->pac,land->zae,le_antisymm->Pae,le_div_iff_mul_le->sad,lor->Yae,lt_of_le_of_lt->Pac,lt_trans->Gae,min_eq_left->Qae,mod_lt->Γ,mul_comm->tad,mul_div_mul_right->gae,mul_le_mul->Vab,mul_le_mul_right->Δ,not_lt->eaf,pow_add->rae,reduceAdd->N!,reduceEqDiff->Ι,reduceSub->T',two_pow_pos->Dad,zero_le->M'
open Option.some renaming inj->J!
set_option linter.all false
set_option maxHeartbeats 2000000
set_option maxRecDepth 10000
namespace Go.Proofs.Dev
open Go Go.Tm
def u64(n:Nat):D:=.v (.int B! n)
def i64(n:Int):D:=.v (.int .i64 n)
def cr9:(2 ^ min (Int.toNat 32) IntKind.u64.bits:Nat)=4294967296:=rfl
def cq1{x:Nat}(h:x<18446744073709551616):qJ zae B! (x:Int) 4294967295=.int B! ((x % 4294967296:Nat):Int):=by
 have e1:((x:Int) % RJ B!).toNat=x:=by grind[RJ]
 have e2:((4294967295:Int) % RJ B!).toNat=4294967295:=o4
 unfold qJ;rw[e1,e2];have e3:zae x 4294967295=x % 4294967296:=Nat.and_two_pow_sub_one_eq_mod x 32
 grind[Yd]
theorem bg8(a b:Nat):(a:Int)*(b:Int)=((a*b:Nat):Int):=(Int.natCast_mul a b).symm
def av7(a b:Nat):(a:Int)+(b:Int)=((a+b:Nat):Int):=(Int.natCast_add a b).symm
def lY{P:Program}{k:Nat}{vs us:List Value}(b:Tm.I! P k) (h:∀w,Calls P k vs.toArray w λe w'=>e=.returned (.tuple us.toArray)/\w'=w):e? P k (vs.map .v) (.tup (us.map .v)):=by
 refine λm=>⟨b,λG w a hv hi=>?_⟩;have key:∀(vs us:List Value),VsRel G w (vs.map .v) us->us=vs:=by
  intro vs
  induction vs with
  |nil=>intro us h;simpa [VsRel] using h
  |cons x l c=>
   intro us h;simp only[F?,VsRel,VRel]at h
   grind
 have key2:∀us:List Value,VsRel G w (us.map .v) us:=by
  intro us
  induction us with
  |nil=>simp[VsRel]
  |cons x l c=>simp only[F?,VsRel,VRel];grind
 obtain rfl:=key vs a hv;refine(h w).mono ?_;rintro e w' ⟨rfl,rfl⟩;refine⟨_,_,_,G,rfl,⟨rfl,rfl⟩,?_,hi,Step.refl _ _ _⟩;simp only[VRel]
 simp_all
def fH{t0 t1:Int}{r:Int×Int}(h:uf t0 t1=M r):e? al 387 [Gl t0,Gl t1] (.tup [Gl r.1,Gl r.2]):=by
 unfold uf at h;split at h
 .rename_i hc;obtain⟨x,rfl⟩:∃x:Nat,t0=x:=⟨t0.toNat,U⟩;obtain⟨y,rfl⟩:∃y:Nat,t1=y:=⟨t1.toNat,U⟩;obtain rfl:=J! h;have a:=lY (vs:=[.int B! x,.int B! y]) (us:=[.int B! ((x*y / 18446744073709551616:Nat):Int),.int B! ((x*y % 18446744073709551616:Nat):Int)]) (VH bM0.ok bM0.nm) (λw=>Tryz.bits_Mul64 x y U U w);have e1:(x:Int)*(y:Int) / 18446744073709551616=((x*y / 18446744073709551616:Nat):Int):=U
  have e2:(x:Int)*(y:Int) % 18446744073709551616=((x*y % 18446744073709551616:Nat):Int):=U
  dsimp only;rw[e1,e2];exact a
 .cases h
def B0(Y:Nat):Prop:=9223372036854775808<=Y/\Y<18446744073709551616
def ct0(y:Nat) (h0:0<y) (c:y<18446744073709551616) (m:List Ent):CallT al 419 [u64 y] m λd m'=>(∃s:Nat,d=i64 s/\s<=63/\B0 (y*2 ^ s))/\m'=m:=by
 obtain⟨h1,h2,a⟩:=Lib.bitLenAux_bounds 64 y c U;have h4:Lib.bitLenAux 64 y<=64:=by
  by_cases hc:Lib.bitLenAux 64 y<=64
  .omega
  .have:2 ^ 64<=2 ^ (Lib.bitLenAux 64 y-1):=Nat.pow_le_pow_right o4 U;omega
 have b:=LQ (vs:=[.int B! y]) (VH bJ2.ok bJ2.nm) (λw=>Tryz.bits_LeadingZeros64 (y:Int) w U U);refine(b m).mono ?_;rintro d m' ⟨rfl,rfl⟩;refine⟨⟨64-Lib.bitLenAux 64 y,?_,U,?_,?_⟩,rfl⟩
 .grind[i64,Lib.bitLen]
 .have:=Δ (2 ^ (64-Lib.bitLenAux 64 y)) h2;rw[←rae,show Lib.bitLenAux 64 y-1+(64-Lib.bitLenAux 64 y)=63 by omega]at this;omega
 .have:=Nat.mul_lt_mul_of_pos_right a (Dad (64-Lib.bitLenAux 64 y));rw[←rae,show Lib.bitLenAux 64 y+(64-Lib.bitLenAux 64 y)=64 by omega]at this;omega
def as0(n:Nat):s5 ((n:Int)<0)=false:=l5
theorem bB0{a b s:Nat}(hb:b<2 ^ s) (h:2 ^ s*a+b<18446744073709551616):qJ Yae B! ((2 ^ s*a:Nat):Int) (b:Int)=.int B! ((2 ^ s*a+b:Nat):Int):=by
 have e1:(((2 ^ s*a:Nat):Int) % RJ B!).toNat=2 ^ s*a:=by grind[RJ]
 have e2:((b:Int) % RJ B!).toNat=b:=by grind[RJ]
 unfold qJ;rw[e1,e2];have e3:Yae (2 ^ s*a) b=2 ^ s*a+b:=(Nat.two_pow_add_eq_or_of_lt hb a).symm
 grind[Yd]
theorem bc2{N y s q R:Nat}(hy:0<y) (h:N*2 ^ s=q*(y*2 ^ s)+R) (hR:R<y*2 ^ s):N / y=q/\N % y=R / 2 ^ s:=by
 have hp:=Dad s;have h1:N*2 ^ s / (y*2 ^ s)=q:=by
  simp_all[Nat.add_comm,Nat.add_mul_div_right]
 grind[Nat.add_mul_mod_self_right,Nat.mod_eq_of_lt,gae,Nat.mul_mod_mul_right,Nat.mul_div_cancel]
theorem aT7(a b c:Int):aa B! (aa B! (aa B! a+b)-aa B! c)=aa B! (a+b-c):=by
 grind[aa]
structure cB4 (hi lo y s Y v w e j6 L:Nat):Prop where
 hY:y*2 ^ s=Y
 hYn:B0 Y
 hYv:Y=4294967296*v+w
 hwB:w<4294967296
 hU:2 ^ s*hi+e=j6
 hUY:j6<Y
 hLM:L<18446744073709551616
 hN:(hi*18446744073709551616+lo)*2 ^ s=j6*18446744073709551616+L
 he:lo / 2 ^ (64-s)=e
 hv:Y / 4294967296=v
 hv0:¬(v:Int)=0
 m1:min s IntKind.u64.bits=s
 m2:min (64-s) IntKind.u64.bits=64-s
 f1:aa B! (s:Int)=(s:Int)
 f2:aa B! ((y:Int)*((2 ^ s:Nat):Int))=(Y:Int)
 f3:aa B! ((hi:Int)*((2 ^ s:Nat):Int))=((2 ^ s*hi:Nat):Int)
 f4:aa B! (64-(s:Int))=((64-s:Nat):Int)
 f6:qJ Yae B! ((2 ^ s*hi:Nat):Int) (e:Int)=.int B! (j6:Int)
 f7:aa B! ((lo:Int)*((2 ^ s:Nat):Int))=(L:Int)
 f8:qJ zae B! (Y:Int) 4294967295=.int B! (w:Int)
 f9:qJ zae B! (L:Int) 4294967295=.int B! ((L % 4294967296:Nat):Int)
def o7(hi lo y s:Nat) (b:hi<y) (hlo:lo<18446744073709551616) (s2:s<=63) (a:B0 (y*2 ^ s)):∃Y v w e j6 L,cB4 hi lo y s Y v w e j6 L:=by
 simp only[B0]at a;obtain⟨Y,hY⟩:∃Y,y*2 ^ s=Y:=⟨_,rfl⟩;rw[hY]at a;obtain⟨v,hv⟩:∃v,Y / 4294967296=v:=⟨_,rfl⟩;obtain⟨w,hw⟩:∃w,Y % 4294967296=w:=⟨_,rfl⟩;have hYv:Y=4294967296*v+w:=U
 have hwB:w<4294967296:=U
 have hv0:¬(v:Int)=0:=U
 have m1:min s IntKind.u64.bits=s:=Qae (by show s<=64;omega);have m2:min (64-s) IntKind.u64.bits=64-s:=Qae (by show 64-s<=64;omega);obtain⟨e,he⟩:∃e,lo / 2 ^ (64-s)=e:=⟨_,rfl⟩;have hes:e<2 ^ s:=by
  rw[←he,pac (Dad _),←rae,show s+(64-s)=64 by omega];omega
 have hhs:2 ^ s*hi+2 ^ s<=Y:=by
  rw[←hY,←Nat.mul_succ,tad];exact Δ _ b
 obtain⟨j6,hU⟩:∃j6,2 ^ s*hi+e=j6:=⟨_,rfl⟩;have hUY:j6<Y:=U
 obtain⟨L,hL⟩:∃L,lo*2 ^ s % 18446744073709551616=L:=⟨_,rfl⟩;have hLM:L<18446744073709551616:=U
 have hloe:lo*2 ^ s=e*18446744073709551616+L:=by
  have h1:lo*2 ^ s / 18446744073709551616=e:=by
   rw[←he,show(18446744073709551616:Nat)=2 ^ (64-s)*2 ^ s by rw[←rae,show 64-s+s=64 by omega],gae _ _ (Dad s)]
  omega
 have hN:(hi*18446744073709551616+lo)*2 ^ s=j6*18446744073709551616+L:=by
  grind
 have f1:aa B! (s:Int)=(s:Int):=Yd U;have f2:aa B! ((y:Int)*((2 ^ s:Nat):Int))=(Y:Int):=by grind[Yd]
 have f3:aa B! ((hi:Int)*((2 ^ s:Nat):Int))=((2 ^ s*hi:Nat):Int):=by grind[tad,Yd]
 have f4:aa B! (64-(s:Int))=((64-s:Nat):Int):=by grind[Yd]
 have f6:qJ Yae B! ((2 ^ s*hi:Nat):Int) (e:Int)=.int B! (j6:Int):=by grind[bB0]
 have f7:aa B! ((lo:Int)*((2 ^ s:Nat):Int))=(L:Int):=by grind[aa]
 have f8:=cq1 (x:=Y) a.2;have f9:=cq1 (x:=L) hLM;rw[hw]at f8;exact⟨Y,v,w,e,j6,L,⟨hY,a,hYv,hwB,hU,hUY,hLM,hN,he,hv,hv0,m1,m2,f1,f2,f3,f4,f6,f7,f8,f9⟩⟩
structure φ (Y v w j6 u:Nat):Prop where
 hY:Y=4294967296*v+w
 hv:2147483648<=v
 hYM:Y<18446744073709551616
 hw:w<4294967296
 hU:j6<Y
 hu:u<4294967296
structure R! (Y v w j6 u q r:Nat):Prop where
 hP:q*v+r=j6
 hr:r<4294967296
 hQ:(j6*4294967296+u) / Y<=q
section
variable {Y v w j6 u q r:Nat}
theorem φ.mulY(D:φ Y v w j6 u) (q:Nat):q*Y=4294967296*(q*v)+q*w:=by
 rw[D.hY,Nat.mul_add,Nat.mul_left_comm]
theorem φ.Q_lt(D:φ Y v w j6 u):(j6*4294967296+u) / Y<4294967296:=by
 have h:=D.hU;have h1:=D.hu;have h2:=D.hv;have h3:=D.hY;rw[pac U];omega
theorem φ.q_le(D:φ Y v w j6 u) {q r:Nat}(h:q*v+r=j6):q<=4294967297:=by
 have h0:=D.hU;have h1:=D.hw;have h2:=D.hv;have h3:=D.hY;have:q*v<4294967298*v:=U
 have:=Nat.lt_of_mul_lt_mul_right this;omega
theorem φ.start(D:φ Y v w j6 u):R! Y v w j6 u (j6 / v) (j6 % v)\/(4294967296<=j6 % v):=by
 have h0:=D.hU;have h1:=D.hw;have h2:=D.hv;have h3:=D.hY;have h4:=D.hYM;have a:0<v:=U
 left;have hm:=Γ j6 a;have hd:j6 / v*v+j6 % v=j6:=by grind[Pab]
 refine⟨hd,U,?_⟩;rw[Nat.div_le_iff_le_mul_add_pred U];have e:=D.mulY (j6 / v);rw[tad]at e;rw[e];have h5:=D.hu;omega
theorem R!.less(D:φ Y v w j6 u) (G:R! Y v w j6 u q r) (h:4294967296<=q\/4294967296*r+u<q*w):1<=q/\(j6*4294967296+u) / Y<=q-1/\(q-1)*v+(r+v)=j6:=by
 have a:(j6*4294967296+u) / Y<q:=by
  rcases h with h|h
  .exact Nat.lt_of_lt_of_le D.Q_lt h
  .have b:=D.hY;have h2:=D.hv;rw[pac U,D.mulY];have:=G.hP;omega
 have b:1<=q:=Pac (M' _) a;refine⟨b,Nat.le_sub_one_of_lt a,?_⟩;have e:q*v=(q-1)*v+v:=by rw[←Nat.succ_mul];simp_all
 have:=G.hP;omega
theorem R!.done(D:φ Y v w j6 u) (G:R! Y v w j6 u q r) (h:q*w<=4294967296*r+u):q=(j6*4294967296+u) / Y:=by
 refine Pae ?_ G.hQ;have h1:=D.hY;have h2:=D.hv;rw[sad U,D.mulY];have:=G.hP;omega
theorem φ.big(D:φ Y v w j6 u) (hP:q*v+r=j6) (hr:4294967296<=r) (hq:q<=4294967296) (hQ:(j6*4294967296+u) / Y<=q):q=(j6*4294967296+u) / Y:=by
 refine Pae ?_ hQ;have h1:=D.hY;have h2:=D.hv;have h3:=D.hw;rw[sad U,D.mulY];have:=Vab hq (show w<=4294967296 by omega);omega
end
def ab4{q:Nat}(h1:1<=q) (h2:q<18446744073709551616):aa B! ((q:Int)-1)=((q-1:Nat):Int):=by
 grind[Yd]
theorem cl1(hi lo y:Nat) (W:hi<y) (K:lo<18446744073709551616) (hy:y<18446744073709551616) :
 e? al 388 [u64 hi,u64 lo,u64 y] (.tup [u64 ((hi*18446744073709551616+lo) / y),u64 ((hi*18446744073709551616+lo) % y)]):=by
 have c1:¬(y:Int)=0:=U
 have c2:¬(y:Int)<=(hi:Int):=U
 simp only[u64];by_cases h0:hi=0
 .subst h0;have a:¬(y:Int)<=0:=U
  have hlq:lo / y<18446744073709551616:=Pac (Yab _ _) K;have q1:aa B! (Int.tdiv (lo:Int) (y:Int))=((lo / y:Nat):Int):=Yd hlq;have q2:Int.tmod (lo:Int) (y:Int)=((lo % y:Nat):Int):=rfl;refine dk (hf:=rfl) 132 aJ9 ?_;simp only[aJ9,Kf.of,zs,ze];refine Z.T rz ?_;simp only[c1,a,at4,q1,q2,Nat.zero_mul,Nat.zero_add,zz,yr,Vx,ur,Ux,Xx,tr,Pl,xr,vr,Wx,Td,Th,Ol,r?,undef,aE,Η,C.oM,C.qp,ld,h!,j!,fa,St.ev,St.put,l!,T',N!,Zi,Cd,Rb,JA,D.ok,D.cells,one,reduceCtorEq,Ι,t?]
  simp_all[er,zz,fq,zg]
 .have c3:¬(hi:Int)=0:=U
  refine dk (hf:=rfl) 132 aJ9 ?_;simp only[aJ9,Kf.of,zs,ze];refine Z.T rz ?_;simp only[c1,c2,c3,zz,yr,Vx,ur,Ux,Xx,tr,Pl,xr,vr,Wx,Td,Th,Ol,r?,undef,aE,Η,C.oM,C.qp,ld,h!,j!,fa,St.ev,St.put,l!,T',N!,Zi,Cd,Rb,JA,D.ok,D.cells,one,reduceCtorEq,Ι,t?];refine SB (ct0 y U hy _) ?_;intro d m' hh;obtain⟨⟨s,hd,s2,s3⟩,hm'⟩:=hh;obtain⟨Y,v,w,e,j6,L,F⟩:=o7 hi lo y s W K s2 s3;have g:φ Y v w j6 (L / 4294967296):=⟨F.hYv,by have:=F.hYn.1;have:=F.hYv;have:=F.hwB;omega,F.hYn.2,F.hwB,F.hUY,by have:=F.hLM;omega⟩;have hvM:v<18446744073709551616:=by have:=F.hYv;have:=F.hYn.2;omega
  have t:j6<18446744073709551616:=Gae F.hUY F.hYn.2;have N:0<v:=by have:=g.hv;omega
  have k:∀n:Nat,n<18446744073709551616->aa B! (Int.tdiv (n:Int) (v:Int))=((n / v:Nat):Int):=λn hn=>Yd (Pac (Yab _ _) hn);have l:∀n:Nat,n<18446744073709551616->aa B! (((n / v:Nat):Int)*(v:Int))=((n / v*v:Nat):Int):=λn hn=>by rw[bg8,Yd (Pac (Nat.div_mul_le_self _ _) hn)]
  have m:∀n:Nat,n<18446744073709551616->aa B! ((n:Int)-((n / v*v:Nat):Int))=((n % v:Nat):Int):=λn hn=>by
   have:=Pab n v;grind[Yd]
  have g1:=k j6 t;have g2:=l j6 t;have g3:=m j6 t;simp only[hd,hm',zz,yr,Vx,ur,Ux,Xx,tr,Pl,xr,vr,Wx,Td,Th,Ol,r?,undef,aE,Η,C.oM,C.qp,ld,h!,j!,fa,St.ev,St.put,l!,T',N!,Zi,Cd,Rb,JA,D.ok,D.cells,one,reduceCtorEq,Ι,t?,i64,as0,F.m1,F.m2,F.f1,F.f2,F.f3,F.f4,aW1,F.he,F.f6,F.f7,F.f8,F.f9,cr9,F.hv,F.hv0,g1,g2,g3,at4];refine T.vU (X:=Nat×Nat) (λx=>⟨[d!,d!,u64 Y,d!,d!,d!,d!,d!,u64 s,u64 v,u64 w,u64 j6,d!,u64 (L / 4294967296),u64 (L % 4294967296),u64 x.1,u64 x.2,d!,d!,d!,d!,d!,d!,d!,d!,d!,d!,d!,d!,d!,d!,d!,d!,d!,d!,d!,d!,d!,d!,d!,d!,d!,d!,d!,d!,d!,d!,d!,d!,d!,d!,d!,d!,d!,d!,d!,d!,d!,d!,d!,d!,d!,d!,d!,d!,d!,d!,d!,d!,d!,d!,d!,d!,d!,d!,d!,d!,d!,d!,d!,d!,d!,d!,d!,d!,d!,d!,d!,d!,d!,d!,d!,d!,d!,d!,d!,d!,d!,d!,d!,d!,d!,d!,d!,d!,d!,d!,d!,d!,d!,d!,d!,d!,d!,d!,d!,d!,d!,d!,d!,d!,d!,d!,d!,d!,d!,d!,d!,d!,d!,d!,d!,d!,d!,d!],[]⟩)
   (λx=>R! Y v w j6 (L / 4294967296) x.1 x.2/\x.1<=4294967297) (λx=>x.1=(j6*4294967296+L / 4294967296) / Y) (λx=>4294967296-x.2) (j6 / v,j6 % v) ?_ ?_ ?_ ?_ (λ_=>by grind[wA]) ?_
  .exact⟨g.start.resolve_right (by have:=Γ j6 N;have:=F.hYv;have:=F.hYn.2;omega),g.q_le (r:=j6 % v) (by grind[Pab])⟩
  .exact At.same _ _ _ C'
  .rintro⟨q,r⟩ _;exact⟨M' _,by simp[j?,below,u64],l5⟩
  .rintro⟨q,r⟩ ⟨i,c⟩;refine Z.T rz ?_;simp only at i c;have hrB:=i.hr;have huB:=g.hu;have e0:(4294967296:Int)*(r:Int)=((4294967296*r:Nat):Int):=U
   have e1:aa B! ((4294967296*r:Nat):Int)=((4294967296*r:Nat):Int):=Yd U;have e2:aa B! (((4294967296*r:Nat):Int)+((L / 4294967296:Nat):Int))=((4294967296*r+L / 4294967296:Nat):Int):=by rw[av7,Yd U]
   have e4:aa B! ((r:Int)+(v:Int))=((r+v:Nat):Int):=by rw[av7,Yd (by have:=F.hYv;have:=F.hYn.2;omega)]
   have e5:aa B! ((q:Int)*(w:Int))=aa B! ((q*w:Nat):Int):=l5
   have out:∀c1:(4294967296<=q\/4294967296*r+L / 4294967296<q*w),aa B! ((q:Int)-1)=((q-1:Nat):Int)/\(4294967296<=r+v->q-1=(j6*4294967296+L / 4294967296) / Y)/\(r+v<4294967296->R! Y v w j6 (L / 4294967296) (q-1) (r+v)):=λc1=>by
    obtain⟨O,u,k3⟩:=i.less g c1;exact⟨ab4 O U,λh=>g.big k3 h U u,λh=>⟨k3,h,u⟩⟩
   by_cases c1:4294967296<=q
   .have b:(4294967296:Int)<=(q:Int):=U
    obtain⟨f,z,A⟩:=out (.inl c1);by_cases c2:4294967296<=r+v
    .have a:(4294967296:Int)<=((r+v:Nat):Int):=U
     simp only[u64,zz,yr,Vx,ur,Ux,Xx,tr,Pl,xr,vr,Wx,Td,Th,Ol,r?,undef,aE,Η,C.oM,C.qp,ld,h!,j!,fa,St.ev,St.put,l!,T',N!,Zi,Cd,Rb,JA,D.ok,D.cells,one,reduceCtorEq,Ι,t?,b,f,e4,a];exact⟨(q-1,r+v),z c2,At.same _ _ _ C'⟩
    .have a:¬(4294967296:Int)<=((r+v:Nat):Int):=U
     simp only[u64,zz,yr,Vx,ur,Ux,Xx,tr,Pl,xr,vr,Wx,Td,Th,Ol,r?,undef,aE,Η,C.oM,C.qp,ld,h!,j!,fa,St.ev,St.put,l!,T',N!,Zi,Cd,Rb,JA,D.ok,D.cells,one,reduceCtorEq,Ι,t?,b,f,e4,a];exact⟨(q-1,r+v),⟨A U,U⟩,o0,At.same _ _ _ C'⟩
   .have b:¬(4294967296:Int)<=(q:Int):=U
    have e6:aa B! ((q*w:Nat):Int)=((q*w:Nat):Int):=Yd (by
     have:=Vab (show q<=4294967295 by omega) (show w<=4294967295 by have:=F.hwB;omega);omega)
    by_cases c3:4294967296*r+L / 4294967296<q*w
    .obtain⟨f,z,A⟩:=out (.inr c3);by_cases c2:4294967296<=r+v
     .have a:(4294967296:Int)<=((r+v:Nat):Int):=U
      simp only[u64,zz,yr,Vx,ur,Ux,Xx,tr,Pl,xr,vr,Wx,Td,Th,Ol,r?,undef,aE,Η,C.oM,C.qp,ld,h!,j!,fa,St.ev,St.put,l!,T',N!,Zi,Cd,Rb,JA,D.ok,D.cells,one,reduceCtorEq,Ι,t?,b,f,e0,e1,e2,e4,e5,e6,oR,c3,a];exact⟨(q-1,r+v),z c2,At.same _ _ _ C'⟩
     .have a:¬(4294967296:Int)<=((r+v:Nat):Int):=U
      simp only[u64,zz,yr,Vx,ur,Ux,Xx,tr,Pl,xr,vr,Wx,Td,Th,Ol,r?,undef,aE,Η,C.oM,C.qp,ld,h!,j!,fa,St.ev,St.put,l!,T',N!,Zi,Cd,Rb,JA,D.ok,D.cells,one,reduceCtorEq,Ι,t?,b,f,e0,e1,e2,e4,e5,e6,oR,c3,a];exact⟨(q-1,r+v),⟨A U,U⟩,o0,At.same _ _ _ C'⟩
    .simp only[u64,zz,yr,Vx,ur,Ux,Xx,tr,Pl,xr,vr,Wx,Td,Th,Ol,r?,undef,aE,Η,C.oM,C.qp,ld,h!,j!,fa,St.ev,St.put,l!,T',N!,Zi,Cd,Rb,JA,D.ok,D.cells,one,reduceCtorEq,Ι,t?,b,e0,e1,e2,e4,e5,e6,oR,c3];exact⟨(q,r),i.done g (eaf.1 c3),At.same _ _ _ C'⟩
  .rintro⟨q,r⟩ hq;simp only at hq;obtain⟨Q,hQ⟩:∃Q,(j6*4294967296+L / 4294967296) / Y=Q:=⟨_,rfl⟩;rw[hQ]at hq;subst hq;obtain⟨R,hR⟩:∃R,(j6*4294967296+L / 4294967296) % Y=R:=⟨_,rfl⟩;have H:0<Y:=by have:=F.hYn.1;omega
   have G:R<Y:=by rw[←hR];exact Γ _ H
   have V:=Pab (j6*4294967296+L / 4294967296) Y;rw[hQ,hR,tad]at V;have j:R<18446744073709551616:=Gae G F.hYn.2;have o:φ Y v w R (L % 4294967296):=⟨F.hYv,g.hv,F.hYn.2,F.hwB,G,Γ _ o4⟩;have O:aa B! ((j6:Int)*4294967296+((L / 4294967296:Nat):Int)-(q:Int)*(Y:Int))=(R:Int):=by
    rw[bg8,show(j6:Int)*4294967296+((L / 4294967296:Nat):Int)-((q*Y:Nat):Int)=(R:Int) by omega,Yd j]
   simp only[zz,yr,Vx,ur,Ux,Xx,tr,Pl,xr,vr,Wx,Td,Th,Ol,r?,undef,aE,Η,C.oM,C.qp,ld,h!,j!,fa,St.ev,St.put,l!,T',N!,Zi,Cd,Rb,JA,D.ok,D.cells,one,reduceCtorEq,Ι,t?];refine Z.T rz ?_;simp only[u64,zz,yr,Vx,ur,Ux,Xx,tr,Pl,xr,vr,Wx,Td,Th,Ol,r?,undef,aE,Η,C.oM,C.qp,ld,h!,j!,fa,St.ev,St.put,l!,T',N!,Zi,Cd,Rb,JA,D.ok,D.cells,one,reduceCtorEq,Ι,t?,aT7,O,F.hv0,k R j,l R j,m R j];refine T.vU (X:=Nat×Nat) (λx=>⟨[d!,d!,u64 Y,d!,d!,d!,d!,d!,u64 s,u64 v,u64 w,d!,d!,d!,u64 (L % 4294967296),u64 q,u64 x.2,u64 R,u64 x.1,d!,d!,d!,d!,d!,d!,d!,d!,d!,d!,d!,d!,d!,d!,d!,d!,d!,d!,d!,d!,d!,d!,d!,d!,d!,d!,d!,d!,d!,d!,d!,d!,d!,d!,d!,d!,d!,d!,d!,d!,d!,d!,d!,d!,d!,d!,d!,d!,d!,d!,d!,d!,d!,d!,d!,d!,d!,d!,d!,d!,d!,d!,d!,d!,d!,d!,d!,d!,d!,d!,d!,d!,d!,d!,d!,d!,d!,d!,d!,d!,d!,d!,d!,d!,d!,d!,d!,d!,d!,d!,d!,d!,d!,d!,d!,d!,d!,d!,d!,d!,d!,d!,d!,d!,d!,d!,d!,d!,d!,d!,d!,d!,d!,d!,d!,d!],[]⟩)
    (λx=>R! Y v w R (L % 4294967296) x.1 x.2/\x.1<=4294967297) (λx=>x.1=(R*4294967296+L % 4294967296) / Y) (λx=>4294967296-x.2) (R / v,R % v) ?_ ?_ ?_ ?_ (λ_=>by grind[wA]) ?_
   .exact⟨o.start.resolve_right (by have:=Γ R N;have:=F.hYv;have:=F.hYn.2;omega),o.q_le (r:=R % v) (by grind[Pab])⟩
   .exact At.same _ _ _ C'
   .rintro⟨q,r⟩ _;exact⟨M' _,by simp[j?,below,u64],l5⟩
   .rintro⟨p,r⟩ ⟨i,c⟩;refine Z.T rz ?_;simp only at i c;have hrB:=i.hr;have huB:=o.hu;have e0:(4294967296:Int)*(r:Int)=((4294967296*r:Nat):Int):=U
    have e1:aa B! ((4294967296*r:Nat):Int)=((4294967296*r:Nat):Int):=Yd U;have e2:aa B! (((4294967296*r:Nat):Int)+((L % 4294967296:Nat):Int))=((4294967296*r+L % 4294967296:Nat):Int):=by rw[av7,Yd U]
    have e4:aa B! ((r:Int)+(v:Int))=((r+v:Nat):Int):=by rw[av7,Yd (by have:=F.hYv;have:=F.hYn.2;omega)]
    have e5:aa B! ((p:Int)*(w:Int))=aa B! ((p*w:Nat):Int):=l5
    have out:∀c1:(4294967296<=p\/4294967296*r+L % 4294967296<p*w),aa B! ((p:Int)-1)=((p-1:Nat):Int)/\(4294967296<=r+v->p-1=(R*4294967296+L % 4294967296) / Y)/\(r+v<4294967296->R! Y v w R (L % 4294967296) (p-1) (r+v)):=λc1=>by
     obtain⟨O,u,k3⟩:=i.less o c1;exact⟨ab4 O U,λh=>o.big k3 h U u,λh=>⟨k3,h,u⟩⟩
    by_cases c1:4294967296<=p
    .have b:(4294967296:Int)<=(p:Int):=U
     obtain⟨f,z,A⟩:=out (.inl c1);by_cases c2:4294967296<=r+v
     .have a:(4294967296:Int)<=((r+v:Nat):Int):=U
      simp only[u64,zz,yr,Vx,ur,Ux,Xx,tr,Pl,xr,vr,Wx,Td,Th,Ol,r?,undef,aE,Η,C.oM,C.qp,ld,h!,j!,fa,St.ev,St.put,l!,T',N!,Zi,Cd,Rb,JA,D.ok,D.cells,one,reduceCtorEq,Ι,t?,b,f,e4,a];exact⟨(p-1,r+v),z c2,At.same _ _ _ C'⟩
     .have a:¬(4294967296:Int)<=((r+v:Nat):Int):=U
      simp only[u64,zz,yr,Vx,ur,Ux,Xx,tr,Pl,xr,vr,Wx,Td,Th,Ol,r?,undef,aE,Η,C.oM,C.qp,ld,h!,j!,fa,St.ev,St.put,l!,T',N!,Zi,Cd,Rb,JA,D.ok,D.cells,one,reduceCtorEq,Ι,t?,b,f,e4,a];exact⟨(p-1,r+v),⟨A U,U⟩,o0,At.same _ _ _ C'⟩
    .have b:¬(4294967296:Int)<=(p:Int):=U
     have e6:aa B! ((p*w:Nat):Int)=((p*w:Nat):Int):=Yd (by
      have:=Vab (show p<=4294967295 by omega) (show w<=4294967295 by have:=F.hwB;omega);omega)
     by_cases c3:4294967296*r+L % 4294967296<p*w
     .obtain⟨f,z,A⟩:=out (.inr c3);by_cases c2:4294967296<=r+v
      .have a:(4294967296:Int)<=((r+v:Nat):Int):=U
       simp only[u64,zz,yr,Vx,ur,Ux,Xx,tr,Pl,xr,vr,Wx,Td,Th,Ol,r?,undef,aE,Η,C.oM,C.qp,ld,h!,j!,fa,St.ev,St.put,l!,T',N!,Zi,Cd,Rb,JA,D.ok,D.cells,one,reduceCtorEq,Ι,t?,b,f,e0,e1,e2,e4,e5,e6,oR,c3,a];exact⟨(p-1,r+v),z c2,At.same _ _ _ C'⟩
      .have a:¬(4294967296:Int)<=((r+v:Nat):Int):=U
       simp only[u64,zz,yr,Vx,ur,Ux,Xx,tr,Pl,xr,vr,Wx,Td,Th,Ol,r?,undef,aE,Η,C.oM,C.qp,ld,h!,j!,fa,St.ev,St.put,l!,T',N!,Zi,Cd,Rb,JA,D.ok,D.cells,one,reduceCtorEq,Ι,t?,b,f,e0,e1,e2,e4,e5,e6,oR,c3,a];exact⟨(p-1,r+v),⟨A U,U⟩,o0,At.same _ _ _ C'⟩
     .simp only[u64,zz,yr,Vx,ur,Ux,Xx,tr,Pl,xr,vr,Wx,Td,Th,Ol,r?,undef,aE,Η,C.oM,C.qp,ld,h!,j!,fa,St.ev,St.put,l!,T',N!,Zi,Cd,Rb,JA,D.ok,D.cells,one,reduceCtorEq,Ι,t?,b,e0,e1,e2,e4,e5,e6,oR,c3];exact⟨(p,r),i.done o (eaf.1 c3),At.same _ _ _ C'⟩
   .rintro⟨p,r'⟩ P;simp only at P;obtain⟨Q',E⟩:∃Q,(R*4294967296+L % 4294967296) / Y=Q:=⟨_,rfl⟩;have hp1:=o.Q_lt;rw[←P]at hp1;rw[E]at P;subst P;obtain⟨B,hZ⟩:∃B,(R*4294967296+L % 4294967296) % Y=B:=⟨_,rfl⟩;have S:B<Y:=by rw[←hZ];exact Γ _ H
    have I:=Pab (R*4294967296+L % 4294967296) Y;rw[E,hZ,tad]at I;have c:=g.Q_lt;rw[hQ]at c;have u:aa B! ((R:Int)*4294967296+((L % 4294967296:Nat):Int)-(p:Int)*(Y:Int))=(B:Int):=by
     rw[bg8,show(R:Int)*4294967296+((L % 4294967296:Nat):Int)-((p*Y:Nat):Int)=(B:Int) by omega,Yd (Gae S F.hYn.2)]
    have k3:aa B! (aa B! ((q:Int)*4294967296)+(p:Int))=((q*4294967296+p:Nat):Int):=by
     rw[show(q:Int)*4294967296=((q*4294967296:Nat):Int) by omega,Yd U,av7,Yd U]
    have j8:(hi*18446744073709551616+lo)*2 ^ s=(q*4294967296+p)*(y*2 ^ s)+B:=by
     rw[F.hN,F.hY,Nat.add_mul,Nat.mul_right_comm];omega
    have j4:=bc2 U j8 (by rw[F.hY];omega);simp only[zz,yr,Vx,ur,Ux,Xx,tr,Pl,xr,vr,Wx,Td,Th,Ol,r?,undef,aE,Η,C.oM,C.qp,ld,h!,j!,fa,St.ev,St.put,l!,T',N!,Zi,Cd,Rb,JA,D.ok,D.cells,one,reduceCtorEq,Ι,t?];refine Z.T rz ?_;simp only[u64,zz,yr,Vx,ur,Ux,Xx,tr,Pl,xr,vr,Wx,Td,Th,Ol,r?,undef,aE,Η,C.oM,C.qp,ld,h!,j!,fa,St.ev,St.put,l!,T',N!,Zi,Cd,Rb,JA,D.ok,D.cells,one,reduceCtorEq,Ι,t?,aT7,u,k3,as0,F.m1,aW1,j4.1,j4.2]
    simp_all[er,zz,fq,zg]
theorem dH{t0 t1 t2:Int}{r:Int×Int}(h:Qg t0 t1 t2=M r):e? al 388 [Gl t0,Gl t1,Gl t2] (.tup [Gl r.1,Gl r.2]):=by
 unfold Qg at h;split at h
 .rename_i hc;obtain⟨x,rfl⟩:∃x:Nat,t0=x:=⟨t0.toNat,U⟩;obtain⟨y,rfl⟩:∃y:Nat,t1=y:=⟨t1.toNat,U⟩;obtain⟨z,rfl⟩:∃z:Nat,t2=z:=⟨t2.toNat,U⟩;obtain rfl:=J! h;have a:=cl1 x y z U U U;have e1:((x:Int)*18446744073709551616+(y:Int)) / (z:Int)=(((x*18446744073709551616+y) / z:Nat):Int):=by
   simp
  have e2:((x:Int)*18446744073709551616+(y:Int)) % (z:Int)=(((x*18446744073709551616+y) % z:Nat):Int):=by
   simp
  dsimp only;rw[e1,e2];exact a
 .cases h
instance {t0 t1 r}:o! (uf t0 t1=M r) (e? al 387 [Gl t0,Gl t1] (.tup [Gl r.1,Gl r.2])):=⟨fH⟩
instance {t0 t1 t2 r}:o! (Qg t0 t1 t2=M r) (e? al 388 [Gl t0,Gl t1,Gl t2] (.tup [Gl r.1,Gl r.2])):=⟨dH⟩
end Go.Proofs.Dev
