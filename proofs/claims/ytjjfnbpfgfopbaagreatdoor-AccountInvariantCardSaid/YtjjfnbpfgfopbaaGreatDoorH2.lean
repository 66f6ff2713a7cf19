/-
  Contracts by hand: the conditions stand in each.
-/
import Derived.Test.YtjjfnbpfgfopbaaGreatDoorC3
import Derived.Test.YtjjfnbpfgfopbaaGreatDoorPA
import Derived.Test.YtjjfnbpfgfopbaaGreatDoorK
import Derived.Test.YtjjfnbpfgfopbaaGreatDoorED
import Derived.Test.YtjjfnbpfgfopbaaGreatDoorSH
import Derived.Lib.ItoaNum
import Derived.Test.YtjjfnbpfgfopbaaGreatDoorC0
import Derived.Test.YtjjfnbpfgfopbaaGreatDoorC1
import Derived.Test.YtjjfnbpfgfopbaaGreatDoorC2
open Int renaming reduceEq->vaa,reduceLT->Daa
open List renaming map_cons->Gaa,replicate->raa
open Nat renaming div_add_mod->tac,div_le_self->kad,div_lt_iff_lt_mul->sad,land->oae,le_antisymm->Dae,le_div_iff_mul_le->tad,lor->Nae,lt_of_le_of_lt->Nac,lt_trans->tae,min_eq_left->Eae,mod_lt->Gac,mul_comm->uad,mul_div_mul_right->Xad,mul_le_mul->Lac,mul_le_mul_right->kab,not_lt->Tae,pow_add->iae,reduceAdd->Oaa,reduceEqDiff->rab,reduceSub->pab,two_pow_pos->Bad,zero_le->sab
open Option.some renaming inj->Raa
set_option linter.all false
set_option maxHeartbeats 2000000
set_option maxRecDepth 10000
namespace Go.Proofs.Dev
open Go Go.Tm
def u64(n:Nat):D:=.v (.int .u64 n)
def i64(n:Int):D:=.v (.int .i64 n)
theorem sh32:(2 ^ min (Int.toNat 32) IntKind.u64.bits:Nat)=4294967296:=rfl
theorem andM{x:Nat}(h:x<18446744073709551616):OA oae .u64 (x:Int) 4294967295=.int .u64 ((x % 4294967296:Nat):Int):=by
 have a:((x:Int) % oB .u64).toNat=x:=by grind[oB]
 have b:((4294967295:Int) % oB .u64).toNat=4294967295:=by decide
 unfold OA;rw[a,b];have e3:oae x 4294967295=x % 4294967296:=Nat.and_two_pow_sub_one_eq_mod x 32
 grind[Pc]
theorem mulN(a b:Nat):(a:Int)*(b:Int)=((a*b:Nat):Int):=(Int.natCast_mul a b).symm
theorem addN(a b:Nat):(a:Int)+(b:Int)=((a+b:Nat):Int):=(Int.natCast_add a b).symm
theorem lM{P:Program}{k:Nat}{vs us:List Value}(b:Tm.Enters P k) (h:∀w,Calls P k vs.toArray w λe w'=>e=.returned (.tuple us.toArray)/\w'=w):Den P k (vs.map .v) (.tup (us.map .v)):=by
 refine λm=>⟨b,λG w a hv hi=>?_⟩;have key:∀(vs us:List Value),VsRel G w (vs.map .v) us->us=vs:=by
  intro vs
  induction vs with
  |nil=>intro us h;simpa [VsRel] using h
  |cons x l c=>
   intro us h;simp only[Gaa,VsRel,VRel]at h
   grind
 have key2:∀us:List Value,VsRel G w (us.map .v) us:=by
  intro us
  induction us with
  |nil=>simp[VsRel]
  |cons x l c=>simp only[Gaa,VsRel,VRel];grind
 obtain rfl:=key vs a hv;refine(h w).mono ?_;rintro e w' ⟨rfl,rfl⟩;refine⟨_,_,_,G,rfl,⟨rfl,rfl⟩,?_,hi,Step.refl _ _ _⟩;simp only[VRel]
 simp_all
theorem Sy{t0 t1:Int}{r:Int×Int}(h:Zd t0 t1=some r):Den Tryz.prog 119 [Rh t0,Rh t1] (.tup [Rh r.1,Rh r.2]):=by
 unfold Zd at h;split at h
 .rename_i hc;obtain⟨x,rfl⟩:∃x:Nat,t0=x:=⟨t0.toNat,by omega⟩;obtain⟨y,rfl⟩:∃y:Nat,t1=y:=⟨t1.toNat,by omega⟩;obtain rfl:=Raa h;have c:=lM (vs:=[.int .u64 x,.int .u64 y]) (us:=[.int .u64 ((x*y / 18446744073709551616:Nat):Int),.int .u64 ((x*y % 18446744073709551616:Nat):Int)]) (Ez k119.ok k119.nm) (λw=>Tryz.bits_Mul64 x y (by omega) (by omega) w);have a:(x:Int)*(y:Int) / 18446744073709551616=((x*y / 18446744073709551616:Nat):Int):=by omega
  have b:(x:Int)*(y:Int) % 18446744073709551616=((x*y % 18446744073709551616:Nat):Int):=by omega
  dsimp only;rw[a,b];exact c
 .cases h
def WN(Y:Nat):Prop:=9223372036854775808<=Y/\Y<18446744073709551616
theorem lz55(y:Nat) (h0:0<y) (c:y<18446744073709551616) (m:List Ent):CallT Tryz.prog 157 [u64 y] m λd m'=>(∃s:Nat,d=i64 s/\s<=63/\WN (y*2 ^ s))/\m'=m:=by
 obtain⟨h1,h2,a⟩:=Lib.bitLenAux_bounds 64 y c (by omega);have h4:Lib.bitLenAux 64 y<=64:=by
  by_cases hc:Lib.bitLenAux 64 y<=64
  .omega
  .have:2 ^ 64<=2 ^ (Lib.bitLenAux 64 y-1):=Nat.pow_le_pow_right (by decide) (by omega);omega
 have b:=VG (vs:=[.int .u64 y]) (Ez k157.ok k157.nm) (λw=>Tryz.bits_LeadingZeros64 (y:Int) w (by omega) (by omega));refine(b m).mono ?_;rintro d m' ⟨rfl,rfl⟩;refine⟨⟨64-Lib.bitLenAux 64 y,?_,by omega,?_,?_⟩,rfl⟩
 .grind[i64,Lib.bitLen]
 .have:=kab (2 ^ (64-Lib.bitLenAux 64 y)) h2;rw[←iae,show Lib.bitLenAux 64 y-1+(64-Lib.bitLenAux 64 y)=63 by omega]at this;omega
 .have:=Nat.mul_lt_mul_of_pos_right a (Bad (64-Lib.bitLenAux 64 y));rw[←iae,show Lib.bitLenAux 64 y+(64-Lib.bitLenAux 64 y)=64 by omega]at this;omega
theorem TT(n:Nat):decide ((n:Int)<0)=false:=by simp
theorem lor64{a b s:Nat}(hb:b<2 ^ s) (h:2 ^ s*a+b<18446744073709551616):OA Nae .u64 ((2 ^ s*a:Nat):Int) (b:Int)=.int .u64 ((2 ^ s*a+b:Nat):Int):=by
 have c:(((2 ^ s*a:Nat):Int) % oB .u64).toNat=2 ^ s*a:=by grind[oB]
 have d:((b:Int) % oB .u64).toNat=b:=by grind[oB]
 unfold OA;rw[c,d];have e3:Nae (2 ^ s*a) b=2 ^ s*a+b:=(Nat.two_pow_add_eq_or_of_lt hb a).symm
 grind[Pc]
theorem scaled{N y s q R:Nat}(hy:0<y) (h:N*2 ^ s=q*(y*2 ^ s)+R) (hR:R<y*2 ^ s):N / y=q/\N % y=R / 2 ^ s:=by
 have hp:=Bad s;have h1:N*2 ^ s / (y*2 ^ s)=q:=by
  simp_all[Nat.add_comm,Nat.add_mul_div_right]
 grind[Nat.add_mul_mod_self_right,Nat.mod_eq_of_lt,Xad,Nat.mul_mod_mul_right,Nat.mul_div_cancel]
theorem G6(a b c:Int):ca .u64 (ca .u64 (ca .u64 a+b)-ca .u64 c)=ca .u64 (a+b-c):=by
 grind[ca]
structure DivF (hi lo y s Y v w e U L:Nat):Prop where
 hY:y*2 ^ s=Y
 hYn:WN Y
 hYv:Y=4294967296*v+w
 hwB:w<4294967296
 hU:2 ^ s*hi+e=U
 hUY:U<Y
 hLM:L<18446744073709551616
 hN:(hi*18446744073709551616+lo)*2 ^ s=U*18446744073709551616+L
 he:lo / 2 ^ (64-s)=e
 hv:Y / 4294967296=v
 hv0:¬(v:Int)=0
 m1:min s IntKind.u64.bits=s
 m2:min (64-s) IntKind.u64.bits=64-s
 f1:ca .u64 (s:Int)=(s:Int)
 f2:ca .u64 ((y:Int)*((2 ^ s:Nat):Int))=(Y:Int)
 f3:ca .u64 ((hi:Int)*((2 ^ s:Nat):Int))=((2 ^ s*hi:Nat):Int)
 f4:ca .u64 (64-(s:Int))=((64-s:Nat):Int)
 f6:OA Nae .u64 ((2 ^ s*hi:Nat):Int) (e:Int)=.int .u64 (U:Int)
 f7:ca .u64 ((lo:Int)*((2 ^ s:Nat):Int))=(L:Int)
 f8:OA oae .u64 (Y:Int) 4294967295=.int .u64 (w:Int)
 f9:OA oae .u64 (L:Int) 4294967295=.int .u64 ((L % 4294967296:Nat):Int)
theorem tQ(hi lo y s:Nat) (b:hi<y) (hlo:lo<18446744073709551616) (s2:s<=63) (a:WN (y*2 ^ s)):∃Y v w e U L,DivF hi lo y s Y v w e U L:=by
 simp only[WN]at a;obtain⟨Y,hY⟩:∃Y,y*2 ^ s=Y:=⟨_,rfl⟩;rw[hY]at a;obtain⟨v,hv⟩:∃v,Y / 4294967296=v:=⟨_,rfl⟩;obtain⟨w,hw⟩:∃w,Y % 4294967296=w:=⟨_,rfl⟩;have hYv:Y=4294967296*v+w:=by omega
 have hwB:w<4294967296:=by omega
 have hv0:¬(v:Int)=0:=by omega
 have m1:min s IntKind.u64.bits=s:=Eae (by show s<=64;omega);have m2:min (64-s) IntKind.u64.bits=64-s:=Eae (by show 64-s<=64;omega);obtain⟨e,he⟩:∃e,lo / 2 ^ (64-s)=e:=⟨_,rfl⟩;have hes:e<2 ^ s:=by
  rw[←he,sad (Bad _),←iae,show s+(64-s)=64 by omega];omega
 have hhs:2 ^ s*hi+2 ^ s<=Y:=by
  rw[←hY,←Nat.mul_succ,uad];exact kab _ b
 obtain⟨U,hU⟩:∃U,2 ^ s*hi+e=U:=⟨_,rfl⟩;have hUY:U<Y:=by omega
 obtain⟨L,hL⟩:∃L,lo*2 ^ s % 18446744073709551616=L:=⟨_,rfl⟩;have hLM:L<18446744073709551616:=by omega
 have hloe:lo*2 ^ s=e*18446744073709551616+L:=by
  have h1:lo*2 ^ s / 18446744073709551616=e:=by
   rw[←he,show(18446744073709551616:Nat)=2 ^ (64-s)*2 ^ s by rw[←iae,show 64-s+s=64 by omega],Xad _ _ (Bad s)]
  omega
 have hN:(hi*18446744073709551616+lo)*2 ^ s=U*18446744073709551616+L:=by
  grind
 have f1:ca .u64 (s:Int)=(s:Int):=Pc (by omega);have f2:ca .u64 ((y:Int)*((2 ^ s:Nat):Int))=(Y:Int):=by grind[Pc]
 have f3:ca .u64 ((hi:Int)*((2 ^ s:Nat):Int))=((2 ^ s*hi:Nat):Int):=by grind[uad,Pc]
 have f4:ca .u64 (64-(s:Int))=((64-s:Nat):Int):=by grind[Pc]
 have f6:OA Nae .u64 ((2 ^ s*hi:Nat):Int) (e:Int)=.int .u64 (U:Int):=by grind[lor64]
 have f7:ca .u64 ((lo:Int)*((2 ^ s:Nat):Int))=(L:Int):=by grind[ca]
 have f8:=andM (x:=Y) a.2;have f9:=andM (x:=L) hLM;rw[hw]at f8;exact⟨Y,v,w,e,U,L,⟨hY,a,hYv,hwB,hU,hUY,hLM,hN,he,hv,hv0,m1,m2,f1,f2,f3,f4,f6,f7,f8,f9⟩⟩
structure Dig (Y v w U u:Nat):Prop where
 hY:Y=4294967296*v+w
 hv:2147483648<=v
 hYM:Y<18446744073709551616
 hw:w<4294967296
 hU:U<Y
 hu:u<4294967296
structure Guess (Y v w U u q r:Nat):Prop where
 hP:q*v+r=U
 hr:r<4294967296
 hQ:(U*4294967296+u) / Y<=q
section
variable {Y v w U u q r:Nat}
theorem Dig.UZ(D:Dig Y v w U u) (q:Nat):q*Y=4294967296*(q*v)+q*w:=by
 rw[D.hY,Nat.mul_add,Nat.mul_left_comm]
theorem Dig.a7(D:Dig Y v w U u):(U*4294967296+u) / Y<4294967296:=by
 have h:=D.hU;have h1:=D.hu;have h2:=D.hv;have h3:=D.hY;rw[sad (by omega)];omega
theorem Dig.q_le(D:Dig Y v w U u) {q r:Nat}(h:q*v+r=U):q<=4294967297:=by
 have h0:=D.hU;have h1:=D.hw;have h2:=D.hv;have h3:=D.hY;have:q*v<4294967298*v:=by omega
 have:=Nat.lt_of_mul_lt_mul_right this;omega
theorem Dig.start(D:Dig Y v w U u):Guess Y v w U u (U / v) (U % v)\/(4294967296<=U % v):=by
 have h0:=D.hU;have h1:=D.hw;have h2:=D.hv;have h3:=D.hY;have h4:=D.hYM;have a:0<v:=by omega
 left;have hm:=Gac U a;have hd:U / v*v+U % v=U:=by grind[tac]
 refine⟨hd,by omega,?_⟩;rw[Nat.div_le_iff_le_mul_add_pred (by omega)];have e:=D.UZ (U / v);rw[uad]at e;rw[e];have h5:=D.hu;omega
theorem Guess.less(D:Dig Y v w U u) (G:Guess Y v w U u q r) (h:4294967296<=q\/4294967296*r+u<q*w):1<=q/\(U*4294967296+u) / Y<=q-1/\(q-1)*v+(r+v)=U:=by
 have a:(U*4294967296+u) / Y<q:=by
  rcases h with h|h
  .exact Nat.lt_of_lt_of_le D.a7 h
  .have b:=D.hY;have h2:=D.hv;rw[sad (by omega),D.UZ];have:=G.hP;omega
 have b:1<=q:=Nac (sab _) a;refine⟨b,Nat.le_sub_one_of_lt a,?_⟩;have e:q*v=(q-1)*v+v:=by rw[←Nat.succ_mul];simp_all
 have:=G.hP;omega
theorem Guess.done(D:Dig Y v w U u) (G:Guess Y v w U u q r) (h:q*w<=4294967296*r+u):q=(U*4294967296+u) / Y:=by
 refine Dae ?_ G.hQ;have h1:=D.hY;have h2:=D.hv;rw[tad (by omega),D.UZ];have:=G.hP;omega
theorem Dig.big(D:Dig Y v w U u) (hP:q*v+r=U) (hr:4294967296<=r) (hq:q<=4294967296) (hQ:(U*4294967296+u) / Y<=q):q=(U*4294967296+u) / Y:=by
 refine Dae ?_ hQ;have h1:=D.hY;have h2:=D.hv;have h3:=D.hw;rw[tad (by omega),D.UZ];have:=Lac hq (show w<=4294967296 by omega);omega
end
theorem yX{q:Nat}(h1:1<=q) (h2:q<18446744073709551616):ca .u64 ((q:Int)-1)=((q-1:Nat):Int):=by
 grind[Pc]
theorem div48(hi lo y:Nat) (hhi:hi<y) (V:lo<18446744073709551616) (hy:y<18446744073709551616) :
 Den Tryz.prog 121 [u64 hi,u64 lo,u64 y] (.tup [u64 ((hi*18446744073709551616+lo) / y),u64 ((hi*18446744073709551616+lo) % y)]):=by
 have c1:¬(y:Int)=0:=by omega
 have c2:¬(y:Int)<=(hi:Int):=by omega
 simp only[u64];by_cases h0:hi=0
 .subst h0;have a:¬(y:Int)<=0:=by omega
  have hlq:lo / y<18446744073709551616:=Nac (kad _ _) V;have q1:ca .u64 (Int.tdiv (lo:Int) (y:Int))=((lo / y:Nat):Int):=Pc hlq;have q2:Int.tmod (lo:Int) (y:Int)=((lo % y:Nat):Int):=rfl;refine dk (hf:=rfl) 132 xZ ?_;simp only[xZ,Kf.of,zs,ze];refine Z.T Yt ?_;simp only[c1,a,kT,q1,q2,Nat.zero_mul,Nat.zero_add,zz,im,yq,cm,xq,Bq,bm,ki,gm,fm,Aq,Mc,Qf,ji,leaves,undef,dw,Daa,C.iD,C.Hk,wc,contents,gate,ea,St.ev,St.put,raa,pab,Oaa,vg,Dc,Eb,ft,D.ok,D.cells,one,reduceCtorEq,rab,vaa]
  simp_all[er,zz,fq,zg]
 .have c3:¬(hi:Int)=0:=by omega
  refine dk (hf:=rfl) 132 xZ ?_;simp only[xZ,Kf.of,zs,ze];refine Z.T Yt ?_;simp only[c1,c2,c3,zz,im,yq,cm,xq,Bq,bm,ki,gm,fm,Aq,Mc,Qf,ji,leaves,undef,dw,Daa,C.iD,C.Hk,wc,contents,gate,ea,St.ev,St.put,raa,pab,Oaa,vg,Dc,Eb,ft,D.ok,D.cells,one,reduceCtorEq,rab,vaa];refine nu (lz55 y (by omega) hy _) ?_;intro d m' hh;obtain⟨⟨s,hd,s2,s3⟩,hm'⟩:=hh;obtain⟨Y,v,w,e,U,L,F⟩:=tQ hi lo y s hhi V s2 s3;have i:Dig Y v w U (L / 4294967296):=⟨F.hYv,by have:=F.hYn.1;have:=F.hYv;have:=F.hwB;omega,F.hYn.2,F.hwB,F.hUY,by have:=F.hLM;omega⟩;have hvM:v<18446744073709551616:=by have:=F.hYv;have:=F.hYn.2;omega
  have G:U<18446744073709551616:=tae F.hUY F.hYn.2;have hvp:0<v:=by have:=i.hv;omega
  have l:∀n:Nat,n<18446744073709551616->ca .u64 (Int.tdiv (n:Int) (v:Int))=((n / v:Nat):Int):=λn hn=>Pc (Nac (kad _ _) hn);have m:∀n:Nat,n<18446744073709551616->ca .u64 (((n / v:Nat):Int)*(v:Int))=((n / v*v:Nat):Int):=λn hn=>by rw[mulN,Pc (Nac (Nat.div_mul_le_self _ _) hn)]
  have o:∀n:Nat,n<18446744073709551616->ca .u64 ((n:Int)-((n / v*v:Nat):Int))=((n % v:Nat):Int):=λn hn=>by
   have:=tac n v;grind[Pc]
  have g1:=l U G;have g2:=m U G;have g3:=o U G;simp only[hd,hm',zz,im,yq,cm,xq,Bq,bm,ki,gm,fm,Aq,Mc,Qf,ji,leaves,undef,dw,Daa,C.iD,C.Hk,wc,contents,gate,ea,St.ev,St.put,raa,pab,Oaa,vg,Dc,Eb,ft,D.ok,D.cells,one,reduceCtorEq,rab,vaa,i64,TT,F.m1,F.m2,F.f1,F.f2,F.f3,F.f4,R5,F.he,F.f6,F.f7,F.f8,F.f9,sh32,F.hv,F.hv0,g1,g2,g3,kT];refine T.zJ (X:=Nat×Nat) (λx=>⟨[.dead,.dead,u64 Y,.dead,.dead,.dead,.dead,.dead,u64 s,u64 v,u64 w,u64 U,.dead,u64 (L / 4294967296),u64 (L % 4294967296),u64 x.1,u64 x.2,.dead,.dead,.dead,.dead,.dead,.dead,.dead,.dead,.dead,.dead,.dead,.dead,.dead,.dead,.dead,.dead,.dead,.dead,.dead,.dead,.dead,.dead,.dead,.dead,.dead,.dead,.dead,.dead,.dead,.dead,.dead,.dead,.dead,.dead,.dead,.dead,.dead,.dead,.dead,.dead,.dead,.dead,.dead,.dead,.dead,.dead,.dead,.dead,.dead,.dead,.dead,.dead,.dead,.dead,.dead,.dead,.dead,.dead,.dead,.dead,.dead,.dead,.dead,.dead,.dead,.dead,.dead,.dead,.dead,.dead,.dead,.dead,.dead,.dead,.dead,.dead,.dead,.dead,.dead,.dead,.dead,.dead,.dead,.dead,.dead,.dead,.dead,.dead,.dead,.dead,.dead,.dead,.dead,.dead,.dead,.dead,.dead,.dead,.dead,.dead,.dead,.dead,.dead,.dead,.dead,.dead,.dead,.dead,.dead,.dead,.dead,.dead,.dead,.dead,.dead,.dead,.dead,.dead],[]⟩)
   (λx=>Guess Y v w U (L / 4294967296) x.1 x.2/\x.1<=4294967297) (λx=>x.1=(U*4294967296+L / 4294967296) / Y) (λx=>4294967296-x.2) (U / v,U % v) ?_ ?_ ?_ ?_ (λ_=>by grind[Us]) ?_
  .exact⟨i.start.resolve_right (by have:=Gac U hvp;have:=F.hYv;have:=F.hYn.2;omega),i.q_le (r:=U % v) (by grind[tac])⟩
  .exact At.same _ _ _ (by repeat (first|exact pa.qb _|refine pa.cons (Sub.refl _) ?_|refine pa.cons (Sub.Ka _) ?_))
  .rintro⟨q,r⟩ _;exact⟨sab _,by simp[belows,below,u64],by simp⟩
  .rintro⟨q,r⟩ ⟨j,f⟩;refine Z.T Yt ?_;simp only at j f;have hrB:=j.hr;have huB:=i.hu;have u:(4294967296:Int)*(r:Int)=((4294967296*r:Nat):Int):=by omega
   have z:ca .u64 ((4294967296*r:Nat):Int)=((4294967296*r:Nat):Int):=Pc (by omega);have A:ca .u64 (((4294967296*r:Nat):Int)+((L / 4294967296:Nat):Int))=((4294967296*r+L / 4294967296:Nat):Int):=by rw[addN,Pc (by omega)]
   have c:ca .u64 ((r:Int)+(v:Int))=((r+v:Nat):Int):=by rw[addN,Pc (by have:=F.hYv;have:=F.hYn.2;omega)]
   have B:ca .u64 ((q:Int)*(w:Int))=ca .u64 ((q*w:Nat):Int):=by simp
   have out:∀c1:(4294967296<=q\/4294967296*r+L / 4294967296<q*w),ca .u64 ((q:Int)-1)=((q-1:Nat):Int)/\(4294967296<=r+v->q-1=(U*4294967296+L / 4294967296) / Y)/\(r+v<4294967296->Guess Y v w U (L / 4294967296) (q-1) (r+v)):=λc1=>by
    obtain⟨k1,H,k3⟩:=j.less i c1;exact⟨yX k1 (by omega),λh=>i.big k3 h (by omega) H,λh=>⟨k3,h,H⟩⟩
   by_cases c1:4294967296<=q
   .have b:(4294967296:Int)<=(q:Int):=by omega
    obtain⟨g,I,J⟩:=out (.inl c1);by_cases c2:4294967296<=r+v
    .have a:(4294967296:Int)<=((r+v:Nat):Int):=by omega
     simp only[u64,zz,im,yq,cm,xq,Bq,bm,ki,gm,fm,Aq,Mc,Qf,ji,leaves,undef,dw,Daa,C.iD,C.Hk,wc,contents,gate,ea,St.ev,St.put,raa,pab,Oaa,vg,Dc,Eb,ft,D.ok,D.cells,one,reduceCtorEq,rab,vaa,b,g,c,a];exact⟨(q-1,r+v),I c2,At.same _ _ _ (by repeat (first|exact pa.qb _|refine pa.cons (Sub.refl _) ?_|refine pa.cons (Sub.Ka _) ?_))⟩
    .have a:¬(4294967296:Int)<=((r+v:Nat):Int):=by omega
     simp only[u64,zz,im,yq,cm,xq,Bq,bm,ki,gm,fm,Aq,Mc,Qf,ji,leaves,undef,dw,Daa,C.iD,C.Hk,wc,contents,gate,ea,St.ev,St.put,raa,pab,Oaa,vg,Dc,Eb,ft,D.ok,D.cells,one,reduceCtorEq,rab,vaa,b,g,c,a];exact⟨(q-1,r+v),⟨J (by omega),by omega⟩,by grind,At.same _ _ _ (by repeat (first|exact pa.qb _|refine pa.cons (Sub.refl _) ?_|refine pa.cons (Sub.Ka _) ?_))⟩
   .have b:¬(4294967296:Int)<=(q:Int):=by omega
    have E:ca .u64 ((q*w:Nat):Int)=((q*w:Nat):Int):=Pc (by
     have:=Lac (show q<=4294967295 by omega) (show w<=4294967295 by have:=F.hwB;omega);omega)
    by_cases c3:4294967296*r+L / 4294967296<q*w
    .obtain⟨g,I,J⟩:=out (.inr c3);by_cases c2:4294967296<=r+v
     .have a:(4294967296:Int)<=((r+v:Nat):Int):=by omega
      simp only[u64,zz,im,yq,cm,xq,Bq,bm,ki,gm,fm,Aq,Mc,Qf,ji,leaves,undef,dw,Daa,C.iD,C.Hk,wc,contents,gate,ea,St.ev,St.put,raa,pab,Oaa,vg,Dc,Eb,ft,D.ok,D.cells,one,reduceCtorEq,rab,vaa,b,g,u,z,A,c,B,E,vH,c3,a];exact⟨(q-1,r+v),I c2,At.same _ _ _ (by repeat (first|exact pa.qb _|refine pa.cons (Sub.refl _) ?_|refine pa.cons (Sub.Ka _) ?_))⟩
     .have a:¬(4294967296:Int)<=((r+v:Nat):Int):=by omega
      simp only[u64,zz,im,yq,cm,xq,Bq,bm,ki,gm,fm,Aq,Mc,Qf,ji,leaves,undef,dw,Daa,C.iD,C.Hk,wc,contents,gate,ea,St.ev,St.put,raa,pab,Oaa,vg,Dc,Eb,ft,D.ok,D.cells,one,reduceCtorEq,rab,vaa,b,g,u,z,A,c,B,E,vH,c3,a];exact⟨(q-1,r+v),⟨J (by omega),by omega⟩,by grind,At.same _ _ _ (by repeat (first|exact pa.qb _|refine pa.cons (Sub.refl _) ?_|refine pa.cons (Sub.Ka _) ?_))⟩
    .simp only[u64,zz,im,yq,cm,xq,Bq,bm,ki,gm,fm,Aq,Mc,Qf,ji,leaves,undef,dw,Daa,C.iD,C.Hk,wc,contents,gate,ea,St.ev,St.put,raa,pab,Oaa,vg,Dc,Eb,ft,D.ok,D.cells,one,reduceCtorEq,rab,vaa,b,u,z,A,c,B,E,vH,c3];exact⟨(q,r),j.done i (Tae.1 c3),At.same _ _ _ (by repeat (first|exact pa.qb _|refine pa.cons (Sub.refl _) ?_|refine pa.cons (Sub.Ka _) ?_))⟩
  .rintro⟨q,r⟩ hq;simp only at hq;obtain⟨Q,hQ⟩:∃Q,(U*4294967296+L / 4294967296) / Y=Q:=⟨_,rfl⟩;rw[hQ]at hq;subst hq;obtain⟨R,hR⟩:∃R,(U*4294967296+L / 4294967296) % Y=R:=⟨_,rfl⟩;have O:0<Y:=by have:=F.hYn.1;omega
   have N:R<Y:=by rw[←hR];exact Gac _ O
   have hdm:=tac (U*4294967296+L / 4294967296) Y;rw[hQ,hR,uad]at hdm;have k:R<18446744073709551616:=tae N F.hYn.2;have t:Dig Y v w R (L % 4294967296):=⟨F.hYv,i.hv,F.hYn.2,F.hwB,N,Gac _ (by decide)⟩;have k1:ca .u64 ((U:Int)*4294967296+((L / 4294967296:Nat):Int)-(q:Int)*(Y:Int))=(R:Int):=by
    rw[mulN,show(U:Int)*4294967296+((L / 4294967296:Nat):Int)-((q*Y:Nat):Int)=(R:Int) by omega,Pc k]
   simp only[zz,im,yq,cm,xq,Bq,bm,ki,gm,fm,Aq,Mc,Qf,ji,leaves,undef,dw,Daa,C.iD,C.Hk,wc,contents,gate,ea,St.ev,St.put,raa,pab,Oaa,vg,Dc,Eb,ft,D.ok,D.cells,one,reduceCtorEq,rab,vaa];refine Z.T Yt ?_;simp only[u64,zz,im,yq,cm,xq,Bq,bm,ki,gm,fm,Aq,Mc,Qf,ji,leaves,undef,dw,Daa,C.iD,C.Hk,wc,contents,gate,ea,St.ev,St.put,raa,pab,Oaa,vg,Dc,Eb,ft,D.ok,D.cells,one,reduceCtorEq,rab,vaa,G6,k1,F.hv0,l R k,m R k,o R k];refine T.zJ (X:=Nat×Nat) (λx=>⟨[.dead,.dead,u64 Y,.dead,.dead,.dead,.dead,.dead,u64 s,u64 v,u64 w,.dead,.dead,.dead,u64 (L % 4294967296),u64 q,u64 x.2,u64 R,u64 x.1,.dead,.dead,.dead,.dead,.dead,.dead,.dead,.dead,.dead,.dead,.dead,.dead,.dead,.dead,.dead,.dead,.dead,.dead,.dead,.dead,.dead,.dead,.dead,.dead,.dead,.dead,.dead,.dead,.dead,.dead,.dead,.dead,.dead,.dead,.dead,.dead,.dead,.dead,.dead,.dead,.dead,.dead,.dead,.dead,.dead,.dead,.dead,.dead,.dead,.dead,.dead,.dead,.dead,.dead,.dead,.dead,.dead,.dead,.dead,.dead,.dead,.dead,.dead,.dead,.dead,.dead,.dead,.dead,.dead,.dead,.dead,.dead,.dead,.dead,.dead,.dead,.dead,.dead,.dead,.dead,.dead,.dead,.dead,.dead,.dead,.dead,.dead,.dead,.dead,.dead,.dead,.dead,.dead,.dead,.dead,.dead,.dead,.dead,.dead,.dead,.dead,.dead,.dead,.dead,.dead,.dead,.dead,.dead,.dead,.dead,.dead,.dead,.dead,.dead,.dead,.dead],[]⟩)
    (λx=>Guess Y v w R (L % 4294967296) x.1 x.2/\x.1<=4294967297) (λx=>x.1=(R*4294967296+L % 4294967296) / Y) (λx=>4294967296-x.2) (R / v,R % v) ?_ ?_ ?_ ?_ (λ_=>by grind[Us]) ?_
   .exact⟨t.start.resolve_right (by have:=Gac R hvp;have:=F.hYv;have:=F.hYn.2;omega),t.q_le (r:=R % v) (by grind[tac])⟩
   .exact At.same _ _ _ (by repeat (first|exact pa.qb _|refine pa.cons (Sub.refl _) ?_|refine pa.cons (Sub.Ka _) ?_))
   .rintro⟨q,r⟩ _;exact⟨sab _,by simp[belows,below,u64],by simp⟩
   .rintro⟨p,r⟩ ⟨j,f⟩;refine Z.T Yt ?_;simp only at j f;have hrB:=j.hr;have huB:=t.hu;have u:(4294967296:Int)*(r:Int)=((4294967296*r:Nat):Int):=by omega
    have z:ca .u64 ((4294967296*r:Nat):Int)=((4294967296*r:Nat):Int):=Pc (by omega);have A:ca .u64 (((4294967296*r:Nat):Int)+((L % 4294967296:Nat):Int))=((4294967296*r+L % 4294967296:Nat):Int):=by rw[addN,Pc (by omega)]
    have c:ca .u64 ((r:Int)+(v:Int))=((r+v:Nat):Int):=by rw[addN,Pc (by have:=F.hYv;have:=F.hYn.2;omega)]
    have B:ca .u64 ((p:Int)*(w:Int))=ca .u64 ((p*w:Nat):Int):=by simp
    have out:∀c1:(4294967296<=p\/4294967296*r+L % 4294967296<p*w),ca .u64 ((p:Int)-1)=((p-1:Nat):Int)/\(4294967296<=r+v->p-1=(R*4294967296+L % 4294967296) / Y)/\(r+v<4294967296->Guess Y v w R (L % 4294967296) (p-1) (r+v)):=λc1=>by
     obtain⟨k1,H,k3⟩:=j.less t c1;exact⟨yX k1 (by omega),λh=>t.big k3 h (by omega) H,λh=>⟨k3,h,H⟩⟩
    by_cases c1:4294967296<=p
    .have b:(4294967296:Int)<=(p:Int):=by omega
     obtain⟨g,I,J⟩:=out (.inl c1);by_cases c2:4294967296<=r+v
     .have a:(4294967296:Int)<=((r+v:Nat):Int):=by omega
      simp only[u64,zz,im,yq,cm,xq,Bq,bm,ki,gm,fm,Aq,Mc,Qf,ji,leaves,undef,dw,Daa,C.iD,C.Hk,wc,contents,gate,ea,St.ev,St.put,raa,pab,Oaa,vg,Dc,Eb,ft,D.ok,D.cells,one,reduceCtorEq,rab,vaa,b,g,c,a];exact⟨(p-1,r+v),I c2,At.same _ _ _ (by repeat (first|exact pa.qb _|refine pa.cons (Sub.refl _) ?_|refine pa.cons (Sub.Ka _) ?_))⟩
     .have a:¬(4294967296:Int)<=((r+v:Nat):Int):=by omega
      simp only[u64,zz,im,yq,cm,xq,Bq,bm,ki,gm,fm,Aq,Mc,Qf,ji,leaves,undef,dw,Daa,C.iD,C.Hk,wc,contents,gate,ea,St.ev,St.put,raa,pab,Oaa,vg,Dc,Eb,ft,D.ok,D.cells,one,reduceCtorEq,rab,vaa,b,g,c,a];exact⟨(p-1,r+v),⟨J (by omega),by omega⟩,by grind,At.same _ _ _ (by repeat (first|exact pa.qb _|refine pa.cons (Sub.refl _) ?_|refine pa.cons (Sub.Ka _) ?_))⟩
    .have b:¬(4294967296:Int)<=(p:Int):=by omega
     have E:ca .u64 ((p*w:Nat):Int)=((p*w:Nat):Int):=Pc (by
      have:=Lac (show p<=4294967295 by omega) (show w<=4294967295 by have:=F.hwB;omega);omega)
     by_cases c3:4294967296*r+L % 4294967296<p*w
     .obtain⟨g,I,J⟩:=out (.inr c3);by_cases c2:4294967296<=r+v
      .have a:(4294967296:Int)<=((r+v:Nat):Int):=by omega
       simp only[u64,zz,im,yq,cm,xq,Bq,bm,ki,gm,fm,Aq,Mc,Qf,ji,leaves,undef,dw,Daa,C.iD,C.Hk,wc,contents,gate,ea,St.ev,St.put,raa,pab,Oaa,vg,Dc,Eb,ft,D.ok,D.cells,one,reduceCtorEq,rab,vaa,b,g,u,z,A,c,B,E,vH,c3,a];exact⟨(p-1,r+v),I c2,At.same _ _ _ (by repeat (first|exact pa.qb _|refine pa.cons (Sub.refl _) ?_|refine pa.cons (Sub.Ka _) ?_))⟩
      .have a:¬(4294967296:Int)<=((r+v:Nat):Int):=by omega
       simp only[u64,zz,im,yq,cm,xq,Bq,bm,ki,gm,fm,Aq,Mc,Qf,ji,leaves,undef,dw,Daa,C.iD,C.Hk,wc,contents,gate,ea,St.ev,St.put,raa,pab,Oaa,vg,Dc,Eb,ft,D.ok,D.cells,one,reduceCtorEq,rab,vaa,b,g,u,z,A,c,B,E,vH,c3,a];exact⟨(p-1,r+v),⟨J (by omega),by omega⟩,by grind,At.same _ _ _ (by repeat (first|exact pa.qb _|refine pa.cons (Sub.refl _) ?_|refine pa.cons (Sub.Ka _) ?_))⟩
     .simp only[u64,zz,im,yq,cm,xq,Bq,bm,ki,gm,fm,Aq,Mc,Qf,ji,leaves,undef,dw,Daa,C.iD,C.Hk,wc,contents,gate,ea,St.ev,St.put,raa,pab,Oaa,vg,Dc,Eb,ft,D.ok,D.cells,one,reduceCtorEq,rab,vaa,b,u,z,A,c,B,E,vH,c3];exact⟨(p,r),j.done t (Tae.1 c3),At.same _ _ _ (by repeat (first|exact pa.qb _|refine pa.cons (Sub.refl _) ?_|refine pa.cons (Sub.Ka _) ?_))⟩
   .rintro⟨p,r'⟩ hp;simp only at hp;obtain⟨Q',M⟩:∃Q,(R*4294967296+L % 4294967296) / Y=Q:=⟨_,rfl⟩;have hp1:=t.a7;rw[←hp]at hp1;rw[M]at hp;subst hp;obtain⟨K,hZ⟩:∃K,(R*4294967296+L % 4294967296) % Y=K:=⟨_,rfl⟩;have hZY:K<Y:=by rw[←hZ];exact Gac _ O
    have P:=tac (R*4294967296+L % 4294967296) Y;rw[M,hZ,uad]at P;have f:=i.a7;rw[hQ]at f;have H:ca .u64 ((R:Int)*4294967296+((L % 4294967296:Nat):Int)-(p:Int)*(Y:Int))=(K:Int):=by
     rw[mulN,show(R:Int)*4294967296+((L % 4294967296:Nat):Int)-((p*Y:Nat):Int)=(K:Int) by omega,Pc (tae hZY F.hYn.2)]
    have k3:ca .u64 (ca .u64 ((q:Int)*4294967296)+(p:Int))=((q*4294967296+p:Nat):Int):=by
     rw[show(q:Int)*4294967296=((q*4294967296:Nat):Int) by omega,Pc (by omega),addN,Pc (by omega)]
    have S:(hi*18446744073709551616+lo)*2 ^ s=(q*4294967296+p)*(y*2 ^ s)+K:=by
     rw[F.hN,F.hY,Nat.add_mul,Nat.mul_right_comm];omega
    have W:=scaled (by omega) S (by rw[F.hY];omega);simp only[zz,im,yq,cm,xq,Bq,bm,ki,gm,fm,Aq,Mc,Qf,ji,leaves,undef,dw,Daa,C.iD,C.Hk,wc,contents,gate,ea,St.ev,St.put,raa,pab,Oaa,vg,Dc,Eb,ft,D.ok,D.cells,one,reduceCtorEq,rab,vaa];refine Z.T Yt ?_;simp only[u64,zz,im,yq,cm,xq,Bq,bm,ki,gm,fm,Aq,Mc,Qf,ji,leaves,undef,dw,Daa,C.iD,C.Hk,wc,contents,gate,ea,St.ev,St.put,raa,pab,Oaa,vg,Dc,Eb,ft,D.ok,D.cells,one,reduceCtorEq,rab,vaa,G6,H,k3,TT,F.m1,R5,W.1,W.2]
    simp_all[er,zz,fq,zg]
theorem Ry{t0 t1 t2:Int}{r:Int×Int}(h:mf t0 t1 t2=some r):Den Tryz.prog 121 [Rh t0,Rh t1,Rh t2] (.tup [Rh r.1,Rh r.2]):=by
 unfold mf at h;split at h
 .rename_i hc;obtain⟨x,rfl⟩:∃x:Nat,t0=x:=⟨t0.toNat,by omega⟩;obtain⟨y,rfl⟩:∃y:Nat,t1=y:=⟨t1.toNat,by omega⟩;obtain⟨z,rfl⟩:∃z:Nat,t2=z:=⟨t2.toNat,by omega⟩;obtain rfl:=Raa h;have c:=div48 x y z (by omega) (by omega) (by omega);have a:((x:Int)*18446744073709551616+(y:Int)) / (z:Int)=(((x*18446744073709551616+y) / z:Nat):Int):=by
   simp
  have b:((x:Int)*18446744073709551616+(y:Int)) % (z:Int)=(((x*18446744073709551616+y) % z:Nat):Int):=by
   simp
  dsimp only;rw[a,b];exact c
 .cases h
instance {t0 t1 r}:Con (Zd t0 t1=some r) (Den Tryz.prog 119 [Rh t0,Rh t1] (.tup [Rh r.1,Rh r.2])):=⟨Sy⟩
instance {t0 t1 t2 r}:Con (mf t0 t1 t2=some r) (Den Tryz.prog 121 [Rh t0,Rh t1,Rh t2] (.tup [Rh r.1,Rh r.2])):=⟨Ry⟩
end Go.Proofs.Dev
