/-
  Contracts by hand: the conditions stand in each.
-/
import Derived.Test.YtjiaejcpmcknnaaGreatDoorC3
import Derived.Test.YtjiaejcpmcknnaaGreatDoorPA
import Derived.Test.YtjiaejcpmcknnaaGreatDoorK
import Derived.Test.YtjiaejcpmcknnaaGreatDoorEC
import Derived.Test.YtjiaejcpmcknnaaGreatDoorSH
import Derived.Lib.ItoaNum
import Derived.Test.YtjiaejcpmcknnaaGreatDoorG
import Derived.Test.YtjiaejcpmcknnaaGreatDoorC0
import Derived.Test.YtjiaejcpmcknnaaGreatDoorC1
import Derived.Test.YtjiaejcpmcknnaaGreatDoorC2
open Int renaming reduceEq->Taa,reduceLE->aab,reduceLT->Xaa,reduceToNat->Uaa
open List renaming map_cons->xab,map_nil->Tac,replicate->Oaa
open Nat renaming add_comm->Bac,add_mul->Vac,div_add_mod->Mac,div_le_self->rad,div_lt_iff_lt_mul->Aad,land->Fae,le_antisymm->Nae,le_div_iff_mul_le->Bad,lor->Uae,lt_of_le_of_lt->sad,lt_trans->Cae,min_eq_left->Oae,mod_lt->Rac,mul_comm->Hac,mul_div_mul_right->eae,mul_le_mul->Zac,mul_le_mul_right->rab,mul_right_comm->vae,not_lt->aaf,pow_add->pae,reduceAdd->lab,reduceEqDiff->Eab,reduceLT->tac,reduceSub->Rab,two_pow_pos->Gad,zero_add->eac,zero_le->Dab
open Option.some renaming inj->oab
set_option linter.all false
set_option maxHeartbeats 2000000
set_option maxRecDepth 10000
namespace Go.Proofs.Dev
open Go Go.Tm
def u64(n:Nat):D:=.v (.int .u64 n)
def i64(n:Int):D:=.v (.int .i64 n)
theorem sh32:(2 ^ min (Int.toNat 32) IntKind.u64.bits:Nat)=4294967296:=rfl
theorem andM{x:Nat}(h:x<18446744073709551616):nE Fae .u64 (x:Int) 4294967295=.int .u64 ((x % 4294967296:Nat):Int):=by
 have a:((x:Int) % OG .u64).toNat=x:=by simp only[OG];omega
 have b:((4294967295:Int) % OG .u64).toNat=4294967295:=by decide
 unfold nE;rw[a,b];have c:Fae x 4294967295=x % 4294967296:=Nat.and_two_pow_sub_one_eq_mod x 32;rw[c,Zc (by omega)]
theorem mulN(a b:Nat):(a:Int)*(b:Int)=((a*b:Nat):Int):=(Int.natCast_mul a b).symm
theorem addN(a b:Nat):(a:Int)+(b:Int)=((a+b:Nat):Int):=(Int.natCast_add a b).symm
theorem sO{P:Program}{k:Nat}{vs us:List Value}(d:Tm.Enters P k) (h:∀w,Calls P k vs.toArray w λe w'=>e=.returned (.tuple us.toArray)/\w'=w):Den P k (vs.map .v) (.tup (us.map .v)):=by
 refine λm=>⟨d,λG w c hv hi=>?_⟩;have key:∀(vs us:List Value),VsRel G w (vs.map .v) us->us=vs:=by
  intro vs
  induction vs with
  |nil=>intro us h;simpa [VsRel] using h
  |cons x l b=>
   intro us h;simp only[xab,VsRel,VRel]at h;obtain⟨u,r,rfl,rfl,h2⟩:=h;rw[b r h2]
 have a:∀us:List Value,VsRel G w (us.map .v) us:=by
  intro us
  induction us with
  |nil=>simp[VsRel]
  |cons x l b=>simp only[xab,VsRel,VRel];exact⟨x,l,rfl,rfl,b⟩
 obtain rfl:=key vs c hv;refine(h w).mono ?_;rintro e w' ⟨rfl,rfl⟩;refine⟨_,_,_,G,rfl,⟨rfl,rfl⟩,?_,hi,Step.refl _ _ _⟩;simp only[VRel];exact⟨us,rfl,a us⟩
theorem oA{t0 t1:Int}{r:Int×Int}(h:Td t0 t1=some r):Den Tryz.prog 311 [Ai t0,Ai t1] (.tup [Ai r.1,Ai r.2]):=by
 unfold Td at h;split at h
 .rename_i hc;obtain⟨x,rfl⟩:∃x:Nat,t0=x:=⟨t0.toNat,by omega⟩;obtain⟨y,rfl⟩:∃y:Nat,t1=y:=⟨t1.toNat,by omega⟩;obtain rfl:=oab h;have c:=sO (vs:=[.int .u64 x,.int .u64 y]) (us:=[.int .u64 ((x*y / 18446744073709551616:Nat):Int),.int .u64 ((x*y % 18446744073709551616:Nat):Int)]) (WA k311.ok k311.nm) (λw=>Tryz.bits_Mul64 x y (by omega) (by omega) w);have a:(x:Int)*(y:Int) / 18446744073709551616=((x*y / 18446744073709551616:Nat):Int):=by rw[mulN];omega
  have b:(x:Int)*(y:Int) % 18446744073709551616=((x*y % 18446744073709551616:Nat):Int):=by rw[mulN];omega
  dsimp only;rw[a,b];exact c
 .cases h
def LP(Y:Nat):Prop:=9223372036854775808<=Y/\Y<18446744073709551616
theorem lz55(y:Nat) (h0:0<y) (c:y<18446744073709551616) (m:List Ent):CallT Tryz.prog 340 [u64 y] m λd m'=>(∃s:Nat,d=i64 s/\s<=63/\LP (y*2 ^ s))/\m'=m:=by
 obtain⟨h1,h2,a⟩:=Lib.bitLenAux_bounds 64 y c (by omega);have h4:Lib.bitLenAux 64 y<=64:=by
  by_cases hc:Lib.bitLenAux 64 y<=64
  .exact hc
  .have:2 ^ 64<=2 ^ (Lib.bitLenAux 64 y-1):=Nat.pow_le_pow_right (by decide) (by omega);omega
 have b:=mJ (vs:=[.int .u64 y]) (WA k340.ok k340.nm) (λw=>Tryz.bits_LeadingZeros64 (y:Int) w (by omega) (by omega));refine(b m).mono ?_;rintro d m' ⟨rfl,rfl⟩;refine⟨⟨64-Lib.bitLenAux 64 y,?_,by omega,?_,?_⟩,rfl⟩
 .unfold i64 Lib.bitLen;rw[Int.toNat_natCast];congr 2;omega
 .have:=rab (2 ^ (64-Lib.bitLenAux 64 y)) h2;rw[←pae,show Lib.bitLenAux 64 y-1+(64-Lib.bitLenAux 64 y)=63 by omega]at this;exact this
 .have:=Nat.mul_lt_mul_of_pos_right a (Gad (64-Lib.bitLenAux 64 y));rw[←pae,show Lib.bitLenAux 64 y+(64-Lib.bitLenAux 64 y)=64 by omega]at this;exact this
theorem AU(n:Nat):decide ((n:Int)<0)=false:=by simp
theorem lor64{a b s:Nat}(hb:b<2 ^ s) (h:2 ^ s*a+b<18446744073709551616):nE Uae .u64 ((2 ^ s*a:Nat):Int) (b:Int)=.int .u64 ((2 ^ s*a+b:Nat):Int):=by
 have c:(((2 ^ s*a:Nat):Int) % OG .u64).toNat=2 ^ s*a:=by simp only[OG];omega
 have d:((b:Int) % OG .u64).toNat=b:=by simp only[OG];omega
 unfold nE;rw[c,d];have e:Uae (2 ^ s*a) b=2 ^ s*a+b:=(Nat.two_pow_add_eq_or_of_lt hb a).symm;rw[e,Zc h]
theorem scaled{N y s q R:Nat}(d:0<y) (h:N*2 ^ s=q*(y*2 ^ s)+R) (c:R<y*2 ^ s):N / y=q/\N % y=R / 2 ^ s:=by
 have a:=Gad s;have b:N*2 ^ s / (y*2 ^ s)=q:=by
  rw[h,Bac,Nat.add_mul_div_right _ _ (Nat.mul_pos d a),Nat.div_eq_of_lt c,eac]
 have h2:N*2 ^ s % (y*2 ^ s)=R:=by
  rw[h,Bac,Nat.add_mul_mod_self_right,Nat.mod_eq_of_lt c]
 rw[eae _ _ a]at b;rw[Nat.mul_mod_mul_right]at h2;exact⟨b,by rw[←h2,Nat.mul_div_cancel _ a]⟩
theorem R5(a b c:Int):ca .u64 (ca .u64 (ca .u64 a+b)-ca .u64 c)=ca .u64 (a+b-c):=by
 simp only[ca];omega
structure DivF (hi lo y s Y v w e U L:Nat):Prop where
 hY:y*2 ^ s=Y
 hYn:LP Y
 hYv:Y=4294967296*v+w
 hwB:w<4294967296
 hU:2 ^ s*hi+e=U
 hUY:U<Y
 hLM:L<18446744073709551616
 hN:(hi*18446744073709551616+lo)*2 ^ s=U*18446744073709551616+L
 he:lo / 2 ^ (64-s)=e
 hv:Y / 4294967296=v
 hv0:¬(v:Int)=0
 m1:min s IntKind.u64.bits=s
 m2:min (64-s) IntKind.u64.bits=64-s
 f1:ca .u64 (s:Int)=(s:Int)
 f2:ca .u64 ((y:Int)*((2 ^ s:Nat):Int))=(Y:Int)
 f3:ca .u64 ((hi:Int)*((2 ^ s:Nat):Int))=((2 ^ s*hi:Nat):Int)
 f4:ca .u64 (64-(s:Int))=((64-s:Nat):Int)
 f6:nE Uae .u64 ((2 ^ s*hi:Nat):Int) (e:Int)=.int .u64 (U:Int)
 f7:ca .u64 ((lo:Int)*((2 ^ s:Nat):Int))=(L:Int)
 f8:nE Fae .u64 (Y:Int) 4294967295=.int .u64 (w:Int)
 f9:nE Fae .u64 (L:Int) 4294967295=.int .u64 ((L % 4294967296:Nat):Int)
theorem BR(hi lo y s:Nat) (d:hi<y) (f:lo<18446744073709551616) (s2:s<=63) (b:LP (y*2 ^ s)):∃Y v w e U L,DivF hi lo y s Y v w e U L:=by
 simp only[LP]at b;obtain⟨Y,hY⟩:∃Y,y*2 ^ s=Y:=⟨_,rfl⟩;rw[hY]at b;obtain⟨v,hv⟩:∃v,Y / 4294967296=v:=⟨_,rfl⟩;obtain⟨w,hw⟩:∃w,Y % 4294967296=w:=⟨_,rfl⟩;have hYv:Y=4294967296*v+w:=by omega
 have hwB:w<4294967296:=by omega
 have hv0:¬(v:Int)=0:=by omega
 have m1:min s IntKind.u64.bits=s:=Oae (by show s<=64;omega);have m2:min (64-s) IntKind.u64.bits=64-s:=Oae (by show 64-s<=64;omega);obtain⟨e,he⟩:∃e,lo / 2 ^ (64-s)=e:=⟨_,rfl⟩;have c:e<2 ^ s:=by
  rw[←he,Aad (Gad _),←pae,show s+(64-s)=64 by omega];exact f
 have hhs:2 ^ s*hi+2 ^ s<=Y:=by
  rw[←hY,←Nat.mul_succ,Hac];exact rab _ d
 obtain⟨U,hU⟩:∃U,2 ^ s*hi+e=U:=⟨_,rfl⟩;have hUY:U<Y:=by omega
 obtain⟨L,hL⟩:∃L,lo*2 ^ s % 18446744073709551616=L:=⟨_,rfl⟩;have hLM:L<18446744073709551616:=by omega
 have a:lo*2 ^ s=e*18446744073709551616+L:=by
  have h1:lo*2 ^ s / 18446744073709551616=e:=by
   rw[←he,show(18446744073709551616:Nat)=2 ^ (64-s)*2 ^ s by rw[←pae,show 64-s+s=64 by omega],eae _ _ (Gad s)]
  omega
 have hN:(hi*18446744073709551616+lo)*2 ^ s=U*18446744073709551616+L:=by
  have h2:hi*18446744073709551616*2 ^ s=2 ^ s*hi*18446744073709551616:=by
   rw[vae,Hac hi]
  rw[Vac,a,h2];omega
 have f1:ca .u64 (s:Int)=(s:Int):=Zc (by omega);have f2:ca .u64 ((y:Int)*((2 ^ s:Nat):Int))=(Y:Int):=by rw[mulN,hY,Zc b.2]
 have f3:ca .u64 ((hi:Int)*((2 ^ s:Nat):Int))=((2 ^ s*hi:Nat):Int):=by rw[mulN,Hac hi,Zc (by omega)]
 have f4:ca .u64 (64-(s:Int))=((64-s:Nat):Int):=by rw[show(64:Int)-(s:Int)=((64-s:Nat):Int) by omega,Zc (by omega)]
 have f6:nE Uae .u64 ((2 ^ s*hi:Nat):Int) (e:Int)=.int .u64 (U:Int):=by rw[lor64 c (by omega),hU]
 have f7:ca .u64 ((lo:Int)*((2 ^ s:Nat):Int))=(L:Int):=by rw[mulN];simp only[ca];omega
 have f8:=andM (x:=Y) b.2;have f9:=andM (x:=L) hLM;rw[hw]at f8;exact⟨Y,v,w,e,U,L,⟨hY,b,hYv,hwB,hU,hUY,hLM,hN,he,hv,hv0,m1,m2,f1,f2,f3,f4,f6,f7,f8,f9⟩⟩
structure Dig (Y v w U u:Nat):Prop where
 hY:Y=4294967296*v+w
 hv:2147483648<=v
 hYM:Y<18446744073709551616
 hw:w<4294967296
 hU:U<Y
 hu:u<4294967296
structure Guess (Y v w U u q r:Nat):Prop where
 hP:q*v+r=U
 hr:r<4294967296
 hQ:(U*4294967296+u) / Y<=q
section
variable {Y v w U u q r:Nat}
theorem Dig.QZ(D:Dig Y v w U u) (q:Nat):q*Y=4294967296*(q*v)+q*w:=by
 rw[D.hY,Nat.mul_add,Nat.mul_left_comm]
theorem Dig.y6(D:Dig Y v w U u):(U*4294967296+u) / Y<4294967296:=by
 have h:=D.hU;have h1:=D.hu;have h2:=D.hv;have h3:=D.hY;rw[Aad (by omega)];omega
theorem Dig.q_le(D:Dig Y v w U u) {q r:Nat}(h:q*v+r=U):q<=4294967297:=by
 have h0:=D.hU;have h1:=D.hw;have h2:=D.hv;have h3:=D.hY;have:q*v<4294967298*v:=by omega
 have:=Nat.lt_of_mul_lt_mul_right this;omega
theorem Dig.start(D:Dig Y v w U u):Guess Y v w U u (U / v) (U % v)\/(4294967296<=U % v):=by
 have h0:=D.hU;have h1:=D.hw;have h2:=D.hv;have h3:=D.hY;have h4:=D.hYM;have a:0<v:=by omega
 left;have hm:=Rac U a;have hd:U / v*v+U % v=U:=by rw[Hac];exact Mac U v
 refine⟨hd,by omega,?_⟩;rw[Nat.div_le_iff_le_mul_add_pred (by omega)];have e:=D.QZ (U / v);rw[Hac]at e;rw[e];have h5:=D.hu;omega
theorem Guess.less(D:Dig Y v w U u) (G:Guess Y v w U u q r) (h:4294967296<=q\/4294967296*r+u<q*w):1<=q/\(U*4294967296+u) / Y<=q-1/\(q-1)*v+(r+v)=U:=by
 have a:(U*4294967296+u) / Y<q:=by
  rcases h with h|h
  .exact Nat.lt_of_lt_of_le D.y6 h
  .have b:=D.hY;have h2:=D.hv;rw[Aad (by omega),D.QZ];have:=G.hP;omega
 have b:1<=q:=sad (Dab _) a;refine⟨b,Nat.le_sub_one_of_lt a,?_⟩;have e:q*v=(q-1)*v+v:=by rw[←Nat.succ_mul];congr 1;omega
 have:=G.hP;omega
theorem Guess.done(D:Dig Y v w U u) (G:Guess Y v w U u q r) (h:q*w<=4294967296*r+u):q=(U*4294967296+u) / Y:=by
 refine Nae ?_ G.hQ;have h1:=D.hY;have h2:=D.hv;rw[Bad (by omega),D.QZ];have:=G.hP;omega
theorem Dig.big(D:Dig Y v w U u) (hP:q*v+r=U) (hr:4294967296<=r) (hq:q<=4294967296) (hQ:(U*4294967296+u) / Y<=q):q=(U*4294967296+u) / Y:=by
 refine Nae ?_ hQ;have h1:=D.hY;have h2:=D.hv;have h3:=D.hw;rw[Bad (by omega),D.QZ];have:=Zac hq (show w<=4294967296 by omega);omega
end
theorem UX{q:Nat}(h1:1<=q) (h2:q<18446744073709551616):ca .u64 ((q:Int)-1)=((q-1:Nat):Int):=by
 rw[show(q:Int)-1=((q-1:Nat):Int) by omega,Zc (by omega)]
theorem div48(hi lo y:Nat) (hhi:hi<y) (hlo:lo<18446744073709551616) (hy:y<18446744073709551616) :
 Den Tryz.prog 312 [u64 hi,u64 lo,u64 y] (.tup [u64 ((hi*18446744073709551616+lo) / y),u64 ((hi*18446744073709551616+lo) % y)]):=by
 have f:¬(y:Int)=0:=by omega
 have m:¬(y:Int)<=(hi:Int):=by omega
 simp only[u64];by_cases h0:hi=0
 .subst h0;have a:¬(y:Int)<=0:=by omega
  have hlq:lo / y<18446744073709551616:=sad (rad _ _) hlo;have q1:ca .u64 (Int.tdiv (lo:Int) (y:Int))=((lo / y:Nat):Int):=Zc hlq;have q2:Int.tmod (lo:Int) (y:Int)=((lo % y:Nat):Int):=rfl;refine dk (hf:=rfl) 132 uZ ?_;simp only[uZ,Kf.of,zs,ze];refine Z.T Ho ?_;simp only[f,a,YT,q1,q2,Nat.zero_mul,eac,zz,Wm,Nr,Rm,Mr,Qr,Qm,Li,Vm,Um,Pr,Sc,Nf,Ki,leaves,undef,Cx,Xaa,C.iF,C.Bl,zc,contents,gate,fa,St.ev,St.put,Oaa,Rab,lab,th,Yc,Db,Hu,D.ok,D.cells,one,reduceCtorEq,Eab,Taa];exact er (by simp only[zz,zr];exact fq (by simp only[zg]))
 .have c:¬(hi:Int)=0:=by omega
  refine dk (hf:=rfl) 132 uZ ?_;simp only[uZ,Kf.of,zs,ze];refine Z.T Ho ?_;simp only[f,m,c,zz,Wm,Nr,Rm,Mr,Qr,Qm,Li,Vm,Um,Pr,Sc,Nf,Ki,leaves,undef,Cx,Xaa,C.iF,C.Bl,zc,contents,gate,fa,St.ev,St.put,Oaa,Rab,lab,th,Yc,Db,Hu,D.ok,D.cells,one,reduceCtorEq,Eab,Taa];refine Iv (lz55 y (by omega) hy _) ?_;intro d m' hh;obtain⟨⟨s,hd,s2,s3⟩,hm'⟩:=hh;obtain⟨Y,v,w,e,U,L,F⟩:=BR hi lo y s hhi hlo s2 s3;have g:Dig Y v w U (L / 4294967296):=⟨F.hYv,by have:=F.hYn.1;have:=F.hYv;have:=F.hwB;omega,F.hYn.2,F.hwB,F.hUY,by have:=F.hLM;omega⟩;have hvM:v<18446744073709551616:=by have:=F.hYv;have:=F.hYn.2;omega
  have J:U<18446744073709551616:=Cae F.hUY F.hYn.2;have hvp:0<v:=by have:=g.hv;omega
  have u:∀n:Nat,n<18446744073709551616->ca .u64 (Int.tdiv (n:Int) (v:Int))=((n / v:Nat):Int):=λn hn=>Zc (sad (rad _ _) hn);have z:∀n:Nat,n<18446744073709551616->ca .u64 (((n / v:Nat):Int)*(v:Int))=((n / v*v:Nat):Int):=λn hn=>by rw[mulN,Zc (sad (Nat.div_mul_le_self _ _) hn)]
  have A:∀n:Nat,n<18446744073709551616->ca .u64 ((n:Int)-((n / v*v:Nat):Int))=((n % v:Nat):Int):=λn hn=>by
   have:=Mac n v;rw[Hac]at this;rw[show(n:Int)-((n / v*v:Nat):Int)=((n % v:Nat):Int) by omega,Zc (by omega)]
  have g1:=u U J;have g2:=z U J;have g3:=A U J;simp only[hd,hm',zz,Wm,Nr,Rm,Mr,Qr,Qm,Li,Vm,Um,Pr,Sc,Nf,Ki,leaves,undef,Cx,Xaa,C.iF,C.Bl,zc,contents,gate,fa,St.ev,St.put,Oaa,Rab,lab,th,Yc,Db,Hu,D.ok,D.cells,one,reduceCtorEq,Eab,Taa,i64,AU,F.m1,F.m2,F.f1,F.f2,F.f3,F.f4,r5,F.he,F.f6,F.f7,F.f8,F.f9,sh32,F.hv,F.hv0,g1,g2,g3,YT];refine T.aM (X:=Nat×Nat) (λx=>⟨[.dead,.dead,u64 Y,.dead,.dead,.dead,.dead,.dead,u64 s,u64 v,u64 w,u64 U,.dead,u64 (L / 4294967296),u64 (L % 4294967296),u64 x.1,u64 x.2,.dead,.dead,.dead,.dead,.dead,.dead,.dead,.dead,.dead,.dead,.dead,.dead,.dead,.dead,.dead,.dead,.dead,.dead,.dead,.dead,.dead,.dead,.dead,.dead,.dead,.dead,.dead,.dead,.dead,.dead,.dead,.dead,.dead,.dead,.dead,.dead,.dead,.dead,.dead,.dead,.dead,.dead,.dead,.dead,.dead,.dead,.dead,.dead,.dead,.dead,.dead,.dead,.dead,.dead,.dead,.dead,.dead,.dead,.dead,.dead,.dead,.dead,.dead,.dead,.dead,.dead,.dead,.dead,.dead,.dead,.dead,.dead,.dead,.dead,.dead,.dead,.dead,.dead,.dead,.dead,.dead,.dead,.dead,.dead,.dead,.dead,.dead,.dead,.dead,.dead,.dead,.dead,.dead,.dead,.dead,.dead,.dead,.dead,.dead,.dead,.dead,.dead,.dead,.dead,.dead,.dead,.dead,.dead,.dead,.dead,.dead,.dead,.dead,.dead,.dead,.dead,.dead,.dead],[]⟩)
   (λx=>Guess Y v w U (L / 4294967296) x.1 x.2/\x.1<=4294967297) (λx=>x.1=(U*4294967296+L / 4294967296) / Y) (λx=>4294967296-x.2) (U / v,U % v) ?_ ?_ ?_ ?_ (λ_=>by repeat (first|exact Jy|exact EP|exact qX|exact FP|refine DP ?_)) ?_
  .exact⟨g.start.resolve_right (by have:=Rac U hvp;have:=F.hYv;have:=F.hYn.2;omega),g.q_le (r:=U % v) (by rw[Hac];exact Mac U v)⟩
  .exact At.same _ _ _ (by repeat (first|exact va.qc _|refine va.cons (Sub.refl _) ?_|refine va.cons (Sub.lb _) ?_))
  .rintro⟨q,r⟩ _;exact⟨Dab _,by simp[belows,below,u64],by simp⟩
  .rintro⟨q,r⟩ ⟨o,j⟩;refine Z.T Ho ?_;simp only at o j;have hrB:=o.hr;have huB:=g.hu;have B:(4294967296:Int)*(r:Int)=((4294967296*r:Nat):Int):=by omega
   have E:ca .u64 ((4294967296*r:Nat):Int)=((4294967296*r:Nat):Int):=Zc (by omega);have G:ca .u64 (((4294967296*r:Nat):Int)+((L / 4294967296:Nat):Int))=((4294967296*r+L / 4294967296:Nat):Int):=by rw[addN,Zc (by omega)]
   have i:ca .u64 ((r:Int)+(v:Int))=((r+v:Nat):Int):=by rw[addN,Zc (by have:=F.hYv;have:=F.hYn.2;omega)]
   have H:ca .u64 ((q:Int)*(w:Int))=ca .u64 ((q*w:Nat):Int):=by rw[mulN]
   have out:∀f:(4294967296<=q\/4294967296*r+L / 4294967296<q*w),ca .u64 ((q:Int)-1)=((q-1:Nat):Int)/\(4294967296<=r+v->q-1=(U*4294967296+L / 4294967296) / Y)/\(r+v<4294967296->Guess Y v w U (L / 4294967296) (q-1) (r+v)):=λf=>by
    obtain⟨k1,K,k3⟩:=o.less g f;exact⟨UX k1 (by omega),λh=>g.big k3 h (by omega) K,λh=>⟨k3,h,K⟩⟩
   by_cases f:4294967296<=q
   .have b:(4294967296:Int)<=(q:Int):=by omega
    obtain⟨k,M,N⟩:=out (.inl f);by_cases m:4294967296<=r+v
    .have a:(4294967296:Int)<=((r+v:Nat):Int):=by omega
     simp only[u64,zz,Wm,Nr,Rm,Mr,Qr,Qm,Li,Vm,Um,Pr,Sc,Nf,Ki,leaves,undef,Cx,Xaa,C.iF,C.Bl,zc,contents,gate,fa,St.ev,St.put,Oaa,Rab,lab,th,Yc,Db,Hu,D.ok,D.cells,one,reduceCtorEq,Eab,Taa,b,k,i,a];exact⟨(q-1,r+v),M m,At.same _ _ _ (by repeat (first|exact va.qc _|refine va.cons (Sub.refl _) ?_|refine va.cons (Sub.lb _) ?_))⟩
    .have a:¬(4294967296:Int)<=((r+v:Nat):Int):=by omega
     simp only[u64,zz,Wm,Nr,Rm,Mr,Qr,Qm,Li,Vm,Um,Pr,Sc,Nf,Ki,leaves,undef,Cx,Xaa,C.iF,C.Bl,zc,contents,gate,fa,St.ev,St.put,Oaa,Rab,lab,th,Yc,Db,Hu,D.ok,D.cells,one,reduceCtorEq,Eab,Taa,b,k,i,a];exact⟨(q-1,r+v),⟨N (by omega),by show q-1<=_;omega⟩,by show 4294967296-(r+v)<4294967296-r;have:=g.hv;omega,At.same _ _ _ (by repeat (first|exact va.qc _|refine va.cons (Sub.refl _) ?_|refine va.cons (Sub.lb _) ?_))⟩
   .have b:¬(4294967296:Int)<=(q:Int):=by omega
    have I:ca .u64 ((q*w:Nat):Int)=((q*w:Nat):Int):=Zc (by
     have:=Zac (show q<=4294967295 by omega) (show w<=4294967295 by have:=F.hwB;omega);omega)
    by_cases c:4294967296*r+L / 4294967296<q*w
    .obtain⟨k,M,N⟩:=out (.inr c);by_cases m:4294967296<=r+v
     .have a:(4294967296:Int)<=((r+v:Nat):Int):=by omega
      simp only[u64,zz,Wm,Nr,Rm,Mr,Qr,Qm,Li,Vm,Um,Pr,Sc,Nf,Ki,leaves,undef,Cx,Xaa,C.iF,C.Bl,zc,contents,gate,fa,St.ev,St.put,Oaa,Rab,lab,th,Yc,Db,Hu,D.ok,D.cells,one,reduceCtorEq,Eab,Taa,b,k,B,E,G,i,H,I,CJ,c,a];exact⟨(q-1,r+v),M m,At.same _ _ _ (by repeat (first|exact va.qc _|refine va.cons (Sub.refl _) ?_|refine va.cons (Sub.lb _) ?_))⟩
     .have a:¬(4294967296:Int)<=((r+v:Nat):Int):=by omega
      simp only[u64,zz,Wm,Nr,Rm,Mr,Qr,Qm,Li,Vm,Um,Pr,Sc,Nf,Ki,leaves,undef,Cx,Xaa,C.iF,C.Bl,zc,contents,gate,fa,St.ev,St.put,Oaa,Rab,lab,th,Yc,Db,Hu,D.ok,D.cells,one,reduceCtorEq,Eab,Taa,b,k,B,E,G,i,H,I,CJ,c,a];exact⟨(q-1,r+v),⟨N (by omega),by show q-1<=_;omega⟩,by show 4294967296-(r+v)<4294967296-r;have:=g.hv;omega,At.same _ _ _ (by repeat (first|exact va.qc _|refine va.cons (Sub.refl _) ?_|refine va.cons (Sub.lb _) ?_))⟩
    .simp only[u64,zz,Wm,Nr,Rm,Mr,Qr,Qm,Li,Vm,Um,Pr,Sc,Nf,Ki,leaves,undef,Cx,Xaa,C.iF,C.Bl,zc,contents,gate,fa,St.ev,St.put,Oaa,Rab,lab,th,Yc,Db,Hu,D.ok,D.cells,one,reduceCtorEq,Eab,Taa,b,B,E,G,i,H,I,CJ,c];exact⟨(q,r),o.done g (aaf.1 c),At.same _ _ _ (by repeat (first|exact va.qc _|refine va.cons (Sub.refl _) ?_|refine va.cons (Sub.lb _) ?_))⟩
  .rintro⟨q,r⟩ hq;simp only at hq;obtain⟨Q,hQ⟩:∃Q,(U*4294967296+L / 4294967296) / Y=Q:=⟨_,rfl⟩;rw[hQ]at hq;subst hq;obtain⟨R,hR⟩:∃R,(U*4294967296+L / 4294967296) % Y=R:=⟨_,rfl⟩;have V:0<Y:=by have:=F.hYn.1;omega
   have S:R<Y:=by rw[←hR];exact Rac _ V
   have hdm:=Mac (U*4294967296+L / 4294967296) Y;rw[hQ,hR,Hac]at hdm;have t:R<18446744073709551616:=Cae S F.hYn.2;have l:Dig Y v w R (L % 4294967296):=⟨F.hYv,g.hv,F.hYn.2,F.hwB,S,Rac _ (by decide)⟩;have k1:ca .u64 ((U:Int)*4294967296+((L / 4294967296:Nat):Int)-(q:Int)*(Y:Int))=(R:Int):=by
    rw[mulN,show(U:Int)*4294967296+((L / 4294967296:Nat):Int)-((q*Y:Nat):Int)=(R:Int) by omega,Zc t]
   simp only[zz,Wm,Nr,Rm,Mr,Qr,Qm,Li,Vm,Um,Pr,Sc,Nf,Ki,leaves,undef,Cx,Xaa,C.iF,C.Bl,zc,contents,gate,fa,St.ev,St.put,Oaa,Rab,lab,th,Yc,Db,Hu,D.ok,D.cells,one,reduceCtorEq,Eab,Taa];refine Z.T Ho ?_;simp only[u64,zz,Wm,Nr,Rm,Mr,Qr,Qm,Li,Vm,Um,Pr,Sc,Nf,Ki,leaves,undef,Cx,Xaa,C.iF,C.Bl,zc,contents,gate,fa,St.ev,St.put,Oaa,Rab,lab,th,Yc,Db,Hu,D.ok,D.cells,one,reduceCtorEq,Eab,Taa,R5,k1,F.hv0,u R t,z R t,A R t];refine T.aM (X:=Nat×Nat) (λx=>⟨[.dead,.dead,u64 Y,.dead,.dead,.dead,.dead,.dead,u64 s,u64 v,u64 w,.dead,.dead,.dead,u64 (L % 4294967296),u64 q,u64 x.2,u64 R,u64 x.1,.dead,.dead,.dead,.dead,.dead,.dead,.dead,.dead,.dead,.dead,.dead,.dead,.dead,.dead,.dead,.dead,.dead,.dead,.dead,.dead,.dead,.dead,.dead,.dead,.dead,.dead,.dead,.dead,.dead,.dead,.dead,.dead,.dead,.dead,.dead,.dead,.dead,.dead,.dead,.dead,.dead,.dead,.dead,.dead,.dead,.dead,.dead,.dead,.dead,.dead,.dead,.dead,.dead,.dead,.dead,.dead,.dead,.dead,.dead,.dead,.dead,.dead,.dead,.dead,.dead,.dead,.dead,.dead,.dead,.dead,.dead,.dead,.dead,.dead,.dead,.dead,.dead,.dead,.dead,.dead,.dead,.dead,.dead,.dead,.dead,.dead,.dead,.dead,.dead,.dead,.dead,.dead,.dead,.dead,.dead,.dead,.dead,.dead,.dead,.dead,.dead,.dead,.dead,.dead,.dead,.dead,.dead,.dead,.dead,.dead,.dead,.dead,.dead,.dead,.dead,.dead],[]⟩)
    (λx=>Guess Y v w R (L % 4294967296) x.1 x.2/\x.1<=4294967297) (λx=>x.1=(R*4294967296+L % 4294967296) / Y) (λx=>4294967296-x.2) (R / v,R % v) ?_ ?_ ?_ ?_ (λ_=>by repeat (first|exact Jy|exact EP|exact qX|exact FP|refine DP ?_)) ?_
   .exact⟨l.start.resolve_right (by have:=Rac R hvp;have:=F.hYv;have:=F.hYn.2;omega),l.q_le (r:=R % v) (by rw[Hac];exact Mac R v)⟩
   .exact At.same _ _ _ (by repeat (first|exact va.qc _|refine va.cons (Sub.refl _) ?_|refine va.cons (Sub.lb _) ?_))
   .rintro⟨q,r⟩ _;exact⟨Dab _,by simp[belows,below,u64],by simp⟩
   .rintro⟨p,r⟩ ⟨o,j⟩;refine Z.T Ho ?_;simp only at o j;have hrB:=o.hr;have huB:=l.hu;have B:(4294967296:Int)*(r:Int)=((4294967296*r:Nat):Int):=by omega
    have E:ca .u64 ((4294967296*r:Nat):Int)=((4294967296*r:Nat):Int):=Zc (by omega);have G:ca .u64 (((4294967296*r:Nat):Int)+((L % 4294967296:Nat):Int))=((4294967296*r+L % 4294967296:Nat):Int):=by rw[addN,Zc (by omega)]
    have i:ca .u64 ((r:Int)+(v:Int))=((r+v:Nat):Int):=by rw[addN,Zc (by have:=F.hYv;have:=F.hYn.2;omega)]
    have H:ca .u64 ((p:Int)*(w:Int))=ca .u64 ((p*w:Nat):Int):=by rw[mulN]
    have out:∀f:(4294967296<=p\/4294967296*r+L % 4294967296<p*w),ca .u64 ((p:Int)-1)=((p-1:Nat):Int)/\(4294967296<=r+v->p-1=(R*4294967296+L % 4294967296) / Y)/\(r+v<4294967296->Guess Y v w R (L % 4294967296) (p-1) (r+v)):=λf=>by
     obtain⟨k1,K,k3⟩:=o.less l f;exact⟨UX k1 (by omega),λh=>l.big k3 h (by omega) K,λh=>⟨k3,h,K⟩⟩
    by_cases f:4294967296<=p
    .have b:(4294967296:Int)<=(p:Int):=by omega
     obtain⟨k,M,N⟩:=out (.inl f);by_cases m:4294967296<=r+v
     .have a:(4294967296:Int)<=((r+v:Nat):Int):=by omega
      simp only[u64,zz,Wm,Nr,Rm,Mr,Qr,Qm,Li,Vm,Um,Pr,Sc,Nf,Ki,leaves,undef,Cx,Xaa,C.iF,C.Bl,zc,contents,gate,fa,St.ev,St.put,Oaa,Rab,lab,th,Yc,Db,Hu,D.ok,D.cells,one,reduceCtorEq,Eab,Taa,b,k,i,a];exact⟨(p-1,r+v),M m,At.same _ _ _ (by repeat (first|exact va.qc _|refine va.cons (Sub.refl _) ?_|refine va.cons (Sub.lb _) ?_))⟩
     .have a:¬(4294967296:Int)<=((r+v:Nat):Int):=by omega
      simp only[u64,zz,Wm,Nr,Rm,Mr,Qr,Qm,Li,Vm,Um,Pr,Sc,Nf,Ki,leaves,undef,Cx,Xaa,C.iF,C.Bl,zc,contents,gate,fa,St.ev,St.put,Oaa,Rab,lab,th,Yc,Db,Hu,D.ok,D.cells,one,reduceCtorEq,Eab,Taa,b,k,i,a];exact⟨(p-1,r+v),⟨N (by omega),by show p-1<=_;omega⟩,by show 4294967296-(r+v)<4294967296-r;have:=l.hv;omega,At.same _ _ _ (by repeat (first|exact va.qc _|refine va.cons (Sub.refl _) ?_|refine va.cons (Sub.lb _) ?_))⟩
    .have b:¬(4294967296:Int)<=(p:Int):=by omega
     have I:ca .u64 ((p*w:Nat):Int)=((p*w:Nat):Int):=Zc (by
      have:=Zac (show p<=4294967295 by omega) (show w<=4294967295 by have:=F.hwB;omega);omega)
     by_cases c:4294967296*r+L % 4294967296<p*w
     .obtain⟨k,M,N⟩:=out (.inr c);by_cases m:4294967296<=r+v
      .have a:(4294967296:Int)<=((r+v:Nat):Int):=by omega
       simp only[u64,zz,Wm,Nr,Rm,Mr,Qr,Qm,Li,Vm,Um,Pr,Sc,Nf,Ki,leaves,undef,Cx,Xaa,C.iF,C.Bl,zc,contents,gate,fa,St.ev,St.put,Oaa,Rab,lab,th,Yc,Db,Hu,D.ok,D.cells,one,reduceCtorEq,Eab,Taa,b,k,B,E,G,i,H,I,CJ,c,a];exact⟨(p-1,r+v),M m,At.same _ _ _ (by repeat (first|exact va.qc _|refine va.cons (Sub.refl _) ?_|refine va.cons (Sub.lb _) ?_))⟩
      .have a:¬(4294967296:Int)<=((r+v:Nat):Int):=by omega
       simp only[u64,zz,Wm,Nr,Rm,Mr,Qr,Qm,Li,Vm,Um,Pr,Sc,Nf,Ki,leaves,undef,Cx,Xaa,C.iF,C.Bl,zc,contents,gate,fa,St.ev,St.put,Oaa,Rab,lab,th,Yc,Db,Hu,D.ok,D.cells,one,reduceCtorEq,Eab,Taa,b,k,B,E,G,i,H,I,CJ,c,a];exact⟨(p-1,r+v),⟨N (by omega),by show p-1<=_;omega⟩,by show 4294967296-(r+v)<4294967296-r;have:=l.hv;omega,At.same _ _ _ (by repeat (first|exact va.qc _|refine va.cons (Sub.refl _) ?_|refine va.cons (Sub.lb _) ?_))⟩
     .simp only[u64,zz,Wm,Nr,Rm,Mr,Qr,Qm,Li,Vm,Um,Pr,Sc,Nf,Ki,leaves,undef,Cx,Xaa,C.iF,C.Bl,zc,contents,gate,fa,St.ev,St.put,Oaa,Rab,lab,th,Yc,Db,Hu,D.ok,D.cells,one,reduceCtorEq,Eab,Taa,b,B,E,G,i,H,I,CJ,c];exact⟨(p,r),o.done l (aaf.1 c),At.same _ _ _ (by repeat (first|exact va.qc _|refine va.cons (Sub.refl _) ?_|refine va.cons (Sub.lb _) ?_))⟩
   .rintro⟨p,r'⟩ hp;simp only at hp;obtain⟨Q',P⟩:∃Q,(R*4294967296+L % 4294967296) / Y=Q:=⟨_,rfl⟩;have hp1:=l.y6;rw[←hp]at hp1;rw[P]at hp;subst hp;obtain⟨O,hZ⟩:∃O,(R*4294967296+L % 4294967296) % Y=O:=⟨_,rfl⟩;have W:O<Y:=by rw[←hZ];exact Rac _ V
    have hdm2:=Mac (R*4294967296+L % 4294967296) Y;rw[P,hZ,Hac]at hdm2;have j:=g.y6;rw[hQ]at j;have K:ca .u64 ((R:Int)*4294967296+((L % 4294967296:Nat):Int)-(p:Int)*(Y:Int))=(O:Int):=by
     rw[mulN,show(R:Int)*4294967296+((L % 4294967296:Nat):Int)-((p*Y:Nat):Int)=(O:Int) by omega,Zc (Cae W F.hYn.2)]
    have k3:ca .u64 (ca .u64 ((q:Int)*4294967296)+(p:Int))=((q*4294967296+p:Nat):Int):=by
     rw[show(q:Int)*4294967296=((q*4294967296:Nat):Int) by omega,Zc (by omega),addN,Zc (by omega)]
    have hfin:(hi*18446744073709551616+lo)*2 ^ s=(q*4294967296+p)*(y*2 ^ s)+O:=by
     rw[F.hN,F.hY,Vac,vae];omega
    have hsc:=scaled (by omega) hfin (by rw[F.hY];exact W);simp only[zz,Wm,Nr,Rm,Mr,Qr,Qm,Li,Vm,Um,Pr,Sc,Nf,Ki,leaves,undef,Cx,Xaa,C.iF,C.Bl,zc,contents,gate,fa,St.ev,St.put,Oaa,Rab,lab,th,Yc,Db,Hu,D.ok,D.cells,one,reduceCtorEq,Eab,Taa];refine Z.T Ho ?_;simp only[u64,zz,Wm,Nr,Rm,Mr,Qr,Qm,Li,Vm,Um,Pr,Sc,Nf,Ki,leaves,undef,Cx,Xaa,C.iF,C.Bl,zc,contents,gate,fa,St.ev,St.put,Oaa,Rab,lab,th,Yc,Db,Hu,D.ok,D.cells,one,reduceCtorEq,Eab,Taa,R5,K,k3,AU,F.m1,r5,hsc.1,hsc.2];exact er (by simp only[zz,zr];exact fq (by simp only[zg]))
theorem nA{t0 t1 t2:Int}{r:Int×Int}(h:Ze t0 t1 t2=some r):Den Tryz.prog 312 [Ai t0,Ai t1,Ai t2] (.tup [Ai r.1,Ai r.2]):=by
 unfold Ze at h;split at h
 .rename_i hc;obtain⟨x,rfl⟩:∃x:Nat,t0=x:=⟨t0.toNat,by omega⟩;obtain⟨y,rfl⟩:∃y:Nat,t1=y:=⟨t1.toNat,by omega⟩;obtain⟨z,rfl⟩:∃z:Nat,t2=z:=⟨t2.toNat,by omega⟩;obtain rfl:=oab h;have c:=div48 x y z (by omega) (by omega) (by omega);have a:((x:Int)*18446744073709551616+(y:Int)) / (z:Int)=(((x*18446744073709551616+y) / z:Nat):Int):=by
   rw[show(x:Int)*18446744073709551616+(y:Int)=((x*18446744073709551616+y:Nat):Int) by omega];rfl
  have b:((x:Int)*18446744073709551616+(y:Int)) % (z:Int)=(((x*18446744073709551616+y) % z:Nat):Int):=by
   rw[show(x:Int)*18446744073709551616+(y:Int)=((x*18446744073709551616+y:Nat):Int) by omega];rfl
  dsimp only;rw[a,b];exact c
 .cases h
instance {t0 t1 r}:Con (Td t0 t1=some r) (Den Tryz.prog 311 [Ai t0,Ai t1] (.tup [Ai r.1,Ai r.2])):=⟨oA⟩
instance {t0 t1 t2 r}:Con (Ze t0 t1 t2=some r) (Den Tryz.prog 312 [Ai t0,Ai t1,Ai t2] (.tup [Ai r.1,Ai r.2])):=⟨nA⟩
end Go.Proofs.Dev
set_option maxHeartbeats 1000000
namespace Go.Proofs.Dev
open Go Go.Tm
theorem HK{t0 r}(h:iA t0=some r):mE Tryz.prog 24 [] [] 2 (t0.map Na) (Bb r):=by
 obtain rfl:=oab h;refine mE.at 23 k24.ok k24.nm JC JC (Fr.l _) rfl ?_;simp only[k24,Kf.of,zs,ze];refine T.sr ?_;simp only[zx];refine T.sr ?_;simp only[zx];apply Vb;apply Lx k64 21 rfl
 .simp only[k64,Kf.of,zs,ze];refine T.sr ?_;simp only[zx];refine T.sr ?_;simp only[zx];refine T.sr ?_;simp only[zx];refine T.sr ?_;simp only[zx];refine T.sr ?_;simp only[zx];refine T.ret (TJ ?_);simp only[zx,zr,Xv];exact .refl _
 .simp only[zx];refine T.sr ?_;simp only[zx,aab,Uaa,tac,lab,if_true];refine T.sr ?_;simp only[zx,aab,Uaa,tac,lab,if_true];refine T.sr ?_;simp only[zx,aab,Uaa,tac,lab,if_true];refine T.ret (Rn ?_);simp only[zx,zr,um,zk,sx,ze,xab,Tac];exact fq (by simp only[zg])
theorem BG{r}(h:RD []=some r):Den Tryz.prog 24 [.v (.slice none 0 0)] (Bb r):=by
 obtain rfl:=oab h;refine dk 23 k24 ?_ rfl;simp only[k24,Kf.of,zs,ze];refine T.sr ?_;simp only[zx];refine T.sr ?_;simp only[zx];apply Vb;apply Lx k64 21 rfl
 .simp only[k64,Kf.of,zs,ze];refine T.sr ?_;simp only[zx];refine T.sr ?_;simp only[zx];refine T.sr ?_;simp only[zx];refine T.sr ?_;simp only[zx];refine T.sr ?_;simp only[zx];refine T.ret (TJ ?_);simp only[zx,zr,Xv];exact .refl _
 .simp only[zx];refine T.sr ?_;simp only[zx,aab,Uaa,tac,lab,if_true];refine T.sr ?_;simp only[zx,aab,Uaa,tac,lab,if_true];refine T.sr ?_;simp only[zx,aab,Uaa,tac,lab,if_true];refine T.ret (Rn ?_);simp only[zx,zr,um,zk,sx,ze,xab,Tac];exact fq (by simp only[zg])
instance {t0 r}:Con (iA t0=some r) (mE Tryz.prog 24 [] [] 2 (t0.map Na) (Bb r)):=⟨HK⟩
instance {r}:Con (RD []=some r) (Den Tryz.prog 24 [.v (.slice none 0 0)] (Bb r)):=⟨BG⟩
theorem IK{r}(h:Jt=some r):Den Tryz.prog 44 [] (Bb r):=by
 obtain rfl:=oab h;refine dk 44 k44 ?_;simp only[k44,Kf.of,zs,ze];refine T.sr ?_;simp only[zx];refine T.sr ?_;simp only[zx];apply Vb;apply Lx k64 21 rfl
 .simp only[k64,Kf.of,zs,ze];refine T.sr ?_;simp only[zx];refine T.sr ?_;simp only[zx];refine T.sr ?_;simp only[zx];refine T.sr ?_;simp only[zx];refine T.sr ?_;simp only[zx];refine T.ret (TJ ?_);simp only[zx,zr,Xv];exact .refl _
 .simp only[zx];refine T.sr ?_;simp only[zx,aab,Uaa,tac,lab,if_true];refine T.sr ?_;simp only[zx,aab,Uaa,tac,lab,if_true];refine T.sr ?_;simp only[zx,aab,Uaa,tac,lab,if_true];refine T.sr ?_;simp only[zx,aab,Uaa,tac,lab,if_true];refine T.sr ?_;simp only[zx,aab,Uaa,tac,lab,if_true];refine T.Ez (T.ay Ho [[],[],[],[],[],[],[],[],[],[1]] (by kernel_rfl) ?_);simp only[zx,zy,aab,Uaa,tac,lab,if_true];refine⟨by decide,?_⟩;refine T.sr ?_;simp only[zx,aab,Uaa,tac,lab,if_true];refine T.ret (Rn ?_);simp only[zx,zr,um,zk,sx,ze,xab,Tac];exact fq (by simp only[zg])
instance {r}:Con (Jt=some r) (Den Tryz.prog 44 [] (Bb r)):=⟨IK⟩
end Go.Proofs.Dev
