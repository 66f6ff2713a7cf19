/-
  The functions as plain partial functions, and plain lemmas about them: no condition.
-/
import Derived.Test.YtadinajclolmnaaGreatDoorED
open List renaming append_assoc->H!,append_nil->R?,cons_append->B',drop->Φ,drop_left->rai,drop_of_length_le->zah,flatMap_append->Tah,flatMap_cons->Nag,flatMap_nil->hai,length_append->G!,length_cons->w!,length_nil->A?,length_take->U',nil_append->G?,range->s?,take->kah,take_append_of_le_length->Zag,take_of_length_le->Ψ,take_succ_eq_append_getElem->gah,length->a00
open Nat renaming add_assoc->lai,min_eq_left->qag,mod_eq_of_lt->Bah,mul_add->Xai,mul_comm->Eah,mul_zero->Caj,pow_succ->jai
set_option linter.all false
set_option maxHeartbeats 2000000
set_option maxRecDepth 10000
namespace Go.Proofs.Dev
open Go Go.Tm
variable {i:Nat}{n:Int}
def su(n:Int):Prop:=-9223372036854775808<=n/\n<=9223372036854775807
def Dw(r:BitVec 32):BitVec 32:=if r.toNat % 2=1 then(r / 2#32) ^^^ 0xEDB88320#32 else r / 2#32
def Gl:Nat->BitVec 32->BitVec 32
 |0,r=>r
 |n+1,r=>Gl n (Dw r)
def fx(r:BitVec 32) (b:BitVec 8):BitVec 32:=Gl 8 (r ^^^ b.zeroExtend 32)
def Wj(bs:List (BitVec 8)):BitVec 32:=bs.foldl fx 4294967295#32 ^^^ 4294967295#32
def Yc:Nat->Nat->List (BitVec 8)
 |0,_=>[]
 |k+1,u=>BitVec.ofNat 8 u::Yc k (u / 256)
theorem gx:∀(k u:Nat),Yc (k+1) u=Yc k u++[BitVec.ofNat 8 (u / 256 ^ k)]
 |0,u=>by simp[Yc]
 |k+1,u=>by
  rw[Yc,gx k,Yc,B',Nat.div_div_eq_div_mul,jai,Eah]
theorem Zb:∀(k u:Nat),(Yc k u).length=k
 |0,_=>rfl
 |k+1,u=>by simp[Yc,Zb k]
def wb(W:List Int):List (BitVec 8):=W.flatMap λn=>Yc 8 (n % 2 ^ 64).toNat
theorem Hh:∀W:List Int,(wb W).length=8*W.length
 |[]=>rfl
 |n::W=>by
  have h:=Hh W;simp only[wb,Nag,G!,Zb,w!]at h⊢;omega
theorem BP{W:List Int}(h:i<W.length):wb (W.take (i+1))=wb (W.take i)++Yc 8 (W[i] % 2 ^ 64).toNat:=by
 rw[gah h];simp only[wb,Tah,Nag,hai,R?]
structure PsJ where
 d:Int
 m:Int
 k:Int
 c:Int
variable {l:List PsJ}
structure R! where
 h:Int
 mo:Int
 d:Int
 ni:Int
 nh:Int
 nm:Int
 nk:Int
 nc:Int
 ps:List PsJ
def xw(p:PsJ):List Int:=[p.d,p.m,p.k,p.c]
def sH(r:R!):List Int:=[r.h,r.mo,r.d,r.ni,r.nh,r.nm,r.nk,r.nc,(a00 r.ps:Int)]
def Qg(r:R!):List (BitVec 8):=wb (sH r)++wb (r.ps.flatMap xw)
def xm(r:R!):List (BitVec 8):=Yc 4 (72+32*a00 r.ps)++Qg r++Yc 4 (Wj (Qg r)).toNat
theorem jt:∀l:List PsJ,(l.flatMap xw).length=4*a00 l
 |[]=>rfl
 |p::l=>by
  have h:=jt l;simp only[Nag,G!,w!,xw,A?]at h⊢;omega
theorem xv(r:R!):(Qg r).length=72+32*a00 r.ps:=by
 simp only[Qg,G!,Hh,jt];simp only[sH,w!,A?];omega
def QT:wb []=[]:=rfl
theorem LW(h:i<a00 l):wb ((l.take (i+1)).flatMap xw)=wb ((l.take i).flatMap xw)++wb (xw l[i]):=by
 rw[gah h];simp only[Tah,Nag,hai,R?,wb]
theorem yV(h:i<=a00 l):((l.take i).flatMap xw).length=4*i:=by
 rw[jt,U',qag h]
theorem aP5{c:Nat}(h:c<2 ^ 32):((c:Int) % 4294967296).toNat=c:=U
theorem mg(r:R!):(xm r).length=80+32*a00 r.ps:=by
 simp only[xm,G!,Zb,xv];omega
theorem iL(a b:List Int):wb (a++b)=wb a++wb b:=by simp only[wb,Tah]
def Rh:List (BitVec 8)->Nat
 |[]=>0
 |b::l=>b.toNat+256*Rh l
theorem KG:∀a b:List (BitVec 8),Rh (a++b)=Rh a+256 ^ a.length*Rh b
 |[],b=>by simp[Rh]
 |x::a,b=>by
  simp only[B',Rh,KG a b,w!,jai,Xai];rw[Eah (256 ^ a.length) 256,Nat.mul_assoc,lai]
theorem Yy:∀l:List (BitVec 8),Rh l<256 ^ l.length
 |[]=>by simp[Rh]
 |b::l=>by
  have:=Yy l;have:=b.isLt;simp only[Rh,w!,jai];omega
theorem HJ{l:List (BitVec 8)}(h:i<a00 l):Rh (l.take (i+1))=Rh (l.take i)+256 ^ i*l[i].toNat:=by
 rw[gah h,KG,U',qag (Nat.le_of_lt h)];simp[Rh]
def vo(u:Nat):Int:=aa .i64 (u:Int)
def Mj(bs:List (BitVec 8)) (j:Nat):Int:=vo (Rh ((bs.drop (8*j)).take 8))
structure C' (bs:List (BitVec 8)) (k:Nat):Prop where
 len4:4<=a00 bs
 n:Rh (bs.take 4)=72+32*k
 k4:k<=4096
 len:80+32*k<=a00 bs
 crc:(Wj ((bs.drop 4).take (72+32*k))).toNat=Rh ((bs.drop (76+32*k)).take 4)
 iF:Mj (bs.drop 4) 8=(k:Int)
def rH(L:List (BitVec 8)) (j:Nat):List PsJ:=(s? j).map λi=>⟨Mj L (9+4*i),Mj L (10+4*i),Mj L (11+4*i),Mj L (12+4*i)⟩
theorem jK(L:List (BitVec 8)) (j:Nat):(rH L j).length=j:=by simp[rH]
theorem BN(L:List (BitVec 8)) (j:Nat):rH L (j+1)=rH L j++[⟨Mj L (9+4*j),Mj L (10+4*j),Mj L (11+4*j),Mj L (12+4*j)⟩]:=by
 simp[rH,List.range_succ]
theorem aH4(L:List (BitVec 8)) (j:Nat):vo (Rh (kah 8 (Φ (72+32*j) L)))=Mj L (9+4*j)/\vo (Rh (kah 8 (Φ (72+32*j+8) L)))=Mj L (10+4*j)
 /\vo (Rh (kah 8 (Φ (72+32*j+16) L)))=Mj L (11+4*j)/\vo (Rh (kah 8 (Φ (72+32*j+24) L)))=Mj L (12+4*j):=by
 unfold Mj;rw[show 8*(9+4*j)=72+32*j by omega,show 8*(10+4*j)=72+32*j+8 by omega,show 8*(11+4*j)=72+32*j+16 by omega,show 8*(12+4*j)=72+32*j+24 by omega];exact⟨rfl,rfl,rfl,rfl⟩
def oo(pl:List (BitVec 8)) (k:Nat):R!:=
 ⟨Mj pl 0,Mj pl 1,Mj pl 2,Mj pl 3,Mj pl 4,Mj pl 5,Mj pl 6,Mj pl 7,rH pl k⟩
structure PsJ.Ok (p:PsJ):Prop where
 d:su p.d
 m:su p.m
 k:su p.k
 c:su p.c
structure R!.Ok (r:R!):Prop where
 h:su r.h
 mo:su r.mo
 d:su r.d
 ni:su r.ni
 nh:su r.nh
 nm:su r.nm
 nk:su r.nk
 nc:su r.nc
 len:r.ps.length<2 ^ 63
 ps:∀p∈r.ps,p.Ok
def Qq:List (BitVec 8)->List R!->Nat->Prop
 |bs,[],n=>n=0/\∀k,¬C' bs k
 |bs,r::l,n=>∃k,C' bs k/\r=oo (bs.drop 4) k/\80+32*k<=n/\Qq (bs.drop (80+32*k)) l (n-(80+32*k))
theorem C'.uniq{bs:List (BitVec 8)}{k a:Nat}(h:C' bs k) (b:C' bs a):k=a:=by
 have h1:=h.n;have h2:=b.n;omega
theorem Qq.uniq:∀{bs:List (BitVec 8)}{l l':List R!}{n b:Nat},Qq bs l n->Qq bs l' b->l=l'/\n=b
 |bs,[],[],n,b,h,a=>⟨rfl,by rw[h.1,a.1]⟩
 |bs,[],r::l,n,b,h,a=>by obtain⟨k,hk,_⟩:=a;exact absurd hk (h.2 k)
 |bs,r::l,[],n,b,h,a=>by obtain⟨k,hk,_⟩:=h;exact absurd hk (a.2 k)
 |bs,r::l,r'::l',n,b,h,a=>by
  obtain⟨k,hk,rfl,h1,h2⟩:=h;obtain⟨k',d,rfl,h1',c⟩:=a;obtain rfl:=hk.uniq d;obtain⟨rfl,h3⟩:=Qq.uniq h2 c;exact⟨rfl,U⟩
def kW(L:List (BitVec 8)) (k:Nat):(oo L k).ps.length=k:=jK L k
theorem Qq.le:∀{bs:List (BitVec 8)}{l:List R!}{n:Nat},Qq bs l n->n<=a00 bs/\80*a00 l<=n/\∀r∈l,a00 r.ps<=4096
 |bs,[],n,h=>by simp[h.1]
 |bs,r::l,n,h=>by
  obtain⟨k,hk,rfl,h1,h2⟩:=h;have a:=Qq.le h2;have h4:=hk.len;simp only[List.length_drop,w!,List.mem_cons]at a⊢;refine⟨U,U,?_⟩;rintro r (rfl|hr)
  .rw[kW];exact hk.k4
  .exact a.2.2 r hr
def OT(pl:List (BitVec 8)) (i:Nat):List Int:=(s? i).map (Mj pl)
theorem VA(pl:List (BitVec 8)) (i:Nat):(OT pl i).length=i:=by simp[OT]
theorem uv:∀(k u:Nat),Rh (Yc k u)=u % 256 ^ k
 |0,u=>by simp[Yc,Rh,Nat.mod_one]
 |k+1,u=>by
  rw[Yc,Rh,uv k,BitVec.toNat_ofNat,show 256 ^ (k+1)=256*256 ^ k by rw[jai,Eah],Nat.mod_mul]
theorem O6(h:su n):vo (n % 2 ^ 64).toNat=n:=by
 unfold vo su at *;rw[Qb,IntKind.wrap_i64];omega
def bF(n:Int) (W:List Int):wb (n::W)=Yc 8 (n % 2 ^ 64).toNat++wb W:=rfl
theorem ql(h:su n) (W:List Int) (X:List (BitVec 8)):Mj (wb (n::W)++X) 0=n:=by
 unfold Mj;rw[Caj,List.drop_zero,bF,H!,Zag (by rw[Zb];omega),Ψ (by rw[Zb];omega),uv];rw[Bah U,O6 h]
theorem JZ(A:List (BitVec 8)) (a:Nat) (hA:A.length=8*a) (X:List (BitVec 8)) (j:Nat):Mj (A++X) (a+j)=Mj X j:=by
 unfold Mj;rw[List.drop_append,hA,show 8*(a+j)-8*a=8*j by omega,zah (by rw[hA];omega),G?]
theorem Fu(n:Int) (W:List Int) (X:List (BitVec 8)) (j:Nat):Mj (wb (n::W)++X) (j+1)=Mj (wb W++X) j:=by
 rw[bF,H!,Nat.add_comm j 1,JZ _ 1 (by rw[Zb])]
def Uw(X:List (BitVec 8)):Nat->Nat->List PsJ
 |_,0=>[]
 |j,k+1=>⟨Mj X j,Mj X (j+1),Mj X (j+2),Mj X (j+3)⟩::Uw X (j+4) k
theorem AN(X:List (BitVec 8)):∀(k j:Nat),Uw X j k=(s? k).map λi=>⟨Mj X (j+4*i),Mj X (j+1+4*i),Mj X (j+2+4*i),Mj X (j+3+4*i)⟩
 |0,j=>rfl
 |k+1,j=>by
  rw[Uw,AN X k,List.range_succ_eq_map,List.map_cons,List.map_map];simp only[Caj,Nat.add_zero];congr 1;apply List.map_congr_left;intro i _;simp only[Function.comp,Nat.succ_eq_add_one,Xai,Nat.mul_one];rw[show j+4+4*i=j+(4*i+4) by omega,show j+4+1+4*i=j+1+(4*i+4) by omega,show j+4+2+4*i=j+2+(4*i+4) by omega,show j+4+3+4*i=j+3+(4*i+4) by omega]
theorem GA(A:List (BitVec 8)) (a:Nat) (hA:A.length=8*a) (X:List (BitVec 8)):∀(k j:Nat),Uw (A++X) (a+j) k=Uw X j k
 |0,j=>rfl
 |k+1,j=>by
  simp only[Uw,lai,JZ A a hA];rw[GA A a hA X k]
theorem VG:∀(l:List PsJ) (X:List (BitVec 8)),(∀p∈l,p.Ok)->Uw (wb (l.flatMap xw)++X) 0 l.length=l
 |[],X,_=>rfl
 |p::l,X,h=>by
  have a:=h p p6;have hw:wb ((p::l).flatMap xw)++X=wb (xw p)++(wb (l.flatMap xw)++X):=by
   rw[Nag,iL,H!]
  rw[w!,Uw,hw];have e:=GA (wb (xw p)) 4 (by rw[Hh];rfl) (wb (l.flatMap xw)++X) l.length 0;rw[show 0+4=4+0 by rfl,e,VG l X λq hq=>h q (by simp[hq])];simp only[xw];rw[ql a.d,Fu,ql a.m,Fu,Fu,ql a.k,Fu,Fu,Fu,ql a.c]
theorem jW(r:R!) (h:r.Ok) (X:List (BitVec 8)):oo (Qg r++X) r.ps.length=r:=by
 have hw:Qg r++X=wb (sH r)++(wb (r.ps.flatMap xw)++X):=by rw[Qg,H!]
 have q:rH (Qg r++X) r.ps.length=r.ps:=by
  have e:=GA (wb (sH r)) 9 (by rw[Hh];rfl) (wb (r.ps.flatMap xw)++X) r.ps.length 0;rw[VG _ _ h.ps,←hw,AN]at e;exact e
 unfold oo;rw[q,hw];obtain⟨a,b,c,d,e,f,g,i,ps⟩:=r;obtain⟨j,h2,k,l,m,n,o,p,_,_⟩:=h;simp only[sH];simp only[Fu,ql j,ql h2,ql k,ql l,ql m,ql n,ql o,ql p]
theorem S9(r:R!) (hk:r.ps.length<=4096) (X:List (BitVec 8)):Mj (Qg r++X) 8=(a00 r.ps:Int):=by
 have hw:Qg r++X=wb (sH r)++(wb (r.ps.flatMap xw)++X):=by rw[Qg,H!]
 rw[hw];simp only[sH,Fu];exact ql (by unfold su;omega) _ _
theorem pB(r:R!) (h:r.Ok) (hk:r.ps.length<=4096) (X:List (BitVec 8)):C' (xm r++X) r.ps.length/\oo ((xm r++X).drop 4) r.ps.length=r:=by
 have a:(xm r++X).drop 4=Qg r++(Yc 4 (Wj (Qg r)).toNat++X):=by
  unfold xm;rw[H!,H!,List.drop_append_of_le_length (by rw[Zb];omega),zah (by rw[Zb];omega),G?]
 have hc:=(Wj (Qg r)).isLt;refine⟨⟨by rw[G!,mg];omega,?_,hk,by rw[G!,mg];omega,?_,?_⟩,?_⟩
 .unfold xm;rw[H!,H!,Zag (by rw[Zb];omega),Ψ (by rw[Zb];omega),uv,Bah U]
 .rw[a,Zag (by rw[xv];omega),Ψ (by rw[xv];omega)];rw[show 76+32*a00 r.ps=4+(72+32*a00 r.ps) by omega,←List.drop_drop,a,←xv r,rai,Zag (by rw[Zb];omega),Ψ (by rw[Zb];omega),uv,Bah U]
 .rw[a];exact S9 r hk _
 .rw[a];exact jW r h _
def Me(l:List R!):List (BitVec 8):=l.flatMap xm
theorem uC(k:Nat):¬C' [] k:=λh=>by have:=h.len4;simp at this
theorem QP:∀{l:List R!},(∀r∈l,r.Ok/\r.ps.length<=4096)->Qq (Me l) l (Me l).length
 |[],_=>⟨rfl,uC⟩
 |r::l,h=>by
  obtain⟨b,h2⟩:=h r p6;obtain⟨g1,g2⟩:=pB r b h2 (Me l);have hd:(Me (r::l)).drop (80+32*a00 r.ps)=Me l:=by
   rw[Me,Nag,←Me,←mg r,rai]
  refine⟨a00 r.ps,g1,g2.symm,?_,?_⟩
  .rw[Me,Nag,G!,mg];omega
  .have a:(Me (r::l)).length=80+32*a00 r.ps+(Me l).length:=by
    rw[show Me (r::l)=xm r++Me l from rfl,G!,mg]
   rw[hd,a,Nat.add_sub_cancel_left];exact QP λq hq=>h q (by simp[hq])
def UK:List R!->Nat->Nat×Nat
 |[],_=>(0,0)
 |r::l,n=>if 80+32*a00 r.ps<=n then((UK l (n-(80+32*a00 r.ps))).1+1,(UK l (n-(80+32*a00 r.ps))).2+(80+32*a00 r.ps))else(0,0)
theorem ZL:∀{l:List R!}{n:Nat},(∀r∈l,r.Ok/\r.ps.length<=4096)->Qq ((Me l).take n) (l.take (UK l n).1) (UK l n).2
 |[],n,_=>by
  simp only[Me,hai,List.take_nil,UK];exact⟨rfl,uC⟩
 |r::l,n,h=>by
  obtain⟨d,h2⟩:=h r p6;have hl:Me (r::l)=xm r++Me l:=by rw[Me,Nag,←Me]
  rw[hl,UK];by_cases hn:80+32*a00 r.ps<=n
  .rw[J hn];have a:(xm r++Me l).take n=xm r++(Me l).take (n-(80+32*a00 r.ps)):=by
    rw[List.take_append,mg,Ψ (by rw[mg];omega)]
   obtain⟨g1,g2⟩:=pB r d h2 ((Me l).take (n-(80+32*a00 r.ps)));simp only[List.take_succ_cons];rw[a];refine⟨a00 r.ps,g1,g2.symm,U,?_⟩;rw[←mg r,rai,mg,Nat.add_sub_cancel];exact ZL λq hq=>h q (by simp[hq])
  .rw[s7 hn];simp only[List.take_zero];refine⟨rfl,λk hk=>?_⟩;have a:(xm r++Me l).take n=(xm r).take n:=by
    rw[Zag (by rw[mg];omega)]
   rw[a]at hk;have e:=hk.len4;have b:=hk.len;rw[U',mg]at e b;have c:=hk.n;rw[List.take_take,qag U]at c;have g1:=(pB r d h2 []).1.n;rw[R?]at g1;omega
end Go.Proofs.Dev
