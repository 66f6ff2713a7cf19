/-
  Contracts by hand: the conditions stand in each.
-/
import Derived.Test.YtadinajclolmnaaGreatDoorL2
import Derived.Test.YtadinajclolmnaaGreatDoorG
open Option renaming some->M
open Go.Tm.D renaming dead->a!
open Go.Tm.Ent renaming live->i?
open Go.Proofs.Tryz renaming prog->al
open Bool renaming and_true->Y',false_or->η,not_false->Κ,not_true->Z?,or_false->ζ,or_self->ε,or_true->δ,true_and->X?,true_or->γ
open Classical renaming not_not->E!
open Int renaming reduceEq->l!,reduceLE->K!,reduceLT->q',reducePow->K?,reduceToNat->L?,tdiv_eq_ediv_of_nonneg->Qag,tmod_eq_emod_of_nonneg->iah
open Int.ofNat renaming inj->qaj
open List renaming append_assoc->H!,cons_append->B',drop->Φ,drop_drop->Mag,drop_take->Maj,getD_cons_succ->P?,getD_cons_zero->U!,length_append->G!,length_cons->w!,length_drop->Δ,length_nil->A?,length_take->U',map_append->ψ,map_congr_left->cag,map_cons->w?,map_map->Cah,map_nil->D!,mem_cons->X',nil_append->G?,not_mem_nil->pah,replicate->h!,set_cons_succ->Μ,set_cons_zero->Ω,singleton_append->tai,take->kah,take_of_length_le->Ψ,take_succ_cons->Χ,take_take->jaj,take_zero->Bag,length->a00
open Nat renaming add_assoc->lai,le_of_eq->Aaj,lt_or_ge->Ο,min_eq_left->qag,reduceAdd->l?,reduceEqDiff->o!,reduceLT->J?,reduceLeDiff->L!,reducePow->H?,reduceSub->n!,sub_zero->Rah,succ_ne_self->κ,zero_add->Z!,zero_le->Q?
open Option renaming map_none->θ,map_some->Β
set_option linter.all false
set_option maxHeartbeats 2000000
set_option maxRecDepth 10000
namespace Go.Proofs.Dev
open Go Go.Tm
def Aq:D:=.agg [Ka 0,Ka 0,Ka 0,Ka 0,Ka 0,Ka 0,Ka 0,Ka 0,uE]
def aac:D:=.tup [Aq,Ka 0,.v (.bool false)]
def TT(bs:List (BitVec 8)) (k:Nat):D:=.tup [Gz (oo (bs.drop 4) k),Ka (80+32*k:Nat),.v (.bool true)]
theorem fv(n:Nat) (bs:List (BitVec 8)):kah n (za bs)=za (bs.take n):=by simp[za,List.map_take]
theorem Hl(n:Nat) (bs:List (BitVec 8)):Φ n (za bs)=za (bs.drop n):=by simp[za,List.map_drop]
theorem aJ4(bs:List (BitVec 8)) (hlen:bs.length<2 ^ 63) (m:List Ent):CallT al 54 [.sl 1 (za bs)] m λd m'=>d=Ka (Wj bs).toNat/\m'=m:=
 (Cp (R:=λd=>d=Ka (Wj bs).toNat) 3 aaR ((bf7 bs hlen).mono λd m' h=>by rw[h];rfl) m).mono λ_ _ h=>⟨h.1.1,h.2⟩
theorem ad4(L:List (BitVec 8)):vo (Rh (kah 8 L))=Mj L 0/\vo (Rh (kah 8 (Φ 8 L)))=Mj L 1/\vo (Rh (kah 8 (Φ 16 L)))=Mj L 2/\vo (Rh (kah 8 (Φ 24 L)))=Mj L 3
 /\vo (Rh (kah 8 (Φ 32 L)))=Mj L 4/\vo (Rh (kah 8 (Φ 40 L)))=Mj L 5/\vo (Rh (kah 8 (Φ 48 L)))=Mj L 6/\vo (Rh (kah 8 (Φ 56 L)))=Mj L 7/\vo (Rh (kah 8 (Φ 64 L)))=Mj L 8:=
 ⟨by simp[Mj],rfl,rfl,rfl,rfl,rfl,rfl,rfl,rfl⟩
def z8(bs:List (BitVec 8)) (d:D) (m':List Ent):Prop:=(∃k,C' bs k/\ob 5 m' d=TT bs k)\/((∀k,¬C' bs k)/\ob 5 m' d=aac)
theorem aZ1(bs:List (BitVec 8)) (hlen:bs.length<2 ^ 62):CallT al 34 [.sl 1 (za bs)] [] (z8 bs):=by
 refine Lb k34.ok k34.nm (Z.T Ie ?_);simp only[k34,Kf.of,Ya,zc,Tm.part,L!,J?,K!,L?,H?,K?,D.Xb,Pa,Wa,bound,Ta,Tm.zz,d!,undef,Ee,q',C.Jf,C.va,oa,c!,d?,ba,St.ev,St.put,h!,n!,l?,Fa,pa,qa,Sa,D.ok,D.cells,one,reduceCtorEq,o!,l!];refine gP.mk (λh=>?_) (λh=>?_)
 .refine .inr ⟨λk hk=>?_,rfl⟩;have:=hk.len4;omega
 .refine La (yY _ 2 0 bs rfl (by simp[Ent.below,f?,below,ua,bb,Dq,Ba]) U) ?_;have hn32:=Yy (bs.take 4);rw[U',qag U]at hn32;obtain⟨n,hn⟩:∃n,Rh (bs.take 4)=n:=⟨_,rfl⟩;rw[hn]at hn32⊢;by_cases hA:∃k,n=72+32*k/\k<=4096
  .obtain⟨k,rfl,hk⟩:=hA;have e1:¬(((72+32*k:Nat):Int)<72):=U
   have e2:aa .i64 (((72+32*k:Nat):Int)-72)=((32*k:Nat):Int):=by rw[De U];omega
   have e3:Int.tmod ((32*k:Nat):Int) 32=0:=by rw[iah U];omega
   have e4:Int.tdiv ((32*k:Nat):Int) 32=(k:Int):=by rw[Qag U];omega
   have e5:¬((4096:Int)<(k:Int)):=U
   have e6:aa .i64 (k:Int)=(k:Int):=De U;have e7:aa .i64 (((72+32*k:Nat):Int)+4)=((76+32*k:Nat):Int):=by rw[De U];omega
   rcases Ο (a00 bs-4) (76+32*k)with h2|h2
   .simp only[Tm.zz,d!,undef,Ee,q',C.Jf,C.va,oa,c!,d?,ba,St.ev,St.put,h!,n!,l?,Fa,pa,qa,Sa,D.ok,D.cells,one,reduceCtorEq,o!,l!,zc,Tm.part,L!,J?,K!,L?,H?,K?,D.Xb,Pa,Wa,bound,Ta,Ka,e1,e2,e3,e4,e5,e6,e7,Ya,Gs,Δ,h2];refine .inr ⟨λk' hk'=>?_,rfl⟩;have h3:=hk'.n;have h4:=hk'.len;omega
   .have h2':¬bs.length-4<76+32*k:=U
    have h3:72+32*k<=a00 bs-4:=U
    have htake:kah (a00 bs-4-(72+32*k)) (Φ (72+32*k) (Φ 4 bs))=bs.drop (76+32*k):=by
     rw[Ψ (by simp only[Δ];omega),Mag,show 4+(72+32*k)=76+32*k by omega]
    simp only[Tm.zz,d!,undef,Ee,q',C.Jf,C.va,oa,c!,d?,ba,St.ev,St.put,h!,n!,l?,Fa,pa,qa,Sa,D.ok,D.cells,one,reduceCtorEq,o!,l!,zc,Tm.part,L!,J?,K!,L?,H?,K?,D.Xb,Pa,Wa,bound,Ta,Ka,e1,e2,e3,e4,e5,e6,e7,Ya,Gs,Δ,h2',h3,Q?,Rah,fv,Hl,htake];refine La (aJ4 _ aaQ _) ?_;simp only[Tm.zz,d!,undef,Ee,q',C.Jf,C.va,oa,c!,d?,ba,St.ev,St.put,h!,n!,l?,Fa,pa,qa,Sa,D.ok,D.cells,one,reduceCtorEq,o!,l!,zc,Tm.part,L!,J?,K!,L?,H?,K?,D.Xb,Pa,Wa,bound,Ta,Ka];refine La (yY _ 3 0 _ rfl (by simp[Ent.below,f?,below,ua,bb,Dq,Ba]) aaQ) ?_;simp only[Tm.zz,d!,undef,Ee,q',C.Jf,C.va,oa,c!,d?,ba,St.ev,St.put,h!,n!,l?,Fa,pa,qa,Sa,D.ok,D.cells,one,reduceCtorEq,o!,l!,zc,Tm.part,L!,J?,K!,L?,H?,K?,D.Xb,Pa,Wa,bound,Ta,Ka];refine gP.mk (λh4=>?_) (λh4=>?_)
    .refine .inr ⟨λk' hk'=>h4 ?_,rfl⟩;have h5:=hk'.n;obtain rfl:k'=k:=U
     rw[hk'.crc]
    .obtain⟨L,hL⟩:∃L,bs.drop 4=L:=⟨_,rfl⟩;rw[hL];have hLl:L.length=a00 bs-4:=by rw[←hL];simp
     obtain⟨rs,hrs⟩:∃rs:List (Nat×Nat),[(1,0),(1,1),(1,2),(1,3),(1,4),(1,5),(1,6),(1,7),(4,0)]=rs:=⟨_,rfl⟩;refine La (lY _ 2 5 rs L ?_ (by rw[←hrs];simp;omega) (by rw[←hrs];simp)) ?_
     .refine⟨rfl,by rw[←hrs];rfl,s6,by simp[Ent.below,f?,below,ua,bb,Dq,Ba],?_⟩;intro p hp;simp only[←hrs,X',pah,or_false]at hp;rcases hp with rfl|rfl|rfl|rfl|rfl|rfl|rfl|rfl|rfl<;>first|exact⟨s6,s6,9,_,rfl,.inl ⟨_,rfl,s6⟩⟩|exact⟨s6,s6,1,_,rfl,.inr ⟨0,rfl,rfl⟩⟩
     .obtain⟨w0,w1,w2,w3,w4,w5,w6,w7,w8⟩:=ad4 L;simp only[←hrs,Xn,wC,UL,Tm.zz,d!,undef,Ee,q',C.Jf,C.va,oa,c!,d?,ba,St.ev,St.put,h!,n!,l?,Fa,pa,qa,Sa,D.ok,D.cells,one,reduceCtorEq,o!,l!,zc,Tm.part,L!,J?,K!,L?,H?,K?,D.Xb,Pa,Wa,bound,Ta,Ka,Mag,l?,List.headD_cons,w0,w1,w2,w3,w4,w5,w6,w7,w8];refine gP.mk (λh5=>?_) (λh5=>?_)
      .refine .inr ⟨λk' hk'=>h5 ?_,rfl⟩;have h6:=hk'.n;obtain rfl:k'=k:=U
       have h7:=hk'.iF;rw[hL]at h7;exact h7
      .refine T.rI 4 (pk.refl _ _) (m':=[i? 9 0 [Aq],i? 9 0 [.agg [Ka (Mj L 0),Ka (Mj L 1),Ka (Mj L 2),Ka (Mj L 3),Ka (Mj L 4),Ka (Mj L 5),Ka (Mj L 6),Ka (Mj L 7),.own 6 0]],i? 1 0 [.agg [.sl 1 (za (L.drop 72))]],
        i? 1 0 [.agg [.sl 1 (za (Φ (76+32*k+4) bs))]],i? 1 0 [Ka (Mj L 8)],i? 1 0 [.ref 1 0 0 0,.ref 1 0 0 1,.ref 1 0 0 2,.ref 1 0 0 3,.ref 1 0 0 4,.ref 1 0 0 5,.ref 1 0 0 6,.ref 1 0 0 7,.ref 4 0 0 0]]) ?_ ?_
       .refine Kv.cons (tD.refl _ _) (Kv.cons (tD.live (pk.cons (Ad.agg ?_) (pk.refl _ _))) (Kv.refl _ _));exact pk.cons (Ad.refl _ _) (pk.cons (Ad.refl _ _) (pk.cons (Ad.refl _ _) (pk.cons (Ad.refl _ _) (pk.cons (Ad.refl _ _) (pk.cons (Ad.refl _ _) (pk.cons (Ad.refl _ _) (pk.cons (Ad.refl _ _) (pk.cons (Ad.nil _) (pk.refl _ _)))))))))
       simp only[Tm.zz,d!,undef,Ee,q',C.Jf,C.va,oa,c!,d?,ba,St.ev,St.put,h!,n!,l?,Fa,pa,qa,Sa,D.ok,D.cells,one,reduceCtorEq,o!,l!];generalize (Φ (76+32*k+4) bs)=L3;clear w0 w1 w2 w3 w4 w5 w6 w7 w8;refine T.LB k (λj=>⟨[a!,a!,.ref 0 0 0 0,a!,a!,.ref 1 0 0 0,.ref 2 0 0 0,.v (.int .i64 (72+32*k:Nat)),a!,a!,a!,a!,a!,a!,a!,a!,a!,a!,a!,a!,a!,a!,a!,a!,a!,a!,a!,a!,a!,a!,a!,a!,a!,a!,a!,a!,a!,a!,a!,a!,a!,a!,a!,a!,a!,a!,a!,a!,a!,a!,a!,a!,a!,a!,a!,a!,a!,a!,a!,a!,a!,a!,a!,a!,a!,a!,a!,a!,a!,a!,a!,a!,a!,a!,a!,a!,a!,a!,a!,a!,a!,a!,a!,a!,a!,a!,a!,a!,a!,a!,a!,a!,a!,.v (.int .i64 k),.v (.int .i64 j),a!,a!,a!,a!,a!,a!,a!,a!,a!,a!,a!,a!,a!,a!,a!,a!,a!,a!,a!,a!],
        [i? 9 0 [Aq],i? 9 0 [.agg [Ka (Mj L 0),Ka (Mj L 1),Ka (Mj L 2),Ka (Mj L 3),Ka (Mj L 4),Ka (Mj L 5),Ka (Mj L 6),Ka (Mj L 7),.own 6 j]],i? 1 0 [.agg [.sl 1 (za (L.drop (72+32*j)))]],
         i? 1 0 [.agg [.sl 1 (za L3)]],i? 1 0 [Ka (Mj L 8)],i? 1 0 [.ref 1 0 0 0,.ref 1 0 0 1,.ref 1 0 0 2,.ref 1 0 0 3,.ref 1 0 0 4,.ref 1 0 0 5,.ref 1 0 0 6,.ref 1 0 0 7,.ref 4 0 0 0],
         i? 4 j ((rH L j).map I5)]⟩) ?_ ?_ ?_ aaJ ?_
       .exact At.same _ _ _ B!
       .intro j hj;exact⟨p6,by simp[f?,below],by simp[Ent.below,f?,below,ua,Ba,Qm,Ka,Aq,uE]⟩
       .intro j hj;refine Z.T Ie ?_;rcases Ο j k with hjk|hjk
        .simp only[Tm.zz,d!,undef,Ee,q',C.Jf,C.va,oa,c!,d?,ba,St.ev,St.put,h!,n!,l?,Fa,pa,qa,Sa,D.ok,D.cells,one,reduceCtorEq,o!,l!,zc,Tm.part,L!,J?,K!,L?,H?,K?,D.Xb,Pa,Wa,bound,Ta,Gs,hjk,Ka];obtain⟨rs4,hrs4⟩:∃rs:List (Nat×Nat),[(7,0),(7,1),(7,2),(7,3)]=rs:=⟨_,rfl⟩;refine La (lY _ 2 8 rs4 (L.drop (72+32*j)) ?_ (by rw[←hrs4];simp only[w!,A?,Δ];omega) (by rw[←hrs4];simp)) ?_
         .refine⟨rfl,by rw[←hrs4];rfl,s6,by simp[Ent.below,f?,below,ua,Ba,Qm,Aq,Ka,uE],?_⟩;intro p hp;simp only[←hrs4,X',pah,or_false]at hp;rcases hp with rfl|rfl|rfl|rfl<;>exact⟨s6,s6,4,_,rfl,.inl ⟨_,rfl,s6⟩⟩
         .obtain⟨x0,x1,x2,x3⟩:=aH4 L j;simp only[←hrs4,Xn,wC,UL,Tm.zz,d!,undef,Ee,q',C.Jf,C.va,oa,c!,d?,ba,St.ev,St.put,h!,n!,l?,Fa,pa,qa,Sa,D.ok,D.cells,one,reduceCtorEq,o!,l!,zc,Tm.part,L!,J?,K!,L?,H?,K?,D.Xb,Pa,Wa,bound,Ta,Ka,Mag,l?,lai,WA j U,hjk,jK]at x0 x1 x2 x3⊢;simp only[x0,x1,x2,x3];refine⟨U,?_⟩;refine At.cut 7 B! ?_;simp only[BN,ψ,w?,D!];rw[show 72+(32*j+32)=72+32*(j+1) by omega];rfl
        .obtain rfl:j=k:=U
         simp only[Tm.zz,d!,undef,Ee,q',C.Jf,C.va,oa,c!,d?,ba,St.ev,St.put,h!,n!,l?,Fa,pa,qa,Sa,D.ok,D.cells,one,reduceCtorEq,o!,l!,zc,Tm.part,L!,J?,K!,L?,H?,K?,D.Xb,Pa,Wa,bound,Ta,Gs,Nat.lt_irrefl];exact At.same _ _ _ B!
       .simp only[Tm.zz,d!,undef,Ee,q',C.Jf,C.va,oa,c!,d?,ba,St.ev,St.put,h!,n!,l?,Fa,pa,qa,Sa,D.ok,D.cells,one,reduceCtorEq,o!,l!];refine Z.T Ie ?_;simp only[Tm.zz,d!,undef,Ee,q',C.Jf,C.va,oa,c!,d?,ba,St.ev,St.put,h!,n!,l?,Fa,pa,qa,Sa,D.ok,D.cells,one,reduceCtorEq,o!,l!,zc,Tm.part,L!,J?,K!,L?,H?,K?,D.Xb,Pa,Wa,bound,Ta,Ka,Aq,uE];refine .inl ⟨k,⟨U,hn,hk,U,?_,by rw[hL];exact E!.1 h5⟩,?_⟩
        .have h9:=E!.1 h4;rw[hL]at h9⊢;exact qaj h9
        .rw[De (n:=(4:Int)+((72+32*k:Nat):Int)) U,De U,TT,hL];simp only[bE,GR,yJ,w?,D!];rw[mA rfl (Qm _),show(4:Int)+((72+32*k:Nat):Int)+4=((80+32*k:Nat):Int) by omega];rfl
  .simp only[Tm.zz,d!,undef,Ee,q',C.Jf,C.va,oa,c!,d?,ba,St.ev,St.put,h!,n!,l?,Fa,pa,qa,Sa,D.ok,D.cells,one,reduceCtorEq,o!,l!,zc,Tm.part,L!,J?,K!,L?,H?,K?,D.Xb,Pa,Wa,bound,Ta,Ka];have none':∀m',ob 5 m' (.tup [Aq,Ka 0,.v (.bool false)])=aac->z8 bs (.tup [Aq,Ka 0,.v (.bool false)]) m':=λm' h'=>.inr ⟨λk hk=>hA ⟨k,by rw[←hn];exact hk.n,hk.k4⟩,h'⟩;refine gP.mk (λh1=>gP.mk (λh2=>gP.mk (λh3=>none' _ rfl) (λh3=>?_)) (λh2=>none' _ rfl)) (λh1=>none' _ rfl);exfalso;rw[De (n:=(n:Int)-72) U]at h2 h3;rw[iah U]at h2;rw[Qag U,De U]at h3;exact hA ⟨(n-72) / 32,U,U⟩
def Dac(l:List R!):D:=.sl 9 (l.map Gz)
theorem vy:∀l:List R!,ea (l.map Gz)=true
 |[]=>rfl
 |p::l=>by simp only[w?,ea,Bool.and_eq_true];exact⟨FA p,vy l⟩
def Cac(r:R!):∃l,Gz r=.agg l/\l.length=9:=⟨_,rfl,rfl⟩
def PI(l:List R!) (n:Nat):D:=.tup [Dac l,Ka n]
theorem aw8(bs:List (BitVec 8)) (hlen:bs.length<2 ^ 62) (m:List Ent):CallT al 34 [.sl 1 (za bs)] m λd m'=>((∃k,C' bs k/\d=TT bs k)\/((∀k,¬C' bs k)/\d=aac))/\m'=m:=
 (Cp (R:=λd=>(∃k,C' bs k/\d=TT bs k)\/((∀k,¬C' bs k)/\d=aac)) 5 aaR (aZ1 bs hlen) m).mono λ_ _ h=>⟨h.1.1,h.2⟩
theorem aZ2(bs:List (BitVec 8)) (hlen:bs.length<2 ^ 40):CallT al 15 [.sl 1 (za bs)] [] λd m'=>∃l n,Qq bs l n/\ob 5 m' d=PI l n:=by
 refine Lb k15.ok k15.nm (Z.T Ie ?_);simp only[k15,Kf.of,Tm.zz,d!,undef,Ee,q',C.Jf,C.va,oa,c!,d?,ba,St.ev,St.put,h!,n!,l?,Fa,pa,qa,Sa,D.ok,D.cells,one,reduceCtorEq,o!,l!];refine T.Mv 4 9 rfl ?_;simp only[Tm.zz,d!,undef,Ee,q',C.Jf,C.va,oa,c!,d?,ba,St.ev,St.put,h!,n!,l?,Fa,pa,qa,Sa,D.ok,D.cells,one,reduceCtorEq,o!,l!];refine T.zL (X:=List R!×Nat) (λx=>⟨[.sl 1 (za bs),a!,a!,a!,.own 0 x.1.length,.v (.int .i64 x.2),a!,a!,a!,a!,a!,a!,a!,a!,a!,a!,a!,a!,a!,a!,a!,a!,a!,a!,a!,a!,a!,a!],[i? 9 x.1.length (x.1.map Gz)]⟩)
  (λx=>x.2<=a00 bs/\80*a00 x.1<=x.2/\∀l' n',Qq (bs.drop x.2) l' n'->Qq bs (x.1++l') (x.2+n')) (λ_=>False) (λx=>bs.length-x.2) ([],0) ⟨Q? _,p6,λl' n' h=>by simpa using h⟩ ?_ ?_ ?_ (λ⟨_,h⟩=>h.elim) (λ_ h=>h.elim)
 .exact At.same _ _ _ B!
 .intro y hy;exact⟨p6,by simp[Ent.below,f?,below,ua,bb,Dq,Ba],by simp[Ent.below,ua,vy]⟩
 .rintro⟨l,tot⟩ ⟨h1,h2,h3⟩;simp only at h1 h2 h3;refine Z.T Ie ?_;simp only[Tm.zz,d!,undef,Ee,q',C.Jf,C.va,oa,c!,d?,ba,St.ev,St.put,h!,n!,l?,Fa,pa,qa,Sa,D.ok,D.cells,one,reduceCtorEq,o!,l!,zc,Tm.part,L!,J?,K!,L?,H?,K?,D.Xb,Pa,Wa,bound,Ta,Ya,h1,Hl,List.take_length];rw[Ψ (by rw[Ya,Δ];omega)];refine cr (aw8 (bs.drop tot) a19 _) ?_;rintro d m' ⟨⟨k,hk,rfl⟩|⟨hk,rfl⟩,rfl⟩
  .have hkl:=hk.len;rw[Δ]at hkl;obtain⟨c,hc,hc9⟩:=Cac (oo ((bs.drop tot).drop 4) k);simp only[TT,hc,Tm.zz,d!,undef,Ee,q',C.Jf,C.va,oa,c!,d?,ba,St.ev,St.put,h!,n!,l?,Fa,pa,qa,Sa,D.ok,D.cells,one,reduceCtorEq,o!,l!,zc,Tm.part,L!,J?,K!,L?,H?,K?,D.Xb,Pa,Wa,bound,Ta,Ka,hc9];simp only[Ψ (Aaj hc9),List.drop_of_length_le (Aaj hc9),hc9,Tm.zz,d!,undef,Ee,q',C.Jf,C.va,oa,c!,d?,ba,St.ev,St.put,h!,n!,l?,Fa,pa,qa,Sa,D.ok,D.cells,one,reduceCtorEq,o!,l!,zc,Tm.part,L!,J?,K!,L?,H?,K?,D.Xb,Pa,Wa,bound,Ta];refine⟨U,(l++[oo ((bs.drop tot).drop 4) k],tot+(80+32*k)),⟨by simp only;omega,by simp only[G!,w!,A?];omega,?_⟩,by simp only;omega,?_⟩
   .intro l' n' hd;simp only at hd⊢;rw[H!,tai,lai];refine h3 _ _ ⟨k,hk,rfl,U,?_⟩;rw[Mag,show 80+32*k+n'-(80+32*k)=n' by omega];exact hd
   .rw[De U,show(tot:Int)+((80+32*k:Nat):Int)=((tot+(80+32*k):Nat):Int) by omega];refine At.cut 1 ?_ ?_
    .simp only[G!,w!,A?,Z!]
     repeat (first|exact fa.Da _|refine fa.cons (k?.refl _) ?_|refine fa.cons (k?.wa _) ?_)
    .simp only[ψ,w?,D!,hc,G!,w!,A?,Z!,Χ,Bag]
  .simp only[aac,Aq,uE,Tm.zz,d!,undef,Ee,q',C.Jf,C.va,oa,c!,d?,ba,St.ev,St.put,h!,n!,l?,Fa,pa,qa,Sa,D.ok,D.cells,one,reduceCtorEq,o!,l!,zc,Tm.part,L!,J?,K!,L?,H?,K?,D.Xb,Pa,Wa,bound,Ta,Ka];refine⟨l,tot,?_,?_⟩
   .have:=h3 [] 0 ⟨rfl,hk⟩;simpa using this
   .rw[bE,w?,w?,D!,mA rfl (vy _),yJ];rfl
theorem aw9(bs:List (BitVec 8)) (hlen:bs.length<2 ^ 40) (m:List Ent):CallT al 15 [.sl 1 (za bs)] m λd m'=>(∃l n,Qq bs l n/\d=PI l n)/\m'=m:=
 (Cp (R:=λd=>∃l n,Qq bs l n/\d=PI l n) 5 aaR (aZ2 bs hlen) m).mono λ_ _ h=>⟨h.1.1,h.2⟩
theorem ak3(bs:List (BitVec 8)) (hlen:bs.length<2 ^ 63):CallT al 65 [.sl 1 (za bs)] [] λd m'=>d=Ka (Wj bs).toNat:=by
 refine Lb k65.ok k65.nm (Y.T ?_);simp only[k65,Kf.of,Xr,Um,ig,Y,C.loops,ζ,η,δ,γ,ε,d?,ba,St.ev,St.put,Wc,P?,U!,B',G?,h!,
 w!,A?,n!,l?,Μ,Ω,w?,D!,Β,θ,←ug,Fa,ι,cond_true,cond_false,B?,G1,
 R2,decide_eq_false_iff_not,pa,X?,Y',qa,Sa,D.ok,D.cells,one,reduceCtorEq,o!,κ,Z?,Κ,←Qb,l!,ο,T!,beq_eq_false_iff_ne,ne_eq]
 refine T.seq (Y.T ?_);simp only[Xr,Um,ig,Y,C.loops,ζ,η,δ,γ,ε,d?,ba,St.ev,St.put,Wc,P?,U!,B',G?,h!,
 w!,A?,n!,l?,Μ,Ω,w?,D!,Β,θ,←ug,Fa,ι,cond_true,cond_false,B?,G1,
 R2,decide_eq_false_iff_not,pa,X?,Y',qa,Sa,D.ok,D.cells,one,reduceCtorEq,o!,κ,Z?,Κ,←Qb,l!,ο,T!,beq_eq_false_iff_ne,ne_eq]
 refine T.FU (S:=gX bs) (Ql:=λp=>p.1<=a00 bs/\bs.foldl fx 4294967295#32=(bs.drop p.1).foldl fx p.2) (fin:=λp=>bs.foldl fx 4294967295#32=p.2) (μ:=λp=>bs.length-p.1) (0,4294967295#32) ⟨Q? _,rfl⟩ ?_ rfl ?_ ?_ (λ_ h=>h) ?_
 .exact fa.Da _
 .intro y _;exact nY rfl rfl (by simp[gX,ea,sa,Lz,Ka,Ba])
 .rintro⟨i,r⟩ ⟨hi,hr⟩;simp only at hi hr;refine Y.T ?_;simp only[gX,Lz,Ka,Xr,Um,ig,Y,C.loops,ζ,η,δ,γ,ε,d?,ba,St.ev,St.put,Wc,P?,U!,B',G?,h!,
 w!,A?,n!,l?,Μ,Ω,w?,D!,Β,θ,←ug,Fa,ι,cond_true,cond_false,B?,G1,
 R2,decide_eq_false_iff_not,pa,X?,Y',qa,Sa,D.ok,D.cells,one,reduceCtorEq,o!,κ,Z?,Κ,←Qb,l!,ο,T!,beq_eq_false_iff_ne,ne_eq]
  refine⟨λh=>?_,λh=>⟨trivial,(i,r),?_,?_,[],rfl⟩⟩
  .have hlt:i<a00 bs:=by rw[Ya]at h;omega
   refine T.seq (T.block (Y.T ?_));simp only[Xr,Um,ig,Y,C.loops,ζ,η,δ,γ,ε,d?,ba,St.ev,St.put,Wc,P?,U!,B',G?,h!,
 w!,A?,n!,l?,Μ,Ω,w?,D!,Β,θ,←ug,Fa,ι,cond_true,cond_false,B?,G1,
 R2,decide_eq_false_iff_not,pa,X?,Y',qa,Sa,D.ok,D.cells,one,reduceCtorEq,o!,κ,Z?,Κ,←Qb,l!,ο,T!,beq_eq_false_iff_ne,ne_eq,Int.toNat_natCast,Ew hlt,Int.natCast_nonneg,sM,ow]
   refine T.FU (S:=az5 bs i) (Ql:=λp=>p.1<=8/\fx r bs[i]=Gl (8-p.1) p.2) (fin:=λp=>fx r bs[i]=p.2) (μ:=λp=>8-p.1) (0,r ^^^ BitVec.zeroExtend 32 bs[i]) ⟨Q? _,rfl⟩ ?_ rfl ?_ ?_ (λ_ h=>h) ?_
   .repeat (first|exact fa.Da _|refine fa.cons (k?.refl _) ?_|refine fa.cons (k?.wa _) ?_)
   .intro y _;exact nY rfl rfl (by simp[az5,ea,sa,Lz,Ka,Ba])
   .rintro⟨k,q⟩ ⟨hk,hq⟩;simp only at hk hq;refine Y.T ?_;simp only[az5,Lz,Ka,Xr,Um,ig,Y,C.loops,ζ,η,δ,γ,ε,d?,ba,St.ev,St.put,Wc,P?,U!,B',G?,h!,
 w!,A?,n!,l?,Μ,Ω,w?,D!,Β,θ,←ug,Fa,ι,cond_true,cond_false,B?,G1,
 R2,decide_eq_false_iff_not,pa,X?,Y',qa,Sa,D.ok,D.cells,one,reduceCtorEq,o!,κ,Z?,Κ,←Qb,l!,ο,T!,beq_eq_false_iff_ne,ne_eq,Xac,H4,D7]
    refine⟨λh8=>⟨λht=>⟨(k+1,Dw q),?_,?_,?_,[],rfl⟩,λht=>⟨(k+1,Dw q),?_,?_,?_,[],rfl⟩⟩,λh8=>⟨trivial,(k,q),?_,?_,[],rfl⟩⟩
    .refine⟨by simp only;omega,?_⟩;simp only;rw[hq,show 8-k=(8-(k+1))+1 by omega];rfl
    .simp only;omega
    .have hb:Dw q=(q / 2#32) ^^^ 0xEDB88320#32:=by unfold Dw;rw[J]
     simp only[hb];rw[GB U]
     repeat (first|exact fa.Da _|refine fa.cons (k?.refl _) ?_|refine fa.cons (k?.wa _) ?_)
    .refine⟨by simp only;omega,?_⟩;simp only;rw[hq,show 8-k=(8-(k+1))+1 by omega];rfl
    .simp only;omega
    .have hb:Dw q=(q / 2#32):=by unfold Dw;rw[s7]
     simp only[hb];rw[GB U]
     repeat (first|exact fa.Da _|refine fa.cons (k?.refl _) ?_|refine fa.cons (k?.wa _) ?_)
    .simp only;rw[hq,show 8-k=0 by omega];rfl
    .repeat (first|exact fa.Da _|refine fa.cons (k?.refl _) ?_|refine fa.cons (k?.wa _) ?_)
   .rintro⟨k,q⟩ hq;simp only at hq;refine Y.T ?_;simp only[az5,Lz,Ka,Xr,Um,ig,Y,C.loops,ζ,η,δ,γ,ε,d?,ba,St.ev,St.put,Wc,P?,U!,B',G?,h!,
 w!,A?,n!,l?,Μ,Ω,w?,D!,Β,θ,←ug,Fa,ι,cond_true,cond_false,B?,G1,
 R2,decide_eq_false_iff_not,pa,X?,Y',qa,Sa,D.ok,D.cells,one,reduceCtorEq,o!,κ,Z?,Κ,←Qb,l!,ο,T!,beq_eq_false_iff_ne,ne_eq]
    refine⟨(i+1,q),⟨hlt,?_⟩,?_,?_,[],rfl⟩
    .simp only;rw[hr,List.drop_eq_getElem_cons hlt,List.foldl_cons,hq]
    .simp only;omega
    .rw[GB U]
     repeat (first|exact fa.Da _|refine fa.cons (k?.refl _) ?_|refine fa.cons (k?.wa _) ?_)
  .simp only;have:bs.length<=i:=by rw[Ya]at h;omega
   rw[hr,List.drop_eq_nil_of_le this];rfl
  .repeat (first|exact fa.Da _|refine fa.cons (k?.refl _) ?_|refine fa.cons (k?.wa _) ?_)
 .rintro⟨i,r⟩ hr;simp only at hr;refine Y.T ?_;simp only[gX,Lz,Ka,Xr,Um,ig,Y,C.loops,ζ,η,δ,γ,ε,d?,ba,St.ev,St.put,Wc,P?,U!,B',G?,h!,
 w!,A?,n!,l?,Μ,Ω,w?,D!,Β,θ,←ug,Fa,ι,cond_true,cond_false,B?,G1,
 R2,decide_eq_false_iff_not,pa,X?,Y',qa,Sa,D.ok,D.cells,one,reduceCtorEq,o!,κ,Z?,Κ,←Qb,l!,ο,T!,beq_eq_false_iff_ne,ne_eq,B7]
  have hx:=(r ^^^ 4294967295#32).isLt;rw[GB U];refine⟨_,rfl,?_⟩;simp only[Wj,hr]
theorem KH(n:Nat) (bs:List (BitVec 8)) (hn:n<=a00 bs) (hn8:n<=8) (m:List Ent) :
 CallT al 64 [.sl 1 (za bs),.v (.int .i64 n)] m λd m'=>d=.v (.int .u64 (Rh (bs.take n):Nat))/\m'=m:=
 (Cp (R:=λd=>d=.v (.int .u64 (Rh (bs.take n):Nat))) 5 aaR ((aU7 n bs hn hn8).mono λ_ _ h=>by rw[h];rfl) m).mono λ_ _ h=>⟨h.1.1,h.2⟩
theorem Wac(bs:List (BitVec 8)) (hlen:bs.length<2 ^ 63) (m:List Ent):CallT al 65 [.sl 1 (za bs)] m λd m'=>d=Ka (Wj bs).toNat/\m'=m:=
 (Cp (R:=λd=>d=Ka (Wj bs).toNat) 3 aaR ((ak3 bs hlen).mono λd m' h=>by rw[h];rfl) m).mono λ_ _ h=>⟨h.1.1,h.2⟩
theorem Cad{x k:Nat}(hx:x<18446744073709551616) (hk:k<=4096):vo x=(k:Int)↔x=k:=by
 unfold vo;rw[Qb,IntKind.wrap_i64];omega
theorem aJ3(bs:List (BitVec 8)) (n:Nat) (h:72<=n):(((bs.drop 4).take n).drop 64).take 8=((bs.drop 4).drop 64).take 8:=by
 rw[Maj,jaj,qag U]
def ZP(bs:List (BitVec 8)) (d:D):Prop:=(∃k,C' bs k/\d=Ka (80+32*k:Nat))\/((∀k,¬C' bs k)/\d=Ka 0)
theorem aQ5(bs:List (BitVec 8)) (hlen:bs.length<2 ^ 62):CallT al 50 [.sl 1 (za bs)] [] λd m'=>ZP bs d:=by
 refine Lb k50.ok k50.nm (Z.T Ie ?_);simp only[k50,Kf.of,Ya,zc,Tm.part,L!,J?,K!,L?,H?,K?,D.Xb,Pa,Wa,bound,Ta,Tm.zz,d!,undef,Ee,q',C.Jf,C.va,oa,c!,d?,ba,St.ev,St.put,h!,n!,l?,Fa,pa,qa,Sa,D.ok,D.cells,one,reduceCtorEq,o!,l!];refine gP.mk (λh=>?_) (λh=>?_)
 .refine .inr ⟨λk hk=>?_,rfl⟩;have:=hk.len4;omega
 .refine La (KH 4 bs U U _) ?_;have hn32:=Yy (bs.take 4);rw[U',qag U]at hn32;obtain⟨n,hn⟩:∃n,Rh (bs.take 4)=n:=⟨_,rfl⟩;rw[hn]at hn32⊢;simp only[H?]at hn32;have e0:aa .i64 (n:Int)=(n:Int):=ab5 _ U;by_cases hA:∃k,n=72+32*k/\k<=4096
  .obtain⟨k,rfl,hk⟩:=hA;have e1:¬(((72+32*k:Nat):Int)<72):=U
   have e2:aa .i64 (((72+32*k:Nat):Int)-72)=((32*k:Nat):Int):=by rw[De U];omega
   have e3:Int.tmod ((32*k:Nat):Int) 32=0:=by rw[iah U];omega
   have e4:Int.tdiv ((32*k:Nat):Int) 32=(k:Int):=by rw[Qag U];omega
   have e5:¬((4096:Int)<(k:Int)):=U
   have e6:aa .i64 (k:Int)=(k:Int):=De U;have e7:aa .i64 (((72+32*k:Nat):Int)+4)=((76+32*k:Nat):Int):=by rw[De U];omega
   have e8:aa .i64 (((72+32*k:Nat):Int)+8)=((80+32*k:Nat):Int):=by rw[De U];omega
   rcases Ο bs.length (80+32*k)with h2|h2
   .simp only[Tm.zz,d!,undef,Ee,q',C.Jf,C.va,oa,c!,d?,ba,St.ev,St.put,h!,n!,l?,Fa,pa,qa,Sa,D.ok,D.cells,one,reduceCtorEq,o!,l!,zc,Tm.part,L!,J?,K!,L?,H?,K?,D.Xb,Pa,Wa,bound,Ta,Ka,e0,e1,e2,e3,e4,e5,e6,e7,e8,Ya,Gs,Δ,h2];refine .inr ⟨λk' hk'=>?_,rfl⟩;have h3:=hk'.n;have h4:=hk'.len;omega
   .have h2':¬bs.length<80+32*k:=U
    have h3:76+32*k<=a00 bs:=U
    have h4:4<=76+32*k:=U
    have h5:76+32*k-4=72+32*k:=U
    have htake:kah (a00 bs-(76+32*k)) (Φ (76+32*k) bs)=bs.drop (76+32*k):=by
     rw[Ψ (by simp only[Δ];omega)]
    simp only[Tm.zz,d!,undef,Ee,q',C.Jf,C.va,oa,c!,d?,ba,St.ev,St.put,h!,n!,l?,Fa,pa,qa,Sa,D.ok,D.cells,one,reduceCtorEq,o!,l!,zc,Tm.part,L!,J?,K!,L?,H?,K?,D.Xb,Pa,Wa,bound,Ta,Ka,e0,e1,e2,e3,e4,e5,e6,e7,e8,Ya,Gs,Δ,h2',h3,h4,h5,Q?,Rah,fv,Hl,htake];refine La (KH 4 _ (by simp only[Δ];omega) U _) ?_;simp only[Tm.zz,d!,undef,Ee,q',C.Jf,C.va,oa,c!,d?,ba,St.ev,St.put,h!,n!,l?,Fa,pa,qa,Sa,D.ok,D.cells,one,reduceCtorEq,o!,l!,zc,Tm.part,L!,J?,K!,L?,H?,K?,D.Xb,Pa,Wa,bound,Ta,Ka];refine La (Wac _ (by simp only[U'];omega) _) ?_;simp only[Tm.zz,d!,undef,Ee,q',C.Jf,C.va,oa,c!,d?,ba,St.ev,St.put,h!,n!,l?,Fa,pa,qa,Sa,D.ok,D.cells,one,reduceCtorEq,o!,l!,zc,Tm.part,L!,J?,K!,L?,H?,K?,D.Xb,Pa,Wa,bound,Ta,Ka];have hx:=Yy (((bs.drop 4).drop 64).take 8);rw[U',Δ,Δ,qag U]at hx;simp only[H?]at hx;have hcr:=(Wj (kah (72+32*k) (Φ 4 bs))).isLt;have hcnt:Mj (bs.drop 4) 8=(k:Int)↔Rh (((bs.drop 4).drop 64).take 8)=k:=Cad hx hk;rw[Wb U];refine gP.mk (λh6=>?_) (λh6=>?_)
    .have e9:64<=min (72+32*k) (a00 bs-4):=U
     simp only[Ya,U',Δ,e9,Hl,fv,Tm.zz,d!,undef,Ee,q',C.Jf,C.va,oa,c!,d?,ba,St.ev,St.put,h!,n!,l?,Fa,pa,qa,Sa,D.ok,D.cells,one,reduceCtorEq,o!,l!];rw[Ψ (by simp only[U',Δ];omega)];refine La (KH 8 _ (by simp only[U',Δ];omega) U _) ?_;rw[aJ3 bs _ U];have e10:aa .u64 (k:Int)=(k:Int):=Wb U;simp only[Tm.zz,d!,undef,Ee,q',C.Jf,C.va,oa,c!,d?,ba,St.ev,St.put,h!,n!,l?,Fa,pa,qa,Sa,D.ok,D.cells,one,reduceCtorEq,o!,l!,zc,Tm.part,L!,J?,K!,L?,H?,K?,D.Xb,Pa,Wa,bound,Ta,Ka,e2,e4,e6,e8,e10];refine gP.mk (λh7=>?_) (λh7=>?_)
     .refine .inr ⟨λk' hk'=>h7 ?_,rfl⟩;have h8:=hk'.n;obtain rfl:k'=k:=U
      rw[hcnt.1 hk'.iF]
     .have h8:=qaj (E!.1 h7);exact .inl ⟨k,⟨U,hn,hk,U,(qaj h6).symm,hcnt.2 h8⟩,rfl⟩
    .refine .inr ⟨λk' hk'=>h6 ?_,rfl⟩;have h7:=hk'.n;obtain rfl:k'=k:=U
     rw[hk'.crc]
  .simp only[Tm.zz,d!,undef,Ee,q',C.Jf,C.va,oa,c!,d?,ba,St.ev,St.put,h!,n!,l?,Fa,pa,qa,Sa,D.ok,D.cells,one,reduceCtorEq,o!,l!,zc,Tm.part,L!,J?,K!,L?,H?,K?,D.Xb,Pa,Wa,bound,Ta,Ka,e0];have none':ZP bs (.v (.int .i64 0)):=.inr ⟨λk hk=>hA ⟨k,by rw[←hn];exact hk.n,hk.k4⟩,rfl⟩;refine gP.mk (λh1=>gP.mk (λh2=>gP.mk (λh3=>?_) (λh3=>none')) (λh2=>none')) (λh1=>none');exfalso;rw[De (n:=(n:Int)-72) U]at h2 h3;rw[iah U]at h2;rw[Qag U,De U]at h3;exact hA ⟨(n-72) / 32,U,U⟩
theorem Im(pl:List (BitVec 8)) {i n:Nat}(h:i<n):(Rv (OT pl n))[i]?=M (.v (.int .i64 (Mj pl i))):=by
 rw[SM (by rw[VA];exact h)];simp[OT]
theorem J4(a b:List Int):Rv (a++b)=Rv a++Rv b:=by simp[Rv]
theorem aL6(pl:List (BitVec 8)) (k:Nat) (hk:k<=4096) (hl:pl.length=72+32*k):CallT al 51 [.sl 1 (za pl)] [] λd m'=>ob 5 m' d=Gz (oo pl k):=by
 refine Lb k51.ok k51.nm (Z.T Ie ?_);simp only[k51,Kf.of,Tm.zz,d!,undef,Ee,q',C.Jf,C.va,oa,c!,d?,ba,St.ev,St.put,h!,n!,l?,Fa,pa,qa,Sa,D.ok,D.cells,one,reduceCtorEq,o!,l!];refine T.Mv 3 1 rfl ?_;simp only[Tm.zz,d!,undef,Ee,q',C.Jf,C.va,oa,c!,d?,ba,St.ev,St.put,h!,n!,l?,Fa,pa,qa,Sa,D.ok,D.cells,one,reduceCtorEq,o!,l!];refine T.LB (9+4*k) (λi=>⟨[.sl 1 (za pl),a!,.ref 0 0 0 0,.own 1 i,.v (.int .i64 (8*i:Nat)),a!,a!,a!,a!,a!,a!,a!,a!,a!,a!,a!,a!,a!,a!,a!,a!,a!,a!,a!,a!,a!,a!,a!,a!,a!,a!,a!,a!,a!,a!,a!,a!,a!,a!,a!,a!,a!,a!,a!,a!,a!,a!,a!,a!,a!,a!,a!,a!,a!,a!,a!,a!,a!,a!,a!,a!,a!,a!,a!,a!,a!,a!,a!,a!,a!,a!,a!,a!,a!,a!,a!,a!,a!,a!,a!,a!,a!],[i? 9 0 [Aq],i? 1 i (Rv (OT pl i))]⟩) ?_ ?_ ?_ aaJ ?_
 .exact At.same _ _ _ B!
 .intro i hi;exact⟨p6,by simp[Ent.below,f?,below,ua,bb,Dq,Ba],by simp[Ent.below,f?,below,Aq,Ka,uE,ua,RC]⟩
 .intro i hi;refine Z.T Ie ?_;rcases Ο i (9+4*k)with h|h
  .have e1:aa .i64 (((8*i:Nat):Int)+8)=((8*(i+1):Nat):Int):=by rw[De U];omega
   have e2:((8*(i+1):Nat):Int)<=((72+32*k:Nat):Int):=U
   have e3:8*i<=72+32*k:=U
   simp only[Tm.zz,d!,undef,Ee,q',C.Jf,C.va,oa,c!,d?,ba,St.ev,St.put,h!,n!,l?,Fa,pa,qa,Sa,D.ok,D.cells,one,reduceCtorEq,o!,l!,zc,Tm.part,L!,J?,K!,L?,H?,K?,D.Xb,Pa,Wa,bound,Ta,Ya,hl,e1,e2,e3,h,Hl];rw[Ψ (by rw[Ya,Δ,hl];omega)];refine La (KH 8 _ a19 U _) ?_;simp only[Tm.zz,d!,undef,Ee,q',C.Jf,C.va,oa,c!,d?,ba,St.ev,St.put,h!,n!,l?,Fa,pa,qa,Sa,D.ok,D.cells,one,reduceCtorEq,o!,l!,zc,Tm.part,L!,J?,K!,L?,H?,K?,D.Xb,Pa,Wa,bound,Ta,e1,h,Hv,VA];refine⟨U,?_⟩;refine At.cut 2 B! ?_;simp only[OT,List.range_succ,ψ,w?,D!,J4];rfl
  .obtain rfl:i=9+4*k:=U
   have e1:aa .i64 (((8*(9+4*k):Nat):Int)+8)=((80+32*k:Nat):Int):=by rw[De U];omega
   have e2:¬(((80+32*k:Nat):Int)<=((72+32*k:Nat):Int)):=U
   simp only[Tm.zz,d!,undef,Ee,q',C.Jf,C.va,oa,c!,d?,ba,St.ev,St.put,h!,n!,l?,Fa,pa,qa,Sa,D.ok,D.cells,one,reduceCtorEq,o!,l!,zc,Tm.part,L!,J?,K!,L?,H?,K?,D.Xb,Pa,Wa,bound,Ta,Ya,hl,e1,e2];exact At.same _ _ _ B!
 .simp only[Tm.zz,d!,undef,Ee,q',C.Jf,C.va,oa,c!,d?,ba,St.ev,St.put,h!,n!,l?,Fa,pa,qa,Sa,D.ok,D.cells,one,reduceCtorEq,o!,l!];refine Z.T Ie ?_;have l0:0<9+4*k:=U
  have l1:1<9+4*k:=U
  have l2:2<9+4*k:=U
  have l3:3<9+4*k:=U
  have l4:4<9+4*k:=U
  have l5:5<9+4*k:=U
  have l6:6<9+4*k:=U
  have l7:7<9+4*k:=U
  simp only[Tm.zz,d!,undef,Ee,q',C.Jf,C.va,oa,c!,d?,ba,St.ev,St.put,h!,n!,l?,Fa,pa,qa,Sa,D.ok,D.cells,one,reduceCtorEq,o!,l!,zc,Tm.part,L!,J?,K!,L?,H?,K?,D.Xb,Pa,Wa,bound,Ta,Hv,VA,l0,l1,l2,l3,l4,l5,l6,l7,Im pl l0,Im pl l1,Im pl l2,Im pl l3,Im pl l4,Im pl l5,Im pl l6,Im pl l7];refine T.rI 4 (pk.refl _ _) (m':=[i? 9 0 [Aq],i? 1 (9+4*k) (Rv (OT pl (9+4*k))),i? 9 0 [.agg [Ka (Mj pl 0),Ka (Mj pl 1),Ka (Mj pl 2),Ka (Mj pl 3),Ka (Mj pl 4),Ka (Mj pl 5),Ka (Mj pl 6),Ka (Mj pl 7),.own 3 0]]]) ?_ ?_
  .refine Kv.cons (tD.refl _ _) (Kv.cons (tD.refl _ _) (Kv.cons (tD.live (pk.cons (Ad.agg ?_) (pk.refl _ _))) (Kv.refl _ _)));exact pk.cons (Ad.refl _ _) (pk.cons (Ad.refl _ _) (pk.cons (Ad.refl _ _) (pk.cons (Ad.refl _ _) (pk.cons (Ad.refl _ _) (pk.cons (Ad.refl _ _) (pk.cons (Ad.refl _ _) (pk.cons (Ad.refl _ _) (pk.cons (Ad.nil _) (pk.refl _ _)))))))))
  simp only[Tm.zz,d!,undef,Ee,q',C.Jf,C.va,oa,c!,d?,ba,St.ev,St.put,h!,n!,l?,Fa,pa,qa,Sa,D.ok,D.cells,one,reduceCtorEq,o!,l!];refine T.LB k (λj=>⟨[a!,a!,.ref 0 0 0 0,.own 1 (9+4*k),a!,.ref 2 0 0 0,.v (.int .i64 (9+4*j:Nat)),a!,a!,a!,a!,a!,a!,a!,a!,a!,a!,a!,a!,a!,a!,a!,a!,a!,a!,a!,a!,a!,a!,a!,a!,a!,a!,a!,a!,a!,a!,a!,a!,a!,a!,a!,a!,a!,a!,a!,a!,a!,a!,a!,a!,a!,a!,a!,a!,a!,a!,a!,a!,a!,a!,a!,a!,a!,a!,a!,a!,a!,a!,a!,a!,a!,a!,a!,a!,a!,a!,a!,a!,a!,a!,a!],[i? 9 0 [Aq],i? 1 (9+4*k) (Rv (OT pl (9+4*k))),
   i? 9 0 [.agg [Ka (Mj pl 0),Ka (Mj pl 1),Ka (Mj pl 2),Ka (Mj pl 3),Ka (Mj pl 4),Ka (Mj pl 5),Ka (Mj pl 6),Ka (Mj pl 7),.own 3 j]],i? 4 j ((rH pl j).map I5)]⟩) ?_ ?_ ?_ aaJ ?_
  .exact At.same _ _ _ B!
  .intro i hi;exact⟨p6,by simp[f?,below],by simp[Ent.below,f?,below,Aq,Ka,uE,ua,RC,Qm]⟩
  .intro j hj;refine Z.T Ie ?_;rcases Ο j k with h|h
   .have e1:aa .i64 (((9+4*j:Nat):Int)+4)=((9+4*(j+1):Nat):Int):=by rw[De U];omega
    have e2:((9+4*(j+1):Nat):Int)<=((9+4*k:Nat):Int):=U
    have e3:aa .i64 (((9+4*j:Nat):Int)+1)=((10+4*j:Nat):Int):=by rw[De U];omega
    have e4:aa .i64 (((9+4*j:Nat):Int)+2)=((11+4*j:Nat):Int):=by rw[De U];omega
    have e5:aa .i64 (((9+4*j:Nat):Int)+3)=((12+4*j:Nat):Int):=by rw[De U];omega
    have l0:9+4*j<9+4*k:=U
    have l1:10+4*j<9+4*k:=U
    have l2:11+4*j<9+4*k:=U
    have l3:12+4*j<9+4*k:=U
    simp only[Tm.zz,d!,undef,Ee,q',C.Jf,C.va,oa,c!,d?,ba,St.ev,St.put,h!,n!,l?,Fa,pa,qa,Sa,D.ok,D.cells,one,reduceCtorEq,o!,l!,zc,Tm.part,L!,J?,K!,L?,H?,K?,D.Xb,Pa,Wa,bound,Ta,Ka,Hv,VA,e1,e2,e3,e4,e5,h,l0,l1,l2,l3,Im pl l0,Im pl l1,Im pl l2,Im pl l3,jK];refine⟨U,?_⟩;refine At.cut 4 B! ?_;simp only[BN,ψ,w?,D!];rfl
   .obtain rfl:j=k:=U
    have e1:aa .i64 (((9+4*j:Nat):Int)+4)=((13+4*j:Nat):Int):=by rw[De U];omega
    have e2:¬(((13+4*j:Nat):Int)<=((9+4*j:Nat):Int)):=U
    simp only[Tm.zz,d!,undef,Ee,q',C.Jf,C.va,oa,c!,d?,ba,St.ev,St.put,h!,n!,l?,Fa,pa,qa,Sa,D.ok,D.cells,one,reduceCtorEq,o!,l!,zc,Tm.part,L!,J?,K!,L?,H?,K?,D.Xb,Pa,Wa,bound,Ta,Hv,VA,e1,e2];exact At.same _ _ _ B!
  .simp only[Tm.zz,d!,undef,Ee,q',C.Jf,C.va,oa,c!,d?,ba,St.ev,St.put,h!,n!,l?,Fa,pa,qa,Sa,D.ok,D.cells,one,reduceCtorEq,o!,l!];refine Z.T Ie ?_;simp only[Tm.zz,d!,undef,Ee,q',C.Jf,C.va,oa,c!,d?,ba,St.ev,St.put,h!,n!,l?,Fa,pa,qa,Sa,D.ok,D.cells,one,reduceCtorEq,o!,l!,zc,Tm.part,L!,J?,K!,L?,H?,K?,D.Xb,Pa,Wa,bound,Ta,Ka,Aq,uE];simp only[GR,yJ,w?,D!];rw[mA rfl (Qm _)];rfl
theorem ak4(pl:List (BitVec 8)) (k:Nat) (hk:k<=4096) (hl:pl.length=72+32*k) (m:List Ent):CallT al 51 [.sl 1 (za pl)] m λd m'=>d=Gz (oo pl k)/\m'=m:=
 (Cp (R:=λd=>d=Gz (oo pl k)) 5 aaR (aL6 pl k hk hl) m).mono λ_ _ h=>⟨h.1.1,h.2⟩
theorem HY(bs:List (BitVec 8)) (hlen:bs.length<2 ^ 62) (m:List Ent):CallT al 50 [.sl 1 (za bs)] m λd m'=>ZP bs d/\m'=m:=
 (Cp (R:=λd=>ZP bs d) 3 aaR ((aQ5 bs hlen).mono λ_ _ h=>by
  rcases h with⟨k,hk,rfl⟩|⟨hk,rfl⟩
  .exact .inl ⟨k,hk,rfl⟩
  .exact .inr ⟨hk,rfl⟩) m).mono λ_ _ h=>⟨h.1.1,h.2⟩
theorem IS(L:List (BitVec 8)) (k:Nat) (h:72+32*k<=a00 L):oo (L.take (72+32*k)) k=oo L k:=by
 have hw:∀j,j<9+4*k->Mj (L.take (72+32*k)) j=Mj L j:=by
  intro j hj;unfold Mj;rw[Maj,jaj,qag U]
 have hp:rH (L.take (72+32*k)) k=rH L k:=by
  unfold rH;apply cag;intro i hi;rw[List.mem_range]at hi;rw[hw _ U,hw _ U,hw _ U,hw _ U]
 unfold oo;rw[hp,hw 0 U,hw 1 U,hw 2 U,hw 3 U,hw 4 U,hw 5 U,hw 6 U,hw 7 U]
theorem o6(bs:List (BitVec 8)) (hlen:bs.length<2 ^ 40):CallT al 31 [.sl 1 (za bs)] [] λd m'=>∃l n,Qq bs l n/\ob 5 m' d=PI l n:=by
 refine Lb k31.ok k31.nm (Z.T Ie ?_);simp only[k31,Kf.of,Tm.zz,d!,undef,Ee,q',C.Jf,C.va,oa,c!,d?,ba,St.ev,St.put,h!,n!,l?,Fa,pa,qa,Sa,D.ok,D.cells,one,reduceCtorEq,o!,l!];refine cr (HY bs U _) ?_;rintro d m' ⟨hd,rfl⟩;obtain⟨v,rfl⟩:∃v,d=.v (.int .i64 v):=by
  rcases hd with⟨k,hk,rfl⟩|⟨hk,rfl⟩<;>exact⟨_,rfl⟩
 simp only[Tm.zz,d!,undef,Ee,q',C.Jf,C.va,oa,c!,d?,ba,St.ev,St.put,h!,n!,l?,Fa,pa,qa,Sa,D.ok,D.cells,one,reduceCtorEq,o!,l!];refine T.Mv 4 9 rfl ?_;simp only[Tm.zz,d!,undef,Ee,q',C.Jf,C.va,oa,c!,d?,ba,St.ev,St.put,h!,n!,l?,Fa,pa,qa,Sa,D.ok,D.cells,one,reduceCtorEq,o!,l!];refine T.zL (X:=List R!×Nat×Int) (λx=>⟨[.sl 1 (za bs),a!,a!,a!,.own 0 x.1.length,.v (.int .i64 x.2.1),.v (.int .i64 x.2.2),a!,a!,a!,a!,a!,a!,a!,a!,a!,a!,a!,a!,a!,a!,a!,a!,a!,a!,a!,a!,a!,a!,a!,a!,a!],[i? 9 x.1.length (x.1.map Gz)]⟩)
  (λx=>x.2.1<=a00 bs/\80*a00 x.1<=x.2.1/\(∀l' n',Qq (bs.drop x.2.1) l' n'->Qq bs (x.1++l') (x.2.1+n'))/\ZP (bs.drop x.2.1) (.v (.int .i64 x.2.2))) (λx=>Qq bs x.1 x.2.1) (λx=>bs.length-x.2.1) ([],0,v)
  ⟨Q? _,p6,λl' n' h=>by simpa using h,hd⟩ ?_ ?_ ?_ (λ_=>aaJ) ?_
 .exact At.same _ _ _ B!
 .intro y hy;exact⟨p6,by simp[Ent.below,f?,below,ua,bb,Dq,Ba],by simp[Ent.below,ua,vy]⟩
 .rintro⟨l,tot,v⟩ ⟨h1,h2,h3,h4⟩;simp only at h1 h2 h3 h4;refine Z.T Ie ?_;rcases h4 with⟨k,hk,hv⟩|⟨hk,hv⟩
  .injection hv with hv;injection hv with _ hv;subst hv;have hkl:=hk.len;rw[Δ]at hkl;have e0:(0:Int)<((80+32*k:Nat):Int):=U
   have e1:aa .i64 ((tot:Int)+4)=((tot+4:Nat):Int):=by rw[De U];omega
   have e2:aa .i64 ((tot:Int)+((80+32*k:Nat):Int))=((tot+(80+32*k):Nat):Int):=by rw[De U];omega
   have e3:aa .i64 (((tot+(80+32*k):Nat):Int)-4)=((tot+4+(72+32*k):Nat):Int):=by rw[De U];omega
   have e4:tot+4+(72+32*k)<=a00 bs:=U
   have e5:tot+4+(72+32*k)-(tot+4)=72+32*k:=U
   have e6:tot+(80+32*k)<=a00 bs:=U
   simp only[Tm.zz,d!,undef,Ee,q',C.Jf,C.va,oa,c!,d?,ba,St.ev,St.put,h!,n!,l?,Fa,pa,qa,Sa,D.ok,D.cells,one,reduceCtorEq,o!,l!,zc,Tm.part,L!,J?,K!,L?,H?,K?,D.Xb,Pa,Wa,bound,Ta,Ya,e0,e1,e2,e3,e4,e5,e6,Hl,fv,Nat.le_add_right];refine La (ak4 _ k hk.k4 (by rw[U',Δ];omega) _) ?_;rw[IS _ k a19];obtain⟨c,hc,hc9⟩:=Cac (oo (bs.drop (tot+4)) k);simp only[hc,Tm.zz,d!,undef,Ee,q',C.Jf,C.va,oa,c!,d?,ba,St.ev,St.put,h!,n!,l?,Fa,pa,qa,Sa,D.ok,D.cells,one,reduceCtorEq,o!,l!,zc,Tm.part,L!,J?,K!,L?,H?,K?,D.Xb,Pa,Wa,bound,Ta,Ka,hc9,e2,e6,Ya,Hl];rw[Ψ (by rw[Ya,Δ];omega)];refine⟨U,?_⟩;refine cr (HY (bs.drop (tot+(80+32*k))) a19 _) ?_;rintro d m' ⟨hd,rfl⟩;obtain⟨v,rfl⟩:∃v,d=.v (.int .i64 v):=by
    rcases hd with⟨k,hk,rfl⟩|⟨hk,rfl⟩<;>exact⟨_,rfl⟩
   simp only[Tm.zz,d!,undef,Ee,q',C.Jf,C.va,oa,c!,d?,ba,St.ev,St.put,h!,n!,l?,Fa,pa,qa,Sa,D.ok,D.cells,one,reduceCtorEq,o!,l!];refine⟨(l++[oo (bs.drop (tot+4)) k],tot+(80+32*k),v),⟨by simp only;omega,by simp only[G!,w!,A?];omega,?_,hd⟩,by simp only;omega,?_⟩
   .intro l' n' hd;simp only at hd⊢;rw[H!,tai,lai];refine h3 _ _ ⟨k,hk,by rw[Mag],U,?_⟩;rw[Mag,show 80+32*k+n'-(80+32*k)=n' by omega];exact hd
   .refine At.cut 1 ?_ ?_
    .simp only[G!,w!,A?,Z!]
     repeat (first|exact fa.Da _|refine fa.cons (k?.refl _) ?_|refine fa.cons (k?.wa _) ?_)
    .simp only[ψ,w?,D!,hc,G!,w!,A?,Z!,Χ,Bag]
  .injection hv with hv;injection hv with _ hv;subst hv;simp only[Tm.zz,d!,undef,Ee,q',C.Jf,C.va,oa,c!,d?,ba,St.ev,St.put,h!,n!,l?,Fa,pa,qa,Sa,D.ok,D.cells,one,reduceCtorEq,o!,l!,zc,Tm.part,L!,J?,K!,L?,H?,K?,D.Xb,Pa,Wa,bound,Ta,Int.lt_irrefl];refine⟨(l,tot,0),?_,At.same _ _ _ B!⟩;have:=h3 [] 0 ⟨rfl,hk⟩;simpa using this
 .rintro⟨l,tot,v⟩ h;simp only at h;simp only[Tm.zz,d!,undef,Ee,q',C.Jf,C.va,oa,c!,d?,ba,St.ev,St.put,h!,n!,l?,Fa,pa,qa,Sa,D.ok,D.cells,one,reduceCtorEq,o!,l!];refine Z.T Ie ?_;simp only[Tm.zz,d!,undef,Ee,q',C.Jf,C.va,oa,c!,d?,ba,St.ev,St.put,h!,n!,l?,Fa,pa,qa,Sa,D.ok,D.cells,one,reduceCtorEq,o!,l!];refine⟨l,tot,h,?_⟩;rw[bE,w?,w?,D!,mA rfl (vy _),yJ];rfl
theorem mW(bs:List (BitVec 8)) (hlen:bs.length<2 ^ 40) (m:List Ent):CallT al 31 [.sl 1 (za bs)] m λd m'=>(∃l n,Qq bs l n/\d=PI l n)/\m'=m:=
 (Cp (R:=λd=>∃l n,Qq bs l n/\d=PI l n) 5 aaR (o6 bs hlen) m).mono λ_ _ h=>⟨h.1.1,h.2⟩
end Go.Proofs.Dev
set_option maxHeartbeats 1000000
namespace Go.Proofs.Dev
open Go Go.Tm
variable {t0:List ot}
theorem bf0(l:List (BitVec 8)):(bI l).map gV=za l:=by
 unfold bI za;rw[Cah];exact cag λx _=>rfl
theorem aB1{l:List ot}(h:∀b∈l,0<=b.N/\b.N<256):za (bJ l)=l.map gV:=by
 unfold za bJ;rw[Cah];refine cag λx hx=>?_;have:=h x hx;obtain⟨x⟩:=x;dsimp only at this;simp only[Function.comp,BitVec.toNat_ofInt];rw[show(((x % ((2 ^ 8:Nat):Int)).toNat:Nat):Int)=x by omega];rfl
theorem aM4(r:ma):Gz (Rp r)=We r:=by
 unfold Gz Rp DS;simp only[Cah];rfl
theorem Bac(r:R!):We (cP r)=Gz r:=by
 obtain⟨a,b,c,d,e,f,g,h,ps⟩:=r;unfold Gz DS;show D.agg [_,_,_,_,_,_,_,_,D.sl 4 ((ps.map bj7).map db)]=_;rw[Cah];rfl
theorem kE{t0:ma}{r}(h:Zn t0=M r):k! al 52 [We t0] (.tup [Rn r.1,da r.2]):=by
 unfold Zn at h;split at h
 case isFalse=>cases h
 rename_i hk;cases h;have hl:(Rp t0).ps.length<=4096:=by simpa [Rp] using hk
 have hd:CM (Rp t0)=.tup [Rn (z! t0),da 0]:=by
  unfold CM;rw[J hl];unfold Rn z!;rw[bf0];rfl
 intro m;rw[←hd,←aM4];exact(Cp (R:=λd=>d=CM (Rp t0)) 5 (by simp[ea,FA]) (aY1 (Rp t0) U) m).mono λ_ _ h=>⟨h.1.1,h.2⟩
theorem aM3(l:List R!):Bc (l.map cP)=Dac l:=by
 unfold Bc Dac;rw[Cah];congr 1;exact cag λx _=>Bac x
theorem HQ{t:List ot}{l:List R!}{n:Nat}(h:Qq (bJ t) l n):D.tup [Bc (Q1 t).1,da (Q1 t).2]=PI l n:=by
 unfold Q1;have hx:∃p:List R!×Nat,Qq (bJ t) p.1 p.2:=⟨(l,n),h⟩;rw[dif_pos hx];obtain⟨e1,e2⟩:=Qq.uniq hx.choose_spec h;dsimp only;rw[e1,e2,aM3];rfl
theorem jE{r}(h:Za t0=M r):k! al 15 [Rn t0] (.tup [Bc r.1,da r.2]):=by
 unfold Za at h;split at h
 case isFalse=>cases h
 rename_i hk;cases h;intro m;unfold Rn;rw[←aB1 hk.2];refine(aw9 (bJ t0) (by simp[bJ];omega) m).mono λd m' h=>?_;obtain⟨⟨l,n,h1,rfl⟩,rfl⟩:=h;exact⟨(HQ h1).symm,rfl⟩
theorem tH{r}(h:cm t0=M r):k! al 31 [Rn t0] (.tup [Bc r.1,da r.2]):=by
 unfold cm Za at h;split at h
 case isFalse=>cases h
 rename_i hk;cases h;intro m;unfold Rn;rw[←aB1 hk.2];refine(mW (bJ t0) (by simp[bJ];omega) m).mono λd m' h=>?_;obtain⟨⟨l,n,h1,rfl⟩,rfl⟩:=h;exact⟨(HQ h1).symm,rfl⟩
instance {t0 r}:r? (Zn t0=M r) (k! al 52 [We t0] (.tup [Rn r.1,da r.2])):=⟨kE⟩
instance {t0 r}:r? (Za t0=M r) (k! al 15 [Rn t0] (.tup [Bc r.1,da r.2])):=⟨jE⟩
instance {t0 r}:r? (cm t0=M r) (k! al 31 [Rn t0] (.tup [Bc r.1,da r.2])):=⟨tH⟩
end Go.Proofs.Dev
