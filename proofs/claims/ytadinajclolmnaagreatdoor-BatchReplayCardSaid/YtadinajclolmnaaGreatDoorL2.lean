/-
  Contracts by hand: the conditions stand in each.
-/
import Derived.Test.YtadinajclolmnaaGreatDoorC3
import Derived.Test.YtadinajclolmnaaGreatDoorPJ
import Derived.Test.YtadinajclolmnaaGreatDoorC0
import Derived.Test.YtadinajclolmnaaGreatDoorC1
import Derived.Test.YtadinajclolmnaaGreatDoorC2
open Option renaming some->M,none->u4
open Decidable renaming decide->D1
open Go.Tm.D renaming dead->a!
open Go.Tm.Ent renaming live->i?
open Go.Value renaming int->g!
open Go.Proofs.Tryz renaming prog->al
open Bool renaming and_true->Y',false_or->η,not_false->Κ,not_true->Z?,or_false->ζ,or_self->ε,or_true->δ,true_and->X?,true_or->γ,true->a29
open Int renaming natCast_nonneg->cah,reduceEq->l!,reduceLE->K!,reduceLT->q',reducePow->K?,reduceToNat->L?,toNat->raj,toNat_natCast->oag
open List renaming append_assoc->H!,append_nil->R?,cons_append->B',drop->Φ,drop_drop->Mag,drop_eq_getElem_cons->Eaf,flatMap_nil->hai,getD_cons_succ->P?,getD_cons_zero->U!,getElem?_cons_zero->Aaf,getElem?_eq_some_iff->Τ,getElem?_map->Oag,length_append->G!,length_cons->w!,length_drop->Δ,length_nil->A?,length_set->Mah,length_take->U',map_cons->w?,map_drop->Tai,map_nil->D!,mem_of_mem_take->Xaf,nil_append->G?,replicate->h!,set_cons_succ->Μ,set_cons_zero->Ω,take_length->υ,take_of_length_le->Ψ,take_zero->Bag,length->a00
open Nat renaming add_comm->Qah,add_zero->Hag,div_div_eq_div_mul->pai,div_one->aak,lt_irrefl->uaj,lt_of_lt_of_le->ν,lt_or_ge->Ο,min_eq_left->qag,mod_eq_of_lt->Bah,mul_add->Xai,mul_le_mul->sah,mul_lt_mul_of_pos_right->cai,mul_one->qai,pow_add->Fai,pow_le_pow_right->Jah,pow_mul->bak,pow_succ->jai,pow_zero->Yaj,reduceAdd->l?,reduceEqDiff->o!,reduceLT->J?,reduceLeDiff->L!,reducePow->H?,reduceSub->n!,shiftLeft_eq->Eaj,shiftRight_eq_div_pow->Gah,succ_ne_self->κ,two_pow_pos->eai,xor->Waj,zero_add->Z!,zero_le->Q?
open Option renaming bind_some->b?,map_none->θ,map_some->Β
set_option linter.all false
set_option maxHeartbeats 2000000
set_option maxRecDepth 10000
namespace Go.Proofs.Dev
open Go Go.Tm
variable {n:Int}{i:Nat}
def bf5:List (Nat×S?):=[(69,k69.F)]
theorem ag4:iQ al bf5:=by
 unfold iQ bf5;simp only[List.forall_mem_cons];exact⟨k69.o,λ_ h=>absurd h List.not_mem_nil⟩
def za(bs:List (BitVec 8)):List D:=bs.map λb=>.v (g! .u8 (b.toNat:Int))
def Lz(r:BitVec 32):D:=.v (g! .u32 (r.toNat:Int))
def Ka(n:Int):D:=.v (g! .i64 n)
theorem GB(h:-9223372036854775808<=n/\n<=9223372036854775807):aa .i64 n=n:=by
 rw[Qb,IntKind.wrap_i64];omega
theorem gI(h:0<=n/\n<=4294967295):aa .u32 n=n:=by
 simp only[aa];omega
theorem ow(r q:BitVec 32):cx Waj .u32 (r.toNat:Int) (q.toNat:Int)=g! .u32 ((r ^^^ q).toNat:Int):=by
 have h1:=r.isLt;have h2:=q.isLt;have e1:((r.toNat:Int) % wv .u32).toNat=r.toNat:=by simp only[wv];omega
 have e2:((q.toNat:Int) % wv .u32).toNat=q.toNat:=by simp only[wv];omega
 unfold cx;rw[e1,e2];have h3:=(r ^^^ q).isLt;have e3:Waj r.toNat q.toNat=(r ^^^ q).toNat:=by rw[BitVec.toNat_xor];rfl
 rw[e3,gI U]
theorem D7(r:BitVec 32):cx Waj .u32 (r.toNat:Int) 3988292384=g! .u32 ((r ^^^ 0xEDB88320#32).toNat:Int):=ow r 0xEDB88320#32
def B7(r:BitVec 32):cx Waj .u32 (r.toNat:Int) 4294967295=g! .u32 ((r ^^^ 4294967295#32).toNat:Int):=ow r 4294967295#32
theorem H4(r:BitVec 32):aa .u32 (Int.tdiv (r.toNat:Int) 2)=((r / 2#32).toNat:Int):=by
 have h1:=r.isLt;have h2:Int.tdiv (r.toNat:Int) 2=((r.toNat / 2:Nat):Int):=by rfl
 rw[h2,gI U];simp[BitVec.toNat_udiv]
theorem sM(b:BitVec 8):aa .u32 (b.toNat:Int)=((b.zeroExtend 32:BitVec 32).toNat:Int):=by
 have h1:=b.isLt;rw[gI U];simp;omega
def Xac(r:BitVec 32):Int.tmod (r.toNat:Int) 2=((r.toNat % 2:Nat):Int):=rfl
theorem Ew{bs:List (BitVec 8)}(h:i<a00 bs):(za bs)[i]?=M (.v (g! .u8 (bs[i].toNat:Int))):=by
 simp[za,h]
theorem Ya(bs:List (BitVec 8)):(za bs).length=a00 bs:=by simp[za]
theorem Ba:∀bs:List (BitVec 8),ea (za bs)=a29
 |[]=>rfl
 |b::bs=>by simp[za,ea,sa];exact Ba bs
def az5(bs:List (BitVec 8)) (i:Nat) (p:Nat×BitVec 32):St:=⟨[.sl 1 (za bs),a!,Ka 0,Lz p.2,Ka i,Ka p.1]++h! 28 a!,[]⟩
def gX(bs:List (BitVec 8)) (p:Nat×BitVec 32):St:=⟨[.sl 1 (za bs),a!,Ka 0,Lz p.2,Ka p.1]++h! 29 a!,[]⟩
def zZ:List Nat:=[0,498536548,997073096,651767980,1994146192,1802195444,1303535960,1342533948,3988292384,4027552580,3604390888,3412177804,2607071920,2262029012,2685067896,3183342108]
def cz:List D:=zZ.map λ(n:Nat)=>.v (g! .u32 (n:Int))
def YJ(r:BitVec 32):BitVec 32:=(r >>> 4) ^^^ Gl 4 (r&&& 15#32)
theorem kT:∀j:Nat,j<16->zZ[j]?=M (Gl 4 (BitVec.ofNat 32 j)).toNat:=by decide +kernel
theorem KW(j:Nat) (h:j<16):cz[j]?=M (Lz (Gl 4 (BitVec.ofNat 32 j))):=by
 unfold cz Lz;rw[Oag,kT j h];rfl
theorem tQ(r:BitVec 32):Dw r=(r >>> 1) ^^^ (if r.getLsbD 0 then 0xEDB88320#32 else 0#32):=by
 have h0:r.getLsbD 0=D1 (r.toNat % 2=1):=by simp[BitVec.getLsbD,Nat.testBit_zero]
 have h1:r / 2#32=r >>> 1:=by
  apply BitVec.eq_of_toNat_eq;simp[BitVec.toNat_udiv,BitVec.toNat_ushiftRight,Gah]
 unfold Dw;rw[h0,h1];by_cases h:r.toNat % 2=1<;>simp[h]
theorem be6(x y p:BitVec 32):x ^^^ y=x ^^^ p ^^^ (y ^^^ p):=by
 rw[BitVec.xor_assoc,←BitVec.xor_assoc p,BitVec.xor_comm p y,BitVec.xor_assoc y,BitVec.xor_self,BitVec.xor_zero]
theorem O0(a b:BitVec 32):Dw (a ^^^ b)=Dw a ^^^ Dw b:=by
 simp only[tQ,BitVec.ushiftRight_xor_distrib,BitVec.getLsbD_xor];cases a.getLsbD 0<;>cases b.getLsbD 0<;>simp<;>first|ac_rfl|exact be6 _ _ _
theorem zI:∀(n:Nat) (a b:BitVec 32),Gl n (a ^^^ b)=Gl n a ^^^ Gl n b
 |0,a,b=>rfl
 |n+1,a,b=>by simp only[Gl,O0,zI n]
theorem ZA(x:BitVec 32) (k:Nat) (h:x.toNat<2 ^ (31-k)) (hk:k<31):Dw (x <<< (k+1))=x <<< k:=by
 rw[tQ];have h0:(x <<< (k+1)).getLsbD 0=false:=p6
 rw[h0];have hp:2 ^ (31-k)*2 ^ (k+1)=2 ^ 32:=by rw[←Fai];congr 1;omega
 have hp':2 ^ (31-k)*2 ^ k=2 ^ 31:=by rw[←Fai];congr 1;omega
 have e1:(x <<< (k+1)).toNat=x.toNat*2 ^ (k+1):=by
  rw[BitVec.toNat_shiftLeft,Eaj,Bah]
  calc x.toNat*2 ^ (k+1)<2 ^ (31-k)*2 ^ (k+1):=cai h (eai _)
   _=2 ^ 32:=hp
 have e2:(x <<< k).toNat=x.toNat*2 ^ k:=by
  rw[BitVec.toNat_shiftLeft,Eaj,Bah]
  calc x.toNat*2 ^ k<2 ^ (31-k)*2 ^ k:=cai h (eai _)
   _=2 ^ 31:=hp'
   _<2 ^ 32:=s6
 apply BitVec.eq_of_toNat_eq;simp only[Bool.false_eq_true,G1,BitVec.xor_zero];rw[BitVec.toNat_ushiftRight,e1,e2,Gah,jai,←Nat.mul_assoc];exact Nat.mul_div_cancel _ s6
theorem bk2(r:BitVec 32):YJ r=Gl 4 r:=by
 have hr:r=((r >>> 4) <<< 4) ^^^ (r&&& 15#32):=by
  apply BitVec.eq_of_getLsbD_eq;intro i hi;simp only[BitVec.getLsbD_xor,BitVec.getLsbD_shiftLeft,BitVec.getLsbD_ushiftRight,BitVec.getLsbD_and];by_cases h4:i<4
  .have:(15#32).getLsbD i=a29:=by
    rcases(by omega:i=0\/i=1\/i=2\/i=3)with rfl|rfl|rfl|rfl<;>rfl
   simp[h4,this]
  .have:(15#32).getLsbD i=false:=by
    rw[BitVec.getLsbD_ofNat];have:Nat.testBit 15 i=false:=Nat.testBit_lt_two_pow (ν (by decide:15<2 ^ 4) (Jah s6 U));simp[this]
   have h15:(15#32)[i]=false:=by rw[←BitVec.getLsbD_eq_getElem hi];exact this
   simp[h4,hi,show 4+(i-4)=i by omega,h15]
 have hx:(r >>> 4).toNat<2 ^ 28:=by
  rw[BitVec.toNat_ushiftRight,Gah];have:=r.isLt;omega
 have hs:Gl 4 ((r >>> 4) <<< 4)=r >>> 4:=by
  simp only[Gl];rw[ZA _ 3 U s6,ZA _ 2 U s6,ZA _ 1 U s6,ZA _ 0 U s6];simp
 conv=>rhs;rw[hr]
 rw[zI,hs];rfl
theorem nM:∀(a b:Nat) (r:BitVec 32),Gl (a+b) r=Gl b (Gl a r)
 |0,b,r=>by rw[Z!];rfl
 |a+1,b,r=>by rw[show a+1+b=(a+b)+1 by omega];exact nM a b (Dw r)
theorem S0(r:BitVec 32) (b:BitVec 8):fx r b=YJ (YJ (r ^^^ b.zeroExtend 32)):=by
 rw[bk2,bk2,←nM];rfl
theorem jX(r:BitVec 32):cx Nat.land .u32 (r.toNat:Int) 15=g! .u32 ((r&&& 15#32).toNat:Int):=by
 have h1:=r.isLt;have e1:((r.toNat:Int) % wv .u32).toNat=r.toNat:=by simp only[wv];omega
 have e2:((15:Int) % wv .u32).toNat=15:=s6
 unfold cx;rw[e1,e2];have h3:=(r&&& 15#32).isLt;have e3:Nat.land r.toNat 15=(r&&& 15#32).toNat:=by rw[BitVec.toNat_and];rfl
 rw[e3,gI U]
theorem gac(r:BitVec 32):Yd (Op.unary .xor (g! .u32 (r.toNat:Int)))=M (g! .u32 ((r ^^^ 4294967295#32).toNat:Int)):=by
 have h:=ow 4294967295#32 r;have hb:Yd (Op.unary .xor (g! .u32 (r.toNat:Int)))=Fa .xor .u32 4294967295 .u32 (r.toNat:Int):=by rw[ug];rfl
 rw[hb];simp only[Fa,ι,cond_true];rw[BitVec.xor_comm]at h;exact congrArg M h
theorem Uad(m:List Ent):CallT al 69 [] m λd m'=>d=.agg cz/\m'=m:=
 JU Ie ag4 (O:=λ_ _=>u4) (md:=λ_=>0) (λ_ h=>absurd h p6) 400 a27 m
theorem aB3(r:BitVec 32):Int.fdiv (r.toNat:Int) ((2 ^ (min (raj 4) IntKind.u32.bits):Nat):Int)=((r >>> 4).toNat:Int):=by
 have h:(2 ^ (min (raj 4) IntKind.u32.bits):Nat)=16:=s6
 rw[h,BitVec.toNat_ushiftRight,Gah];exact(Int.fdiv_eq_ediv_of_nonneg _ s6).trans (by norm_cast)
theorem aC1:(4:Int)<0↔False:=s6
theorem YN(r:BitVec 32):(r&&& 15#32).toNat<16:=by
 rw[BitVec.toNat_and];exact Nat.lt_of_le_of_lt Nat.and_le_right s6
theorem IK(r:BitVec 32):cz[(r&&& 15#32).toNat]?=M (Lz (Gl 4 (r&&& 15#32))):=by
 rw[KW _ (YN r),BitVec.ofNat_toNat];simp
def WZ(bs:List (BitVec 8)) (p:Nat×BitVec 32):St:=⟨[.sl 1 (za bs),a!,Ka 0,.ref 0 0 0 0,Lz p.2,a!,a!,a!,.sl 1 (za bs),Ka bs.length,Ka p.1]++h! 25 a!,[i? 16 0 [.agg cz]]⟩
theorem bf7(bs:List (BitVec 8)) (hlen:bs.length<2 ^ 63):CallT al 54 [.sl 1 (za bs)] [] λd m'=>d=Ka (Wj bs).toNat:=by
 refine Lb k54.ok k54.nm (Y.T ?_);simp only[k54,Kf.of,Xr,Um,ig,Y,C.loops,ζ,η,δ,γ,ε,d?,ba,St.ev,St.put,Wc,P?,U!,B',G?,h!,
 w!,A?,n!,l?,Μ,Ω,w?,D!,Β,θ,←ug,Fa,ι,cond_true,cond_false,B?,G1,
 R2,decide_eq_false_iff_not,pa,X?,Y',qa,Sa,D.ok,D.cells,one,reduceCtorEq,o!,κ,Z?,Κ,←Qb,l!,ο,T!,beq_eq_false_iff_ne,ne_eq]
 refine La (Uad _) ?_;simp only[Xr,Um,ig,Y,C.loops,ζ,η,δ,γ,ε,d?,ba,St.ev,St.put,Wc,P?,U!,B',G?,h!,
 w!,A?,n!,l?,Μ,Ω,w?,D!,Β,θ,←ug,Fa,ι,cond_true,cond_false,B?,G1,
 R2,decide_eq_false_iff_not,pa,X?,Y',qa,Sa,D.ok,D.cells,one,reduceCtorEq,o!,κ,Z?,Κ,←Qb,l!,ο,T!,beq_eq_false_iff_ne,ne_eq,Aaf,b?,D.cells,show cz.length=16 from rfl,and_self,Nat.le_refl,Nat.zero_lt_succ,w!,D.Xb,Pa,Bag,List.drop_succ_cons,List.drop_zero,List.drop_nil,R?]
 refine T.seq (Y.T ?_);simp only[Xr,Um,ig,Y,C.loops,ζ,η,δ,γ,ε,d?,ba,St.ev,St.put,Wc,P?,U!,B',G?,h!,
 w!,A?,n!,l?,Μ,Ω,w?,D!,Β,θ,←ug,Fa,ι,cond_true,cond_false,B?,G1,
 R2,decide_eq_false_iff_not,pa,X?,Y',qa,Sa,D.ok,D.cells,one,reduceCtorEq,o!,κ,Z?,Κ,←Qb,l!,ο,T!,beq_eq_false_iff_ne,ne_eq]
 refine T.FU (S:=WZ bs) (Ql:=λp=>p.1<=a00 bs/\bs.foldl fx 4294967295#32=(bs.drop p.1).foldl fx p.2) (fin:=λp=>bs.foldl fx 4294967295#32=p.2) (μ:=λp=>bs.length-p.1) (0,4294967295#32) ⟨Q? _,rfl⟩ ?_ rfl ?_ ?_ (λ_ h=>h) ?_
 .simp only[WZ,Lz,Ka,Ya,Xr,Um,ig,Y,C.loops,ζ,η,δ,γ,ε,d?,ba,St.ev,St.put,Wc,P?,U!,B',G?,h!,
 w!,A?,n!,l?,Μ,Ω,w?,D!,Β,θ,←ug,Fa,ι,cond_true,cond_false,B?,G1,
 R2,decide_eq_false_iff_not,pa,X?,Y',qa,Sa,D.ok,D.cells,one,reduceCtorEq,o!,κ,Z?,Κ,←Qb,l!,ο,T!,beq_eq_false_iff_ne,ne_eq]
  repeat (first|exact fa.Da _|refine fa.cons (k?.refl _) ?_|refine fa.cons (k?.wa _) ?_)
 .intro y _;refine⟨Q? _,?_,?_⟩
  .simp[WZ,f?,below,Lz,Ka,ua _ _ (Ba bs)]
  .simp[WZ,f?,below,Ent.below,ua _ _ (show ea cz=a29 from rfl)]
 .rintro⟨i,r⟩ ⟨hi,hr⟩;simp only at hi hr;refine T.seq (Y.T ?_);simp only[WZ,Lz,Ka,Xr,Um,ig,Y,C.loops,ζ,η,δ,γ,ε,d?,ba,St.ev,St.put,Wc,P?,U!,B',G?,h!,
 w!,A?,n!,l?,Μ,Ω,w?,D!,Β,θ,←ug,Fa,ι,cond_true,cond_false,B?,G1,
 R2,decide_eq_false_iff_not,pa,X?,Y',qa,Sa,D.ok,D.cells,one,reduceCtorEq,o!,κ,Z?,Κ,←Qb,l!,ο,T!,beq_eq_false_iff_ne,ne_eq]
  refine T.seq (T.cond (t:=D1 ((i:Int)<(a00 bs:Int))) rfl (λh=>T.skip ?_) (λh=>T.exit ⟨rfl,(i,r),?_,?_,[],rfl⟩))
  .have hlt:i<a00 bs:=by simp at h;omega
   refine T.seq (T.block (T.seq (Y.T ?_)));simp only[Xr,Um,ig,Y,C.loops,ζ,η,δ,γ,ε,d?,ba,St.ev,St.put,Wc,P?,U!,B',G?,h!,
 w!,A?,n!,l?,Μ,Ω,w?,D!,Β,θ,←ug,Fa,ι,cond_true,cond_false,B?,G1,
 R2,decide_eq_false_iff_not,pa,X?,Y',qa,Sa,D.ok,D.cells,one,reduceCtorEq,o!,κ,Z?,Κ,←Qb,l!,ο,T!,beq_eq_false_iff_ne,ne_eq,oag,Ew hlt,cah]
   refine T.seq (Y.T ?_);simp only[Xr,Um,ig,Y,C.loops,ζ,η,δ,γ,ε,d?,ba,St.ev,St.put,Wc,P?,U!,B',G?,h!,
 w!,A?,n!,l?,Μ,Ω,w?,D!,Β,θ,←ug,Fa,ι,cond_true,cond_false,B?,G1,
 R2,decide_eq_false_iff_not,pa,X?,Y',qa,Sa,D.ok,D.cells,one,reduceCtorEq,o!,κ,Z?,Κ,←Qb,l!,ο,T!,beq_eq_false_iff_ne,ne_eq,sM,ow]
   generalize hq:r ^^^ BitVec.zeroExtend 32 bs[i]=q;refine T.seq (Y.T ?_);simp only[Xr,Um,ig,Y,C.loops,ζ,η,δ,γ,ε,d?,ba,St.ev,St.put,Wc,P?,U!,B',G?,h!,
 w!,A?,n!,l?,Μ,Ω,w?,D!,Β,θ,←ug,Fa,ι,cond_true,cond_false,B?,G1,
 R2,decide_eq_false_iff_not,pa,X?,Y',qa,Sa,D.ok,D.cells,one,reduceCtorEq,o!,κ,Z?,Κ,←Qb,l!,ο,T!,beq_eq_false_iff_ne,ne_eq,aC1,aB3,jX,cah,oag,YN,and_self,Z!,qai,Tm.part,D.cells,Aaf,b?,IK,Lz,ow]
   have hn:q >>> 4 ^^^ Gl 4 (q&&& 15#32)=YJ q:=rfl;simp only[hn];generalize hp:YJ q=p;refine Y.T ?_;simp only[Xr,Um,ig,Y,C.loops,ζ,η,δ,γ,ε,d?,ba,St.ev,St.put,Wc,P?,U!,B',G?,h!,
 w!,A?,n!,l?,Μ,Ω,w?,D!,Β,θ,←ug,Fa,ι,cond_true,cond_false,B?,G1,
 R2,decide_eq_false_iff_not,pa,X?,Y',qa,Sa,D.ok,D.cells,one,reduceCtorEq,o!,κ,Z?,Κ,←Qb,l!,ο,T!,beq_eq_false_iff_ne,ne_eq,aC1,aB3,jX,cah,oag,YN,and_self,Z!,qai,Tm.part,D.cells,Aaf,b?,IK,Lz,ow]
   have hn:p >>> 4 ^^^ Gl 4 (p&&& 15#32)=YJ p:=rfl;simp only[hn];refine Y.T ?_;simp only[Xr,Um,ig,Y,C.loops,ζ,η,δ,γ,ε,d?,ba,St.ev,St.put,Wc,P?,U!,B',G?,h!,
 w!,A?,n!,l?,Μ,Ω,w?,D!,Β,θ,←ug,Fa,ι,cond_true,cond_false,B?,G1,
 R2,decide_eq_false_iff_not,pa,X?,Y',qa,Sa,D.ok,D.cells,one,reduceCtorEq,o!,κ,Z?,Κ,←Qb,l!,ο,T!,beq_eq_false_iff_ne,ne_eq]
   refine⟨(i+1,YJ p),⟨hlt,?_⟩,?_,?_,[],rfl⟩
   .simp only;rw[hr,Eaf hlt,List.foldl_cons,S0,hq,hp]
   .simp only;omega
   .rw[GB U]
    repeat (first|exact fa.Da _|refine fa.cons (k?.refl _) ?_|refine fa.cons (k?.wa _) ?_)
  .simp only;have:bs.length<=i:=by simp at h;omega
   rw[hr,List.drop_eq_nil_of_le this];rfl
  .repeat (first|exact fa.Da _|refine fa.cons (k?.refl _) ?_|refine fa.cons (k?.wa _) ?_)
 .rintro⟨i,r⟩ hr;simp only at hr;refine Y.T ?_;simp only[WZ,Lz,Ka,Xr,Um,ig,Y,C.loops,ζ,η,δ,γ,ε,d?,ba,St.ev,St.put,Wc,P?,U!,B',G?,h!,
 w!,A?,n!,l?,Μ,Ω,w?,D!,Β,θ,←ug,Fa,ι,cond_true,cond_false,B?,G1,
 R2,decide_eq_false_iff_not,pa,X?,Y',qa,Sa,D.ok,D.cells,one,reduceCtorEq,o!,κ,Z?,Κ,←Qb,l!,ο,T!,beq_eq_false_iff_ne,ne_eq,gac]
  have hx:=(r ^^^ 4294967295#32).isLt;rw[GB U];refine⟨_,rfl,?_⟩;simp only[Wj,hr]
theorem Dk(a b:List (BitVec 8)):za (a++b)=za a++za b:=by simp[za]
theorem bP3:(2 ^ min (raj 8) IntKind.u32.bits:Nat)=256:=rfl
def bg9:(2 ^ min (raj 8) IntKind.u64.bits:Nat)=256:=rfl
theorem xY(m:List Ent) (id v:Nat) (L:List D) (n:Int) (hid:m[id]?=M (i? 1 v L)) (hb:m.all (Ent.below m.length)=a29) (hL:ea L=a29) (hl:L.length+4<=2 ^ 47) :
 CallT al 66 [.own id v,Ka n] m λd m'=>d=.own id (v+4)/\m'=m.set id (i? 1 (v+4) (L++za (Yc 4 (n % 2 ^ 32).toNat))):=by
 have hlt:id<a00 m:=(Τ.1 hid).1;simp only[Ka];refine Lb k66.ok k66.nm (Z.T Ie ?_);simp only[k66,Kf.of,zz,d!,undef,Ee,q',C.Jf,C.va,oa,c!,d?,ba,St.ev,St.put,h!,n!,l?,Fa,pa,qa,Sa,D.ok,D.cells,one,reduceCtorEq,o!,l!];obtain⟨u,hu⟩:∃u:Nat,(n % 2 ^ 32).toNat=u:=⟨_,rfl⟩;have hw:aa .u32 n=(u:Int):=by simp only[aa];omega
 rw[hu,hw];refine T.LB 4 (λi=>⟨[.own id (v+i),a!,a!,a!,a!,.v (g! .u32 (u / 256 ^ i:Nat)),a!,a!,.v (g! .i64 i),a!,a!,a!,a!,a!,a!,a!,a!,a!,a!],m.set id (i? 1 (v+i) (L++za (Yc i u)))⟩) ?_ ?_ ?_ (by repeat (first|exact Oi|exact Qu|exact iw|exact Ru|refine Pu ?_)) ?_
 .refine⟨by simp only[Yaj,aak];repeat (first|exact fa.Da _|refine fa.cons (k?.refl _) ?_|refine fa.cons (k?.wa _) ?_),[],?_⟩;simp only[Yc,za,D!,R?,Hag,HN hid]
 .intro i hi;refine⟨p6,by simp[f?,below,hlt],?_⟩;simp only[Mah];exact DD hb (HD (ua _ _ hL) (ua _ _ (Ba _)))
 .intro i hi;refine Z.T Ie ?_;simp only[zz,d!,undef,Ee,q',C.Jf,C.va,oa,c!,d?,ba,St.ev,St.put,h!,n!,l?,Fa,pa,qa,Sa,D.ok,D.cells,one,reduceCtorEq,o!,l!,zm,hid,hlt,WA i U,Fae,bP3,iY,pai];refine gP.mk (λh=>⟨?_,U,?_⟩) (λh=>?_)
  .simp[Ya,Zb];omega
  .simp only[gx,Dk,←H!,jai];exact At.mk _ _ _ _ (by repeat (first|exact fa.Da _|refine fa.cons (k?.refl _) ?_|refine fa.cons (k?.wa _) ?_))
  .obtain rfl:i=4:=U
   exact⟨rfl,At.same _ _ _ (by repeat (first|exact fa.Da _|refine fa.cons (k?.refl _) ?_|refine fa.cons (k?.wa _) ?_))⟩
 .simp only[zz,d!,undef,Ee,q',C.Jf,C.va,oa,c!,d?,ba,St.ev,St.put,h!,n!,l?,Fa,pa,qa,Sa,D.ok,D.cells,one,reduceCtorEq,o!,l!];refine Z.T Ie ?_;simp only[zz,d!,undef,Ee,q',C.Jf,C.va,oa,c!,d?,ba,St.ev,St.put,h!,n!,l?,Fa,pa,qa,Sa,D.ok,D.cells,one,reduceCtorEq,o!,l!]
def Rv(W:List Int):List D:=W.map Ka
theorem Hv(W:List Int):(Rv W).length=W.length:=by simp[Rv]
theorem RC:∀W:List Int,ea (Rv W)=a29
 |[]=>rfl
 |n::W=>by simp[Rv,ea,sa,Ka];exact RC W
theorem SM{W:List Int}(h:i<W.length):(Rv W)[i]?=M (.v (g! .i64 W[i])):=by simp[Rv,h,Ka]
theorem PT(m:List Ent) (id v m?:Nat) (L:List D) (W:List Int) (hid:m[id]?=M (i? 1 v L)) (hwid:m[m?]?=M (i? 1 0 (Rv W))) (hne:id≠m?) (hb:m.all (Ent.below m.length)=a29) (hL:ea L=a29) (hl:L.length+8*W.length<=2 ^ 47) :
 CallT al 67 [.own id v,.own m? 0] m λd m'=>d=.own id (v+8*W.length)/\m'=m.set id (i? 1 (v+8*W.length) (L++za (wb W))):=by
 have hlt:id<a00 m:=(Τ.1 hid).1;have hwlt:m?<a00 m:=(Τ.1 hwid).1;refine Lb k67.ok k67.nm (Z.T Ie ?_);simp only[k67,Kf.of,zz,d!,undef,Ee,q',C.Jf,C.va,oa,c!,d?,ba,St.ev,St.put,h!,n!,l?,Fa,pa,qa,Sa,D.ok,D.cells,one,reduceCtorEq,o!,l!];simp only[hwid,zz,d!,undef,Ee,q',C.Jf,C.va,oa,c!,d?,ba,St.ev,St.put,h!,n!,l?,Fa,pa,qa,Sa,D.ok,D.cells,one,reduceCtorEq,o!,l!,Hv];refine T.LB W.length (λi=>⟨[.own id (v+8*i),a!,a!,a!,a!,a!,a!,a!,.own m? 0,.v (g! .i64 W.length),.v (g! .i64 i),a!,a!,a!,a!,a!,a!,a!,a!,a!,a!,a!,a!,a!,a!,a!,a!,a!],m.set id (i? 1 (v+8*i) (L++za (wb (W.take i))))⟩) ?_ ?_ ?_ (by repeat (first|exact Oi|exact Qu|exact iw|exact Ru|refine Pu ?_)) ?_
 .refine⟨by repeat (first|exact fa.Da _|refine fa.cons (k?.refl _) ?_|refine fa.cons (k?.wa _) ?_),[],?_⟩;simp only[wb,za,Bag,hai,D!,R?,Nat.mul_zero,Hag,HN hid]
 .intro i hi;refine⟨p6,by simp[f?,below,hlt,hwlt],?_⟩;simp only[Mah];exact DD hb (HD (ua _ _ hL) (ua _ _ (Ba _)))
 .intro i hi;refine Z.T Ie ?_;simp only[zz,d!,undef,Ee,q',C.Jf,C.va,oa,c!,d?,ba,St.ev,St.put,h!,n!,l?,Fa,pa,qa,Sa,D.ok,D.cells,one,reduceCtorEq,o!,l!,zm,Gs];refine gP.mk (λh=>?_) (λh=>?_)
  .simp only[sv hne,hwid,zz,d!,undef,Ee,q',C.Jf,C.va,oa,c!,d?,ba,St.ev,St.put,h!,n!,l?,Fa,pa,qa,Sa,D.ok,D.cells,one,reduceCtorEq,o!,l!,zm,hwlt,Hv,h,SM h];simp only[zz,d!,undef,Ee,q',C.Jf,C.va,oa,c!,d?,ba,St.ev,St.put,h!,n!,l?,Fa,pa,qa,Sa,D.ok,D.cells,one,reduceCtorEq,o!,l!,Tm.part,Aaf];obtain⟨u,hu⟩:∃u:Nat,(W[i] % 2 ^ 64).toNat=u:=⟨_,rfl⟩;have hw:aa .u64 W[i]=(u:Int):=by simp only[aa];omega
   rw[hw];have hu64:u<2 ^ 64:=U
   refine T.LB 8 (λj=>⟨[.own id (v+8*i+j),a!,a!,a!,a!,a!,a!,.v (g! .u64 (u / 256 ^ j:Nat)),.own m? 0,.v (g! .i64 W.length),.v (g! .i64 i),a!,a!,a!,a!,a!,.v (g! .i64 j),a!,a!,a!,a!,a!,a!,a!,a!,a!,a!,a!],m.set id (i? 1 (v+8*i+j) (L++za (wb (W.take i))++za (Yc j u)))⟩) ?_ ?_ ?_ (by repeat (first|exact Oi|exact Qu|exact iw|exact Ru|refine Pu ?_)) ?_
   .refine⟨by simp only[Yaj,aak];repeat (first|exact fa.Da _|refine fa.cons (k?.refl _) ?_|refine fa.cons (k?.wa _) ?_),[],?_⟩;simp only[Yc,za,D!,R?,Hag]
   .intro i hi;refine⟨p6,by simp[f?,below,hlt,hwlt],?_⟩;simp only[Mah];exact DD hb (HD (HD (ua _ _ hL) (ua _ _ (Ba _))) (ua _ _ (Ba _)))
   .intro j hj;refine Z.T Ie ?_;simp only[zz,d!,undef,Ee,q',C.Jf,C.va,oa,c!,d?,ba,St.ev,St.put,h!,n!,l?,Fa,pa,qa,Sa,D.ok,D.cells,one,reduceCtorEq,o!,l!,zm,hid,hlt,WA j U,Fae,bg9,iY,pai];refine gP.mk (λh=>⟨?_,U,?_⟩) (λh=>?_)
    .simp[Ya,Zb,Hh];omega
    .simp only[gx,Dk,←H!,jai];exact At.mk _ _ _ _ (by repeat (first|exact fa.Da _|refine fa.cons (k?.refl _) ?_|refine fa.cons (k?.wa _) ?_))
    .obtain rfl:j=8:=U
     exact⟨rfl,At.same _ _ _ (by repeat (first|exact fa.Da _|refine fa.cons (k?.refl _) ?_|refine fa.cons (k?.wa _) ?_))⟩
   .simp only[zz,d!,undef,Ee,q',C.Jf,C.va,oa,c!,d?,ba,St.ev,St.put,h!,n!,l?,Fa,pa,qa,Sa,D.ok,D.cells,one,reduceCtorEq,o!,l!];refine Z.T Ie ?_;simp only[zz,d!,undef,Ee,q',C.Jf,C.va,oa,c!,d?,ba,St.ev,St.put,h!,n!,l?,Fa,pa,qa,Sa,D.ok,D.cells,one,reduceCtorEq,o!,l!,WA i U,h];simp only[BP h,Dk,←H!,Xai,qai,←Nat.add_assoc,hu];exact At.same _ _ _ (by repeat (first|exact fa.Da _|refine fa.cons (k?.refl _) ?_|refine fa.cons (k?.wa _) ?_))
  .obtain rfl:i=W.length:=U
   exact⟨rfl,At.same _ _ _ (by repeat (first|exact fa.Da _|refine fa.cons (k?.refl _) ?_|refine fa.cons (k?.wa _) ?_))⟩
 .simp only[zz,d!,undef,Ee,q',C.Jf,C.va,oa,c!,d?,ba,St.ev,St.put,h!,n!,l?,Fa,pa,qa,Sa,D.ok,D.cells,one,reduceCtorEq,o!,l!];refine Z.T Ie ?_;simp only[zz,d!,undef,Ee,q',C.Jf,C.va,oa,c!,d?,ba,St.ev,St.put,h!,n!,l?,Fa,pa,qa,Sa,D.ok,D.cells,one,reduceCtorEq,o!,l!,υ]
def I5(p:PsJ):D:=.agg [Ka p.d,Ka p.m,Ka p.k,Ka p.c]
def DS(l:List PsJ):D:=.sl 4 (l.map I5)
def Gz(r:R!):D:=.agg [Ka r.h,Ka r.mo,Ka r.d,Ka r.ni,Ka r.nh,Ka r.nm,Ka r.nk,Ka r.nc,DS r.ps]
theorem Qm:∀l:List PsJ,ea (l.map I5)=a29
 |[]=>rfl
 |p::l=>by simp only[w?,ea,Bool.and_eq_true];exact⟨rfl,Qm l⟩
theorem uac{l:List PsJ}(h:i<a00 l):(l.map I5)[i]?=M (.agg [.v (g! .i64 l[i].d),.v (g! .i64 l[i].m),.v (g! .i64 l[i].k),.v (g! .i64 l[i].c)]):=by
 rw[Oag,List.getElem?_eq_getElem h];rfl
theorem FA(r:R!):sa (Gz r)=a29:=by
 simp[Gz,sa,ea,Ka,DS,Qm]
theorem bf6(m:List Ent) (id v lo n:Nat) (L:List (BitVec 8)) (h:m[id]?=M (i? 1 v (za L))) (hl:lo+n<=a00 L) (h63:n<2 ^ 63) :
 CallT al 54 [.view id v lo n] m λd m'=>d=Ka (Wj ((L.drop lo).take n)).toNat/\m'=m:=by
 refine wQ (R:=λd=>d=Ka (Wj ((L.drop lo).take n)).toNat) 3 ?_;rw[w?,D!,T3 h (Ba L) (by rw[Ya];exact hl)];rw[show(List.take n (Φ lo (za L)))=za ((L.drop lo).take n) by simp[za,List.map_take,Tai]];exact(bf7 _ (by simp;omega)).mono λd m' h=>⟨h,by rw[h];rfl⟩
def uE:D:=.v (.slice u4 0 0)
def CM(r:R!):D:=if r.ps.length<=4096 then .tup [.sl 1 (za (xm r)),Ka 0]else .tup [uE,Ka 4]
theorem aY1(r:R!) (hlen:r.ps.length<2 ^ 63):CallT al 52 [Gz r] [] λd m'=>ob 5 m' d=CM r:=by
 refine Lb k52.ok k52.nm (Z.T Ie ?_);simp only[k52,Kf.of,Gz,DS,Ka,zc,Tm.part,L!,J?,K!,L?,H?,K?,D.Xb,Pa,Wa,bound,Ta,zz,d!,undef,Ee,q',C.Jf,C.va,oa,c!,d?,ba,St.ev,St.put,h!,n!,l?,Fa,pa,qa,Sa,D.ok,D.cells,one,reduceCtorEq,o!,l!];refine gP.mk (λh=>?_) (λh=>?_)
 .rw[CM,s7];rfl
 .have hk:r.ps.length<=4096:=U
  have hk':((a00 r.ps:Nat):Int)<=4096:=U
  simp (disch:=omega) only[De];refine⟨U,?_⟩;refine La (xY _ 1 0 [] _ rfl (by simp[Ent.below,f?,below,ua,Qm]) rfl p6) ?_;simp only[zz,d!,undef,Ee,q',C.Jf,C.va,oa,c!,d?,ba,St.ev,St.put,h!,n!,l?,Fa,pa,qa,Sa,D.ok,D.cells,one,reduceCtorEq,o!,l!,zc,Tm.part,L!,J?,K!,L?,H?,K?,D.Xb,Pa,Wa,bound,Ta,Ka];refine La (PT _ 1 4 3 _ [r.h,r.mo,r.d,r.ni,r.nh,r.nm,r.nk,r.nc,(a00 r.ps:Int)] rfl rfl s6 (by simp[Ent.below,f?,below,ua,Qm,Ba]) (by simp[Ba]) (by simp[Ya,Zb])) ?_;simp only[zz,d!,undef,Ee,q',C.Jf,C.va,oa,c!,d?,ba,St.ev,St.put,h!,n!,l?,Fa,pa,qa,Sa,D.ok,D.cells,one,reduceCtorEq,o!,l!,zc,Tm.part,L!,J?,K!,L?,H?,K?,D.Xb,Pa,Wa,bound,Ta,Ka];obtain⟨lenB,hlenB⟩:∃x,Yc 4 ((72+32*(a00 r.ps:Int)) % 4294967296).toNat=x:=⟨_,rfl⟩;have hlB:lenB.length=4:=by rw[←hlenB,Zb]
  rw[hlenB];refine T.LB r.ps.length (λi=>⟨[a!,a!,a!,a!,a!,a!,.own 1 (76+32*i),a!,a!,a!,a!,a!,a!,a!,a!,a!,a!,a!,a!,a!,a!,a!,a!,a!,a!,a!,a!,a!,a!,a!,a!,a!,a!,a!,a!,a!,a!,a!,a!,a!,a!,a!,a!,a!,a!,a!,a!,a!,.sl 4 (r.ps.map I5),.v (g! .i64 r.ps.length),.v (g! .i64 i),a!,a!,a!,a!,a!,a!,a!,a!,a!,a!,a!,a!,a!,a!,a!,a!,a!,a!,a!,a!],
   [i? 9 0 [Gz r],i? 1 (76+32*i) (za (lenB++wb (sH r)++wb ((r.ps.take i).flatMap xw)))]⟩) ?_ ?_ ?_ (by repeat (first|exact Oi|exact Qu|exact iw|exact Ru|refine Pu ?_)) ?_
  .refine At.cut 2 (by repeat (first|exact fa.Da _|refine fa.cons (k?.refl _) ?_|refine fa.cons (k?.wa _) ?_)) ?_;simp only[Bag,hai,QT,R?,Dk];rfl
  .intro i hi;refine⟨p6,by simp[f?,below,ua,Qm],by simp[Ent.below,f?,ua,Ba,FA,bb]⟩
  .intro i hi;refine Z.T Ie ?_;simp only[zz,d!,undef,Ee,q',C.Jf,C.va,oa,c!,d?,ba,St.ev,St.put,h!,n!,l?,Fa,pa,qa,Sa,D.ok,D.cells,one,reduceCtorEq,o!,l!,Gs];refine gP.mk (λhi'=>?_) (λhi'=>?_)
   .simp only[zz,d!,undef,Ee,q',C.Jf,C.va,oa,c!,d?,ba,St.ev,St.put,h!,n!,l?,Fa,pa,qa,Sa,D.ok,D.cells,one,reduceCtorEq,o!,l!,zc,Tm.part,L!,J?,K!,L?,H?,K?,D.Xb,Pa,Wa,bound,Ta,hi',uac hi'];refine La (PT _ 1 (76+32*i) 3 _ (xw r.ps[i]) rfl rfl s6 (by simp[Ent.below,f?,below,ua,Ba,bb,FA]) (Ba _) (by simp only[Ya,G!,Hh,yV (Nat.le_of_lt hi'),hlB,xw,sH,w!,A?];omega)) ?_;simp only[zz,d!,undef,Ee,q',C.Jf,C.va,oa,c!,d?,ba,St.ev,St.put,h!,n!,l?,Fa,pa,qa,Sa,D.ok,D.cells,one,reduceCtorEq,o!,l!,zc,Tm.part,L!,J?,K!,L?,H?,K?,D.Xb,Pa,Wa,bound,Ta,WA i U,hi'];refine At.cut 2 (by repeat (first|exact fa.Da _|refine fa.cons (k?.refl _) ?_|refine fa.cons (k?.wa _) ?_)) ?_;simp only[LW hi',Dk,H!];rfl
   .obtain rfl:i=a00 r.ps:=U
    exact⟨rfl,At.same _ _ _ (by repeat (first|exact fa.Da _|refine fa.cons (k?.refl _) ?_|refine fa.cons (k?.wa _) ?_))⟩
  .simp only[zz,d!,undef,Ee,q',C.Jf,C.va,oa,c!,d?,ba,St.ev,St.put,h!,n!,l?,Fa,pa,qa,Sa,D.ok,D.cells,one,reduceCtorEq,o!,l!];refine Z.T Ie ?_;simp only[zz,d!,undef,Ee,q',C.Jf,C.va,oa,c!,d?,ba,St.ev,St.put,h!,n!,l?,Fa,pa,qa,Sa,D.ok,D.cells,one,reduceCtorEq,o!,l!,zc,Tm.part,L!,J?,K!,L?,H?,K?,D.Xb,Pa,Wa,bound,Ta,υ,Ya,G!,Hh,jt,hlB];have hrw:(sH r).length=9:=rfl;rw[hrw];refine⟨U,?_⟩;refine La (bf6 _ 1 (76+32*a00 r.ps) 4 _ (lenB++wb (sH r)++wb (r.ps.flatMap xw)) rfl (by simp only[G!,Hh,jt,hlB,hrw];omega) U) ?_;rw[show((lenB++wb (sH r)++wb (r.ps.flatMap xw)).drop 4).take (4+8*9+8*(4*a00 r.ps)-4)=Qg r by
    rw[H!,←hlB,List.drop_left,Ψ (by simp only[G!,Hh,jt,hlB,hrw];omega)];rfl]
   simp only[zz,d!,undef,Ee,q',C.Jf,C.va,oa,c!,d?,ba,St.ev,St.put,h!,n!,l?,Fa,pa,qa,Sa,D.ok,D.cells,one,reduceCtorEq,o!,l!,zc,Tm.part,L!,J?,K!,L?,H?,K?,D.Xb,Pa,Wa,bound,Ta,Ka];refine La (xY _ 1 (76+32*a00 r.ps) _ _ rfl (by simp[Ent.below,f?,below,ua,Ba,bb,FA]) (Ba _) (by simp only[Ya,G!,Hh,jt,hlB,hrw];omega)) ?_;simp only[zz,d!,undef,Ee,q',C.Jf,C.va,oa,c!,d?,ba,St.ev,St.put,h!,n!,l?,Fa,pa,qa,Sa,D.ok,D.cells,one,reduceCtorEq,o!,l!,zc,Tm.part,L!,J?,K!,L?,H?,K?,D.Xb,Pa,Wa,bound,Ta];have hc:=(Wj (Qg r)).isLt;rw[aP5 hc];rw[bE];simp only[w?,D!];rw[mA rfl (MR (Ba _) (Ba _)),yJ];rw[CM,J hk,xm,Qg,←hlenB,show((72+32*(a00 r.ps:Int)) % 4294967296).toNat=72+32*a00 r.ps by omega];simp only[Dk,H!,Ka]
theorem aK5(b:BitVec 8) (i:Nat) (h:i<8):(bif D1 (aa .i64 (8*(i:Int))<0)then u4 else M (Value.int .u64 (aa .u64 (aa .u64 (b.toNat:Int)*((2 ^ min (aa .i64 (8*(i:Int))).toNat IntKind.u64.bits:Nat):Int)))))=M (Value.int .u64 ((256 ^ i*b.toNat:Nat):Int)):=by
 have hb:=b.isLt;have e1:aa .i64 (8*(i:Int))=((8*i:Nat):Int):=by rw[De U];omega
 rw[e1,Wb U,oag,show min (8*i) IntKind.u64.bits=8*i from qag (by show 8*i<=64;omega)];rw[show D1 (((8*i:Nat):Int)<0)=false by simp;omega,cond_false];rw[show(2:Nat) ^ (8*i)=256 ^ i by rw[bak]];have hp:256 ^ i<=256 ^ 7:=Jah s6 U;rw[show((b.toNat:Int)*((256 ^ i:Nat):Int))=((256 ^ i*b.toNat:Nat):Int) by rw[Nat.mul_comm];norm_cast];rw[Wb]
 calc 256 ^ i*b.toNat<=256 ^ 7*255:=sah hp U
  _<18446744073709551616:=s6
theorem bj0(a:Nat) (i:Nat) (b:BitVec 8) (ha:a<256 ^ i) (h:i<8):cx Nat.lor .u64 (a:Int) ((256 ^ i*b.toNat:Nat):Int)=g! .u64 ((a+256 ^ i*b.toNat:Nat):Int):=by
 have hb:=b.isLt;have hp:256 ^ i<=256 ^ 7:=Jah s6 U;have h1:a+256 ^ i*b.toNat<18446744073709551616:=by
  calc a+256 ^ i*b.toNat<256 ^ i+256 ^ i*b.toNat:=Nat.add_lt_add_right ha _
   _=256 ^ i*(b.toNat+1):=by rw[Xai,qai,Qah]
   _<=256 ^ 7*256:=sah hp U
   _=18446744073709551616:=s6
 generalize hq:256 ^ i*b.toNat=q at h1⊢;have e1:((a:Int) % wv .u64).toNat=a:=by simp only[wv];omega
 have e2:((q:Int) % wv .u64).toNat=q:=by simp only[wv];omega
 unfold cx;rw[e1,e2];have e3:Nat.lor a q=a+q:=by
  have h3:(2:Nat) ^ (8*i)=256 ^ i:=by rw[bak]
  have h2:=Nat.two_pow_add_eq_or_of_lt (i:=8*i) (b:=a) (by rw[h3];exact ha) b.toNat;rw[h3,hq]at h2;show a ||| q=a+q;rw[Nat.or_comm,←h2,Qah]
 rw[e3,Wb h1]
theorem AZ(m:List Ent) (Nd v n:Nat) (bs:List (BitVec 8)) (hid:m[Nd]?=M (i? 1 v [.agg [.sl 1 (za bs)]])) (hb:m.all (Ent.below m.length)=a29) (hn:n<=a00 bs) (hn8:n<=8) :
 CallT al 68 [.ref Nd v 0 0,.v (g! .i64 n)] m λd m'=>d=.v (g! .u64 (Rh (bs.take n):Nat))/\m'=m.set Nd (i? 1 v [.agg [.sl 1 (za (bs.drop n))]]):=by
 have hlt:Nd<a00 m:=(Τ.1 hid).1;refine Lb k68.ok k68.nm (Z.T Ie ?_);simp only[k68,Kf.of,zz,d!,undef,Ee,q',C.Jf,C.va,oa,c!,d?,ba,St.ev,St.put,h!,n!,l?,Fa,pa,qa,Sa,D.ok,D.cells,one,reduceCtorEq,o!,l!];refine T.LB n (λi=>⟨[.ref Nd v 0 0,.v (g! .i64 n),a!,a!,a!,.v (g! .u64 (Rh (bs.take i):Nat)),a!,.v (g! .i64 n),.v (g! .i64 i),a!,a!,a!,a!,a!,a!,a!,a!,a!,a!,a!,a!,a!,a!,a!,a!,a!,a!,a!,a!,a!,a!,a!,a!,a!,a!],m⟩) ?_ ?_ ?_ (by repeat (first|exact Oi|exact Qu|exact iw|exact Ru|refine Pu ?_)) ?_
 .exact At.same _ _ _ (by repeat (first|exact fa.Da _|refine fa.cons (k?.refl _) ?_|refine fa.cons (k?.wa _) ?_))
 .intro i hi;exact⟨p6,by simp[Ent.below,f?,below,ua,bb,Dq,hlt],hb⟩
 .intro i hi;refine Z.T Ie ?_;rcases Ο i n with h|h
  .simp only[zz,d!,undef,Ee,q',C.Jf,C.va,oa,c!,d?,ba,St.ev,St.put,h!,n!,l?,Fa,pa,qa,Sa,D.ok,D.cells,one,reduceCtorEq,o!,l!,zc,Tm.part,L!,J?,K!,L?,H?,K?,D.Xb,Pa,Wa,bound,Ta,zm,Gs,h,hid,Ew (ν h hn),WA i U];rw[aK5 _ _ U];have hlt':=Yy (bs.take i);rw[U',qag U]at hlt';simp only[zz,d!,undef,Ee,q',C.Jf,C.va,oa,c!,d?,ba,St.ev,St.put,h!,n!,l?,Fa,pa,qa,Sa,D.ok,D.cells,one,reduceCtorEq,o!,l!,bj0 _ _ _ hlt' (ν h hn8),WA i U,h];rw[←HJ (ν h hn)];exact At.same _ _ _ (by repeat (first|exact fa.Da _|refine fa.cons (k?.refl _) ?_|refine fa.cons (k?.wa _) ?_))
  .obtain rfl:i=n:=U
   simp only[zz,d!,undef,Ee,q',C.Jf,C.va,oa,c!,d?,ba,St.ev,St.put,h!,n!,l?,Fa,pa,qa,Sa,D.ok,D.cells,one,reduceCtorEq,o!,l!,zc,Tm.part,L!,J?,K!,L?,H?,K?,D.Xb,Pa,Wa,bound,Ta,Gs,uaj];exact At.same _ _ _ (by repeat (first|exact fa.Da _|refine fa.cons (k?.refl _) ?_|refine fa.cons (k?.wa _) ?_))
 .simp only[zz,d!,undef,Ee,q',C.Jf,C.va,oa,c!,d?,ba,St.ev,St.put,h!,n!,l?,Fa,pa,qa,Sa,D.ok,D.cells,one,reduceCtorEq,o!,l!];refine Z.T Ie ?_;simp only[zz,d!,undef,Ee,q',C.Jf,C.va,oa,c!,d?,ba,St.ev,St.put,h!,n!,l?,Fa,pa,qa,Sa,D.ok,D.cells,one,reduceCtorEq,o!,l!,zc,Tm.part,L!,J?,K!,L?,H?,K?,D.Xb,Pa,Wa,bound,Ta,hid,Ya];refine⟨hn,?_⟩;rw[show(Φ n (za bs)).take (a00 bs-n)=za (bs.drop n) by
   rw[Ψ (by simp[Ya])];simp[za,Tai]]
theorem yY(m:List Ent) (Nd v:Nat) (bs:List (BitVec 8)) (hid:m[Nd]?=M (i? 1 v [.agg [.sl 1 (za bs)]])) (hb:m.all (Ent.below m.length)=a29) (hn:4<=a00 bs) :
 CallT al 53 [.ref Nd v 0 0] m λd m'=>d=Ka (Rh (bs.take 4):Nat)/\m'=m.set Nd (i? 1 v [.agg [.sl 1 (za (bs.drop 4))]]):=by
 refine Lb k53.ok k53.nm (Z.T Ie ?_);simp only[k53,Kf.of,zz,d!,undef,Ee,q',C.Jf,C.va,oa,c!,d?,ba,St.ev,St.put,h!,n!,l?,Fa,pa,qa,Sa,D.ok,D.cells,one,reduceCtorEq,o!,l!];refine La (AZ m Nd v 4 bs hid hb hn U) ?_;have h:=Yy (bs.take 4);rw[U',qag U]at h;simp only[zz,d!,undef,Ee,q',C.Jf,C.va,oa,c!,d?,ba,St.ev,St.put,h!,n!,l?,Fa,pa,qa,Sa,D.ok,D.cells,one,reduceCtorEq,o!,l!];rw[ab5 _ U];rfl
theorem ad3(m:List Ent) (Nd v:Nat) (bs:List (BitVec 8)) (hid:m[Nd]?=M (i? 1 v [.agg [.sl 1 (za bs)]])) (hb:m.all (Ent.below m.length)=a29) (hn:8<=a00 bs) :
 CallT al 56 [.ref Nd v 0 0] m λd m'=>d=Ka (vo (Rh (bs.take 8)))/\m'=m.set Nd (i? 1 v [.agg [.sl 1 (za (bs.drop 8))]]):=by
 refine Lb k56.ok k56.nm (Z.T Ie ?_);simp only[k56,Kf.of,zz,d!,undef,Ee,q',C.Jf,C.va,oa,c!,d?,ba,St.ev,St.put,h!,n!,l?,Fa,pa,qa,Sa,D.ok,D.cells,one,reduceCtorEq,o!,l!];refine La (AZ m Nd v 8 bs hid hb hn U) ?_;simp only[zz,d!,undef,Ee,q',C.Jf,C.va,oa,c!,d?,ba,St.ev,St.put,h!,n!,l?,Fa,pa,qa,Sa,D.ok,D.cells,one,reduceCtorEq,o!,l!];rfl
theorem aU7(n:Nat) (bs:List (BitVec 8)) (hn:n<=a00 bs) (hn8:n<=8) :
 CallT al 64 [.sl 1 (za bs),.v (g! .i64 n)] [] λd m'=>d=.v (g! .u64 (Rh (bs.take n):Nat)):=by
 refine Lb k64.ok k64.nm (Z.T Ie ?_);simp only[k64,Kf.of,zz,d!,undef,Ee,q',C.Jf,C.va,oa,c!,d?,ba,St.ev,St.put,h!,n!,l?,Fa,pa,qa,Sa,D.ok,D.cells,one,reduceCtorEq,o!,l!];refine T.LB n (λj=>⟨[.sl 1 (za bs),a!,a!,a!,a!,.v (g! .u64 (Rh ((bs.take n).drop (n-j)):Nat)),.v (g! .i64 ((n:Int)-j-1)),a!,a!,a!,a!,a!,a!,a!,a!,a!,a!,a!,a!,a!,a!,a!],[]⟩) ?_ ?_ ?_ (by repeat (first|exact Oi|exact Qu|exact iw|exact Ru|refine Pu ?_)) ?_
 .refine At.same _ _ _ ?_;simp only[Nat.sub_zero];rw[De U,List.drop_of_length_le (by simp[U'];omega)]
  repeat (first|exact fa.Da _|refine fa.cons (k?.refl _) ?_|refine fa.cons (k?.wa _) ?_)
 .intro j hj;exact⟨p6,by simp[Ent.below,f?,below,ua,bb,Dq,Ba],p6⟩
 .intro j hj;refine Z.T Ie ?_;rcases Ο j n with h|h
  .have h1:(0:Int)<=(n:Int)-j-1:=U
   have h2:((n:Int)-j-1).toNat=n-j-1:=U
   simp only[zz,d!,undef,Ee,q',C.Jf,C.va,oa,c!,d?,ba,St.ev,St.put,h!,n!,l?,Fa,pa,qa,Sa,D.ok,D.cells,one,reduceCtorEq,o!,l!,zc,Tm.part,L!,J?,K!,L?,H?,K?,D.Xb,Pa,Wa,bound,Ta,h1,h2,Ew (show n-j-1<a00 bs by omega)];have hcons:(bs.take n).drop (n-(j+1))=bs[n-j-1]::(bs.take n).drop (n-j):=by
    rw[Eaf (by simp;omega),show n-(j+1)+1=n-j by omega];simp only[List.getElem_take];rfl
   rw[hcons,Rh];have hq:=Yy ((bs.take n).drop (n-j));rw[Δ,U',qag hn,show n-(n-j)=j by omega]at hq;generalize Rh ((bs.take n).drop (n-j))=q at hq⊢;have hq7:q<256 ^ 7:=ν hq (Jah s6 U);have hb:=(bs[n-j-1]).isLt;simp only[H?]at hq7;rw[iI (n:=(q:Int)*256) U,iI (n:=((bs[n-j-1]).toNat:Int)) U,iI U,De U];rw[show(q:Int)*256+((bs[n-j-1]).toNat:Int)=(((bs[n-j-1]).toNat+256*q:Nat):Int) by omega,show(n:Int)-j-1-1=(n:Int)-((j+1:Nat):Int)-1 by omega];exact⟨h,At.same _ _ _ (by repeat (first|exact fa.Da _|refine fa.cons (k?.refl _) ?_|refine fa.cons (k?.wa _) ?_))⟩
  .obtain rfl:j=n:=U
   have h1:¬(0:Int)<=(j:Int)-j-1:=U
   simp only[zz,d!,undef,Ee,q',C.Jf,C.va,oa,c!,d?,ba,St.ev,St.put,h!,n!,l?,Fa,pa,qa,Sa,D.ok,D.cells,one,reduceCtorEq,o!,l!,zc,Tm.part,L!,J?,K!,L?,H?,K?,D.Xb,Pa,Wa,bound,Ta,h1];exact At.same _ _ _ (by repeat (first|exact fa.Da _|refine fa.cons (k?.refl _) ?_|refine fa.cons (k?.wa _) ?_))
 .simp only[zz,d!,undef,Ee,q',C.Jf,C.va,oa,c!,d?,ba,St.ev,St.put,h!,n!,l?,Fa,pa,qa,Sa,D.ok,D.cells,one,reduceCtorEq,o!,l!];refine Z.T Ie ?_;simp only[zz,d!,undef,Ee,q',C.Jf,C.va,oa,c!,d?,ba,St.ev,St.put,h!,n!,l?,Fa,pa,qa,Sa,D.ok,D.cells,one,reduceCtorEq,o!,l!,zc,Tm.part,L!,J?,K!,L?,H?,K?,D.Xb,Pa,Wa,bound,Ta,Nat.sub_self]
def wC(m:List Ent) (p:Nat×Nat) (x:D):List Ent:=
 match m[p.1]? with
 |some (i? S v [d])=>m.set p.1 (i? S v [d.Xb p.2 [x]])
 |_=>m
def UL(bs:List (BitVec 8)):Ent:=i? 1 0 [.agg [.sl 1 (za bs)]]
def Xn(Nd:Nat):List (Nat×Nat)->List (BitVec 8)->List Ent->List Ent
 |[],_,m=>m
 |p::rs,bs,m=>Xn Nd rs (bs.drop 8) (wC (m.set Nd (UL (bs.drop 8))) p (Ka (vo (Rh (bs.take 8)))))
theorem FG(Nd:Nat) (p:Nat×Nat):∀(rs:List (Nat×Nat)) (bs:List (BitVec 8)) (m:List Ent),
 Xn Nd (rs++[p]) bs m=wC ((Xn Nd rs bs m).set Nd (UL ((bs.drop (8*a00 rs)).drop 8))) p (Ka (vo (Rh ((bs.drop (8*a00 rs)).take 8))))
 |[],bs,m=>by simp[Xn]
 |q::rs,bs,m=>by
  simp only[B',Xn,FG Nd p rs,w!,Mag];rw[show 8+8*a00 rs=8*(a00 rs+1) by omega]
def nK(rs:List (Nat×Nat)):List D:=rs.map λp=>.ref p.1 0 0 p.2
structure I! (Nd fid:Nat) (rs:List (Nat×Nat)) (bs:List (BitVec 8)) (m:List Ent):Prop where
 hrid:m[Nd]?=M (UL bs)
 hfid:m[fid]?=M (i? 1 0 (nK rs))
 ne:Nd≠fid
 hbelow:m.all (Ent.below m.length)=a29
 hcell:∀p∈rs,p.1≠Nd/\p.1≠fid/\∃S d,m[p.1]?=M (i? S 0 [d])/\((∃l,d=.agg l/\p.2<a00 l)\/(∃n,d=Ka n/\p.2=0))
theorem SW{k:Nat}{l:List D}{j:Nat}{x:D}(h:f? k l=a29) (hx:below k x=a29):f? k (Pa l j [x])=a29:=by
 have h1:∀r:List D,f? k r=a29↔∀d∈r,below k d=a29:=by
  intro r
  induction r with
  |nil=>simp[f?]
  |cons d r ih=>simp[f?,ih]
 rw[h1]at h⊢;intro d hd;simp only[Pa,List.mem_append,List.mem_singleton]at hd;rcases hd with(hd|hd)|hd
 .exact h d (Xaf hd)
 .rw[hd];exact hx
 .exact h d (List.mem_of_mem_drop hd)
theorem I!.step{Nd fid:Nat}{rs:List (Nat×Nat)}{bs:List (BitVec 8)}{m:List Ent}(h:I! Nd fid rs bs m) (p:Nat×Nat) (hp:p∈rs) (n:Int) :
 I! Nd fid rs (bs.drop 8) (wC (m.set Nd (UL (bs.drop 8))) p (Ka n)):=by
 obtain⟨h1,h2,S,d,h3,h4⟩:=h.hcell p hp;have hr:=(Τ.1 h.hrid).1;have hp':=(Τ.1 h3).1;have hm:wC (m.set Nd (UL (bs.drop 8))) p (Ka n)=(m.set Nd (UL (bs.drop 8))).set p.1 (i? S 0 [d.Xb p.2 [Ka n]]):=by
  unfold wC;rw[sv (Ne.symm h1),h3]
 have hdb:below m.length d=a29:=by
  have:=List.all_eq_true.1 h.hbelow _ (List.mem_of_getElem? h3);simpa [Ent.below,f?] using this
 have hub:below m.length (d.Xb p.2 [Ka n])=a29:=by
  rcases h4 with⟨l,rfl,_⟩|⟨k,rfl,_⟩
  .simp only[D.Xb,below]at hdb⊢;exact SW hdb (by simp[Ka,below])
  .simp[D.Xb,Ka,below]
 rw[hm];refine⟨?_,?_,h.ne,?_,λq hq=>?_⟩
 .rw[sv h1,BJ hr]
 .rw[sv h2,sv h.ne,h.hfid]
 .simp only[Mah];exact DD (DD h.hbelow (by simp[UL,Ent.below,f?,below,ua,Ba])) (by simpa [Ent.below,f?] using hub)
 .obtain⟨k1,k2,S',d',k3,k4⟩:=h.hcell q hq;refine⟨k1,k2,?_⟩;by_cases hpq:p.1=q.1
  .rw[←hpq,h3]at k3;injection k3 with k3;injection k3 with k3a k3b k3c;injection k3c with k3c _;subst k3a k3c;refine⟨S,_,by rw[←hpq,BJ (by simpa using hp')],?_⟩;rcases h4 with⟨l,rfl,hl⟩|⟨k,rfl,hk⟩
   .rcases k4 with⟨l',hl',hq2⟩|⟨k',hk',_⟩
    .injection hl' with hl';subst hl';refine .inl ⟨_,rfl,?_⟩;simp only[Pa,G!,U',Δ,w!,A?];omega
    .simp[Ka]at hk'
   .rcases k4 with⟨l',hl',_⟩|⟨k',_,hq2⟩
    .simp[Ka]at hl'
    .exact .inr ⟨n,rfl,hq2⟩
  .exact⟨S',d',by rw[sv hpq,sv (Ne.symm k1),k3],k4⟩
theorem I!.many{Nd fid:Nat}{rs:List (Nat×Nat)}:∀(qs:List (Nat×Nat)) (bs:List (BitVec 8)) (m:List Ent),(∀p∈qs,p∈rs)->I! Nd fid rs bs m->I! Nd fid rs (bs.drop (8*a00 qs)) (Xn Nd qs bs m)
 |[],bs,m,_,h=>by simpa [Xn] using h
 |p::qs,bs,m,hs,h=>by
  have:=I!.many qs (bs.drop 8) _ (λq hq=>hs q (by simp[hq])) (h.step p (hs p p6) (vo (Rh (bs.take 8))));rw[Mag,show 8+8*a00 qs=8*(p::qs).length by simp;omega]at this;exact this
theorem K6(m:List Ent) (p:Nat×Nat) (x:D):(wC m p x).length=a00 m:=by
 unfold wC;split<;>simp
theorem PC(Nd:Nat):∀(rs:List (Nat×Nat)) (bs:List (BitVec 8)) (m:List Ent),(Xn Nd rs bs m).length=a00 m
 |[],_,_=>rfl
 |p::rs,bs,m=>by rw[Xn,PC Nd rs,K6,Mah]
theorem lY(m:List Ent) (Nd fid:Nat) (rs:List (Nat×Nat)) (bs:List (BitVec 8)) (h:I! Nd fid rs bs m) (hl:8*a00 rs<=a00 bs) (hl62:rs.length<2 ^ 62) :
 CallT al 55 [.fn 56 [.ref Nd 0 0 0] [],.own fid 0] m λd m'=>d=.tup []/\m'=Xn Nd rs bs m:=by
 have hfl:fid<a00 m:=(Τ.1 h.hfid).1;have hrl:Nd<a00 m:=(Τ.1 h.hrid).1;have hlen:(nK rs).length=a00 rs:=by simp[nK]
 refine Lb k55.ok k55.nm (Z.T Ie ?_);simp only[k55,Kf.of,h.hfid,hlen,zz,d!,undef,Ee,q',C.Jf,C.va,oa,c!,d?,ba,St.ev,St.put,h!,n!,l?,Fa,pa,qa,Sa,D.ok,D.cells,one,reduceCtorEq,o!,l!];refine T.K7 ?_;refine T.LB rs.length (λi=>⟨[.fn 56 [.ref Nd 0 0 0] [],a!,a!,a!,a!,a!,.own fid 0,.v (g! .i64 rs.length),.v (g! .i64 i),a!,a!,a!,a!,a!,a!,a!,a!],Xn Nd (rs.take i) bs m⟩) ?_ ?_ ?_ (by repeat (first|exact Oi|exact Qu|exact iw|exact Ru|refine Pu ?_)) ?_
 .exact At.same _ _ _ (by repeat (first|exact fa.Da _|refine fa.cons (k?.refl _) ?_|refine fa.cons (k?.wa _) ?_))
 .intro i hi;have hk:=I!.many (rs.take i) bs m (λp hp=>Xaf hp) h;exact⟨by simp[PC],by simp[f?,below,PC,hfl,hrl],hk.hbelow⟩
 .intro i hi;refine Z.T Ie ?_;rcases Ο i rs.length with hi'|hi'
  .have hk:=I!.many (rs.take i) bs m (λp hp=>Xaf hp) h;rw[U',qag hi]at hk;have hget:(nK rs)[i]?=M (.ref rs[i].1 0 0 rs[i].2):=by simp[nK,hi']
   simp only[zz,d!,undef,Ee,q',C.Jf,C.va,oa,c!,d?,ba,St.ev,St.put,h!,n!,l?,Fa,pa,qa,Sa,D.ok,D.cells,one,reduceCtorEq,o!,l!,zc,Tm.part,L!,J?,K!,L?,H?,K?,D.Xb,Pa,Wa,bound,Ta,Gs,hi',hlen,hk.hfid,hget,rF];rw[rF (k:=56) (first:=[.ref Nd 0 0 0]) (caps:=[]) rfl];simp only[zz,d!,undef,Ee,q',C.Jf,C.va,oa,c!,d?,ba,St.ev,St.put,h!,n!,l?,Fa,pa,qa,Sa,D.ok,D.cells,one,reduceCtorEq,o!,l!];refine La (ad3 _ Nd 0 _ hk.hrid hk.hbelow a19) ?_;obtain⟨c1,c2,S,d,c3,c4⟩:=hk.hcell rs[i] (List.getElem_mem hi');have hc5:((Xn Nd (rs.take i) bs m).set Nd (i? 1 0 [.agg [.sl 1 (za ((bs.drop (8*i)).drop 8))]]))[rs[i].1]?=M (i? S 0 [d]):=by rw[sv (Ne.symm c1),c3]
   have hd:d.ok=a29/\rs[i].2+1<=a00 d.cells:=by
    rcases c4 with⟨l,rfl,hl'⟩|⟨k,rfl,hk'⟩
    .exact⟨rfl,hl'⟩
    .exact⟨rfl,by rw[hk'];simp[Ka,D.cells]⟩
   have hsn:Xn Nd (rs.take (i+1)) bs m=(List.set (Xn Nd (rs.take i) bs m) Nd (i? 1 0 [.agg [.sl 1 (za ((bs.drop (8*i)).drop 8))]])).set rs[i].1 (i? S 0 [d.Xb rs[i].2 [Ka (vo (Rh ((bs.drop (8*i)).take 8)))]]):=by
    rw[List.take_succ_eq_append_getElem hi',FG,U',qag hi];unfold wC;simp only[UL,hc5]
   have hwf:=WA i U;generalize hM:List.set (Xn Nd (rs.take i) bs m) Nd (i? 1 0 [.agg [.sl 1 (za ((bs.drop (8*i)).drop 8))]])=n6 at hc5 hsn⊢;rcases c4 with⟨l,rfl,hl'⟩|⟨k,rfl,hk'⟩
   .simp only[zz,d!,undef,Ee,q',C.Jf,C.va,oa,c!,d?,ba,St.ev,St.put,h!,n!,l?,Fa,pa,qa,Sa,D.ok,D.cells,one,reduceCtorEq,o!,l!,zc,Tm.part,L!,J?,K!,L?,H?,K?,D.Xb,Pa,Wa,bound,Ta,hc5,Ka,Nat.succ_le_of_lt hl',hwf,hi']at hsn⊢;exact⟨by repeat (first|exact fa.Da _|refine fa.cons (k?.refl _) ?_|refine fa.cons (k?.wa _) ?_),[],by rw[hsn,R?]⟩
   .simp only[zz,d!,undef,Ee,q',C.Jf,C.va,oa,c!,d?,ba,St.ev,St.put,h!,n!,l?,Fa,pa,qa,Sa,D.ok,D.cells,one,reduceCtorEq,o!,l!,zc,Tm.part,L!,J?,K!,L?,H?,K?,D.Xb,Pa,Wa,bound,Ta,hc5,Ka,hwf,hi',hk',List.headD_cons]at hsn⊢;exact⟨by repeat (first|exact fa.Da _|refine fa.cons (k?.refl _) ?_|refine fa.cons (k?.wa _) ?_),[],by rw[hsn,R?]⟩
  .obtain rfl:i=a00 rs:=U
   simp only[zz,d!,undef,Ee,q',C.Jf,C.va,oa,c!,d?,ba,St.ev,St.put,h!,n!,l?,Fa,pa,qa,Sa,D.ok,D.cells,one,reduceCtorEq,o!,l!,zc,Tm.part,L!,J?,K!,L?,H?,K?,D.Xb,Pa,Wa,bound,Ta,Gs,uaj];exact At.same _ _ _ (by repeat (first|exact fa.Da _|refine fa.cons (k?.refl _) ?_|refine fa.cons (k?.wa _) ?_))
 .refine EP.of ?_;simp only[zz,d!,undef,Ee,q',C.Jf,C.va,oa,c!,d?,ba,St.ev,St.put,h!,n!,l?,Fa,pa,qa,Sa,D.ok,D.cells,one,reduceCtorEq,o!,l!,υ]
end Go.Proofs.Dev
