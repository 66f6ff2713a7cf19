/-
  Contracts of the functions: each answers as its plain partial function says.
-/
import Derived.Test.YtadinajclolmnaaGreatDoorQ0
import Derived.Test.YtadinajclolmnaaGreatDoorQ1
import Derived.Test.YtadinajclolmnaaGreatDoorQ2
import Derived.Test.YtadinajclolmnaaGreatDoorQ3
open Option renaming some->M
open Go.Tm.Ex renaming go->n?,brk->o?,ret->v?
open And renaming intro->ak
open List renaming drop_eq_nil_iff->faj
open List.cons renaming inj->Taj
open Option renaming bind_some->b?
set_option linter.all false
set_option maxHeartbeats 1000000
set_option maxRecDepth 10000
namespace Go.Proofs.Dev
open Go Go.Tm
instance zI9{t0 t1 t2 r}:r? (Uo t0 t1 t2=M r) (k! Tryz.prog 9 [tr t0,Rn t1,da t2] (tr r)):=⟨λh=>by
 refine dk 79 k9 ?_
 simp only[k9,Kf.of,zs,ze]
 unfold Uo at h
 have q4:∀ (m:List Ent) (o:Option Int),sz true (.v (.int .i64 0)) m (o.map da)=M (.tup [.v (.int .i64 (o.getD 0)),.v (.bool o.isSome)],m):=λ_ o=>by cases o <;> rfl
 have q1:∀ (m:List Ent) (o:Option Int),sz false (.v (.int .i64 0)) m (o.map da)=M (.v (.int .i64 (o.getD 0)),m):=λ_ o=>by cases o <;> rfl
 have q2:∀ (k:Int) (x:Int) l,Er (.int .i64 k) (.v (.int .i64 x)) (em da l)=em da (ZC k x l):=λ_ _ _=>aG (e:=da)
 have q3:=λl=>MF (e:=da) (l:=l)
 exact pg (ak rm.eq_1 (ak Ns.eq_1 (ak Ms.eq_1 (ak tm.eq_1 (ak k30.eq_1 k29.eq_1))))) (.l (EN [9,8,33,8,9,8,81,48,17,10,433] [5]) (EN [9,48,9,8,81] [5]) [] (.z 2 (.j (EN [225] [5]) .o .o)) (.l (EN [56,345,24,17,10,209] [0,258]) (EN [112,289] [258]) [] (.b (.i k29 17 ⟨[.x [.i 0,.i 1,.i 2,.s (.own 3 0),.s (.own 4 0),.s (.own 5 0),.i 6,.i 7]],[.O 0,.O 1,.O 2,.ni 9 3,.ni 4 4,.ni 7 5]⟩ (.t [0,4,8,20,24,28]) (.j ⟨[.k 7,.p 49],[.o 0,.o 1,.h 2 [.g [.i 0,.i 1,.i 2,.p 3,.i 4,.i 5]],.o 3,.ci 4 3,.o 5]⟩ (.b (.i k30 19 ⟨[.x [.i 1,.i 2,.i 3,.s (.own 3 0),.s (.own 4 1),.s (.own 5 0),.i 4,.i 5]],[.O 0,.O 1,.H 2 [.g [.p 4,.k 1,.p 3]],.O 3,.Bi 4 1 0,.O 5]⟩ (.z 2 (.j ⟨[.k 2,.p 1,.k 1,.p 1],[.O 0,.O 1,.H 2 [.g [.p 4,.k 1,.p 3]],.O 3,.O 4,.O 5,.h 6 [.g [.p 6,.i 0,.i 1]],.o 8]⟩ (.t [0,4,8,12,274,20,24,32]) (.t [0,4,8,12,274,20]))) (.t [0,4,8,12,272,20])) .o) (.r (.f (EN [56,553,8,41] [0,8,16,48]) [0,260,8,24] .o)))) (.t [4])) .o))⟩
instance dad:C2 k27 Jr:=pg (ak k27.eq_1 Jr.eq_1) (.z 1 (.j (EN [32,2,265] []) .o .o))
instance gY:C1 bz9 ah:=pg (ak bz9.eq_1 ah.eq_1) (.b .o (.j (EN [8,9,40,2,489] [0]) .o (.b .o (.j (EN [8,49,72,2,417] [0]) .o (.b .o (.j (EN [8,121,72,2,345] [0]) .o (.b .o (.b .o (.j (EN [8,193,112,2,233] [0]) .o (.b .o (.j (EN [8,305,72,2,161] [0]) .o (.b .o (.j (EN [472,2,73] []) .o .o)))))))))))))
instance kO:C3 bu2 Se:=pg (ak (ak bu2.eq_1 Se.eq_1) Te.eq_1) (.l (EN [16,33,168,17,2,329] [0]) (EN [] []) [] (.z 6 (.j (EN [16,225,160,2,161] [0,8,16]) .o (.z 1 (.j (EN [16,57,144,185,144,2,17] [0]) .o .o)))) .o)
instance aco:C1 bs1 lu:=pg (ak bs1.eq_1 lu.eq_1) .o
instance vV:C3 bp7 Ye:=pg (ak bp7.eq_1 Ye.eq_1) (.z 4 (.j (EN [48,9,8,9,144,2,17] [8,16]) (.t [4,8]) .o))
instance ZX:C2 bp3 Wi:=pg (ak bp3.eq_1 Wi.eq_1) (.z 9 (.j (EN [32,9,8,9,8,2] [16,24]) (.b (.t [8,12]) (.j (EN [32,9,8,9,8,9,176,9,80,2,153] [16,24]) (.t [8,12]) .o)) .o))
instance tV:C2 bo4 Ph:=pg (ak (ak bo4.eq_1 Ph.eq_1) fk.eq_1) (.z 3 (.j ⟨[.k 2,.p 3,.k 1,.p 5],[.o 0,.o 1,.o 2,.o 3,.h 4 [.g [.p 2,.i 0]]]⟩ .o (.z 1 (.j (EN [16,257,2,625] [0,8,16,24,32]) .o (.l ⟨[.k 2,.p 1,.k 1,.p 30,.k 3,.p 2,.i 3,.p 73],[.o 0,.o 2,.o 3,.h 4 [.g [.i 0,.i 1,.i 2]]]⟩ ⟨[.k 4,.p 2,.k 1,.p 27],[.o 2,.h 4 [.g [.i 0,.i 1,.i 2]]]⟩ [0,8,12,16] (.b (.e ⟨[.k 2,.p 38],[.o 0,.o 1,.o 2,.h 3 [.g [.i 0,.i 1,.i 2]]]⟩ (.z 2 (.j (EN [16,305,136,2,441] [0,8,16,24]) .o (.z 8 (.j (EN [16,49,16,377,416,2,25] [0,8,16,24,32]) .o .o)))) .o) (.t [4,12])) .o)))))
instance l8:C2 k8 Tp:=pg (ak (ak k8.eq_1 Tp.eq_1) bl.eq_1) (.l (EN [33,8,2] []) (EN [] []) [] (.z 1 (.j (EN [161,2,97] []) .o .o)) .o)
noncomputable def n7(t0:List ka):((List (Int×Bool))×Int)->Option (Ex ((List (Int×Bool))×Int) Unit (Int×Int)):=λ(s1,s2)=>
 if s2<(t0.length:Int)then
  (e! t0 s2).bind λx3=>
  (ah x3).bind λx4=>
  if¬x4=0 then
   M (v? (s2,x4))
  else
  if(Uq s1 x3.Id).getD false=true then
   M (v? (s2,7))
  else
  M (n? ((ZC x3.Id true s1),(aa .i64 (s2+1))))
 else
 M (o? ())
noncomputable def aH6(t0:List ka):Option (Int×Int):=
 if 128<(t0.length:Int)then
  M (0,4)
 else
 (ja (n7 t0) (([]:List (Int×Bool)),0)).bind λy=>match y with
 |.inr v=>M v
 |.inl ()=>
 M (0,0)
def aQ2{m:List Ent}{o:Option Bool}:sz false (.v (.bool false)) m (o.map ya)=M (.v (.bool (o.getD false)),m):=by cases o<;>rfl
def bi4{k:Int}{b:Bool}{l:List (Int×Bool)}:Er (.int .i64 k) (.v (.bool b)) (em ya l)=em ya (ZC k b l):=aG (e:=ya)
def ad9{t0 r}(h:aH6 t0=M r):k! Tryz.prog 119 [Oh t0] (.tup [da r.1,da r.2]):=by
 refine dk 33 bC1 ?_;simp only[bC1,Kf.of,zs,ze];unfold aH6 at h;have q1:=@aQ2;have q2:=@bi4;have q3:=λl=>MF (e:=ya) (l:=l);exact pg @n7.eq_1 (.l (EN [113,10] [5]) (EN [] []) [] .o .o)
theorem QY{k:Int}{x:Bool}{q:Int}:∀{l:List (Int×Bool)},Uq (ZC k x l) q=if q=k then M x else Uq l q
 |[]=>rfl
 |(a,b)::l=>by
  unfold ZC;split
  .rename_i h;subst h;simp only[Uq];split<;>rfl
  .rename_i h;simp only[Uq,QY (l:=l)];by_cases h1:q=k
   .rw[J h1,J h1,s7]
   .rw[s7 h1,s7 h1]
theorem xae{t0:List ka}(hl:t0.length<=128) {r:Int×Int}:∀(l:List ka) (i:Nat) (seen:List Int) (s:List (Int×Bool)),t0.drop i=l->(∀x,seen.contains x=(Uq s x).getD false)->sf (i:Int) seen l=M r->
 ((
  ja (n7 t0) (s,(i:Int))).bind λy=>match y with
  |.inr v=>M v
  |.inl ()=>M (0,0))=M r
 |[],i,seen,s,hd,hs,h=>by
  unfold sf at h;have hi:t0.length<=i:=faj.1 hd;rw[Gb (b:=()) (by unfold n7;dsimp only;rw[s7])];exact h
 |f::l,i,seen,s,hd,hs,h=>by
  have hi:i<t0.length:=by
   by_cases hc:i<t0.length
   .exact hc
   .rw[faj.2 U]at hd;cases hd
  have hf:t0[i]=f/\t0.drop (i+1)=l:=by
   rw[List.drop_eq_getElem_cons hi]at hd;exact⟨(Taj hd).1,(Taj hd).2⟩
  unfold sf at h
  cases hc:ah f with
  |none=>rw[hc]at h;cases h
  |some c=>
   rw[hc]at h;have st:n7 t0 (s,(i:Int))=if¬c=0 then M (.ret ((i:Int),c))else if(Uq s f.Id).getD false=true then M (.ret ((i:Int),7))else M (.go (ZC f.Id true s,aa .i64 ((i:Int)+1))):=by
    unfold n7;dsimp only;rw[J,Ma hi,hf.1,b?,hc,b?]
   simp only[b?]at h;by_cases h0:c=0
   .rw[s7 (Classical.not_not.2 h0)]at h st;rw[hs f.Id]at h;by_cases h1:(Uq s f.Id).getD false=true
    .rw[J h1]at h st;rw[ep st];exact h
    .rw[s7 h1]at h st;rw[Ha U]at st;rw[Gc st];refine xae hl l (i+1) (f.Id::seen) _ hf.2 (λx=>?_) (by rw[←h];congr 1);rw[QY,List.contains_cons,hs x];by_cases hx:x=f.Id
     .rw[J hx];simp[hx]
     .rw[s7 hx];have:(x==f.Id)=false:=by simpa using hx
      rw[this,Bool.false_or]
   .rw[J h0]at h st;rw[ep st];exact h
def YD{t0 r}(h:Kk t0=M r):k! Tryz.prog 119 [Oh t0] (.tup [da r.1,da r.2]):=by
 refine ad9 ?_;unfold Kk at h;unfold aH6;split at h
 .rename_i hc;rw[J hc];exact h
 .rename_i hc;rw[s7 hc];exact xae U t0 0 [] [] rfl (λx=>rfl) h
instance acp{t0 r}:r? (Kk t0=M r) (k! Tryz.prog 119 [Oh t0] (.tup [da r.1,da r.2])):=⟨YD⟩
instance YT:C3 bw3 dj:=pg (ak (ak bw3.eq_1 dj.eq_1) Fg.eq_1) (.z 2 (.j (EN [8,9,8,25,152,2,465] [0,8]) .o (.z 1 (.j (EN [8,193,64,2,401] [0,8]) .o (.l (EN [24,17,48,9,416,17,2,137] [0]) (EN [] []) [] .o .o)))))
instance Q7:C3 bq6 Xa:=pg (ak bq6.eq_1 Xa.eq_1) (.z 1 (.e (EN [8,9,8,17,8,9] [0,16]) (.b .o (.b .o (.b .o (.b .o (.b .o (.b .o (.b .o (.b .o (.b .o (.j (EN [8,9,8,33,32,9,568,2,329] [0,8,16]) .o (.b .o (.j (EN [8,657,88,2,241] [0,8,16]) .o (.b .o (.j (EN [8,33,8,41,752,2,153] [0,16]) (.t [0,8]) .o)))))))))))))) .o))
instance KR:C2 k87 bd:=pg (ak (ak k87.eq_1 bd.eq_1) cg.eq_1) (.z 2 (.j (EN [16,17,176,2,969] [0,8]) .o (.z 2 (.j (EN [16,41,384,2,737] [0,8]) .o (.l (EN [16,49,472,17,2,625] [0,8]) (EN [] []) [] (.z 7 (.j (EN [16,81,2,457] [0,8,16]) .o (.z 1 (.e ⟨[.k 2,.p 10,.k 1,.p 78],[.o 0,.o 1,.o 2,.h 3 [.g [.i 0,.i 1]]]⟩ (.z 2 (.j (EN [16,713,104,2,345] [0,8,16,24]) .o .o)) (.z 1 (.j (EN [16,985,2,177] [0,8,16,24]) .o (.z 1 (.j (EN [16,73,448,465,160,2,17] [0,8]) .o .o)))))))) .o)))))
instance acq:C2 br8 nu:=pg (ak (ak br8.eq_1 nu.eq_1) Tn.eq_1) (.l (EN [24,17,40,19,41,88,17,10,361] [0,8,516]) (EN [32,9,40,11,41] [8,516]) [0,4,9] (.b (.z 3 (.j (EN [24,217,96,2,257] [0,8,16,24]) .o (.b .o (.a [[],[],[],[],[],[],[],[],[],[],[]] (.b .o (.a [[],[],[],[2],[]] (.t [0,4,520]))))))) (.t [4,8])) .o)
end Go.Proofs.Dev
