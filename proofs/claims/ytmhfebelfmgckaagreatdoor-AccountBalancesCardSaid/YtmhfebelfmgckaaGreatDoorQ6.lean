/-
  Contracts of the functions: each answers as its plain partial function says.
-/
import Derived.Test.YtmhfebelfmgckaaGreatDoorQ0
import Derived.Test.YtmhfebelfmgckaaGreatDoorQ1
import Derived.Test.YtmhfebelfmgckaaGreatDoorQ2
import Derived.Test.YtmhfebelfmgckaaGreatDoorQ3
open Option renaming some->M
open Go.Tm.Ex renaming go->i!,brk->i?,ret->l?
open And renaming intro->ak
open List renaming drop_eq_nil_iff->vae
open List.cons renaming inj->gaf
open Option renaming bind_some->a!
set_option linter.all false
set_option maxHeartbeats 1000000
set_option maxRecDepth 10000
namespace Go.Proofs.Dev
open Go Go.Tm
instance gY:C2 k46 We:=pg (ak (ak k46.eq_1 We.eq_1) Ni.eq_1) (.l (EN [33,8,2,10] []) (EN [40,2] []) [] (.z 2 (.j (EN [41,2,17] []) (.z 1 (.j (EN [65,168,2,249] []) .o (.j (EN [41,2,185] []) .o .o))) .o)) .o)
instance UL:C2 k85 qc:=pg (ak (ak k85.eq_1 qc.eq_1) De.eq_1) (.l (EN [33,16,9,2,10,9] []) (EN [33,16,9,2] []) [] .o (.j (EN [32,60,2] []) .o .o))
instance afy:C1 k98 Wu:=pg (ak k98.eq_1 Wu.eq_1) .o
instance MZ:C1 ch7 xo:=pg (ak (ak ch7.eq_1 xo.eq_1) Dj.eq_1) (.l (EN [17,8,2,10,201] []) (EN [24,2] []) [] (.z 2 (.j (EN [25,2,9] []) .o .o)) .o)
instance afz:C3 cc6 fg:=pg (ak (ak cc6.eq_1 fg.eq_1) (ak td.eq_1 ud.eq_1)) (.z 2 (.j (EN [49,168,2,177] []) .o (.l (EN [17,48,2,10,137] []) (EN [17,48,2] []) [] .o (.l (EN [65,2,9,10,313] []) (EN [64,2,9] []) [] .o .o))))
instance G3:C1 bZ6 oj:=pg (ak bZ6.eq_1 oj.eq_1) (.b .o (.j (EN [8,9,40,2,489] [0]) .o (.b .o (.j (EN [8,49,72,2,417] [0]) .o (.b .o (.j (EN [8,121,72,2,345] [0]) .o (.b .o (.b .o (.j (EN [8,193,112,2,233] [0]) .o (.b .o (.j (EN [8,305,72,2,161] [0]) .o (.b .o (.j (EN [472,2,73] []) .o .o)))))))))))))
instance aga:C2 bY5 Ry:=pg (ak (ak bY5.eq_1 Ry.eq_1) Ls.eq_1) (.z 3 (.j (EN [33,8,17,416,2,273] [0]) .o (.z 1 (.j (EN [473,168,2,105] [0]) .o (.l (EN [49,2,585] [0]) (EN [] []) [] .o .o)))))
instance agb:C3 bY3 ew:=pg (ak bY3.eq_1 ew.eq_1) (.z 2 (.j (EN [48,2] []) .o .o))
instance nW:C1 bW8 kc:=pg (ak bW8.eq_1 kc.eq_1) (.z 1 (.j (EN [16,2,193] []) .o .o))
instance agc{t0 c10 r}:o! (zb t0 (λx900=>zi x900 c10)=M r) (e? Tryz.prog 309 [qx t0,.fn 310 [] [Tx c10]] (za r)):=⟨λh=>Wq (q1:=[Tx c10]) (jM PJ) (λx900 _ hb=>pB hb) h⟩
instance agd:C2 bW7 Tr:=pg (ak bW7.eq_1 Tr.eq_1) .o
instance VS:C3 bW3 Hf:=pg (ak (ak bW3.eq_1 Hf.eq_1) Jf.eq_1) (.l (EN [16,33,168,17,2,329] [0]) (EN [] []) [] (.z 6 (.j (EN [16,225,160,2,161] [0,8,16]) .o (.z 1 (.j (EN [16,57,144,185,144,2,17] [0]) .o .o)))) .o)
instance age:C3 bQ9 pw:=pg (ak bQ9.eq_1 pw.eq_1) (.z 2 (.j (EN [49,88,2,33] []) .o .o))
instance agf:C1 bQ8 Kz:=pg (ak bQ8.eq_1 Kz.eq_1) .o
instance W9:C2 bO2 Ds:=pg (ak bO2.eq_1 Ds.eq_1) (.z 2 (.j (EN [32,2] []) .o .o))
instance agh:C1 bH2 Yr:=pg (ak (ak bH2.eq_1 Yr.eq_1) (ak vo.eq_1 wo.eq_1)) (.l (EN [2,9,24,10,9] []) (EN [2,9,24,10,9] []) [] .o (.l (EN [2,41,10,233] []) (EN [2,41,10,233] []) [] .o .o))
instance U9:C4 bH0 As:=pg (ak (ak bH0.eq_1 As.eq_1) kr.eq_1) (.z 4 (.j (EN [8,57,184,2,537] [0]) .o (.l (EN [8,73,2,10,18,145] [0]) (EN [24,9,48,2,10] []) [] (.z 2 (.e (EN [8,73,2,10,177] [0]) (.z 2 (.j (EN [8,265,280,2,233] [0]) .o .o)) .o)) .o)))
instance agi:C3 bC3 uu:=pg (ak bC3.eq_1 uu.eq_1) (.z 1 (.j (EN [48,2,129] []) .o .o))
instance agj:C2 k42 tp:=pg (ak (ak k42.eq_1 tp.eq_1) Gu.eq_1) (.l ⟨[.k 1,.p 3,.k 1,.s (.own 1 0),.i 2],[.h 0 [.g [.i 0,.p 1]],.ni 2 1]⟩ ⟨[.k 2,.p 2,.k 1,.s (.own 1 0)],[.h 0 [.g [.i 0,.p 1]],.ni 2 1]⟩ [0,9] (.z 1 (.j (EN [8,217,2,169] [0,8]) .o (.b (.t [0,260]) .o))) .o)
instance eY:C1 k47 Ue:=pg (ak (ak k47.eq_1 Ue.eq_1) (ak mf.eq_1 (ak Gl.eq_1 (ak nf.eq_1 Gm.eq_1)))) (.l (EN [8,9,8,11,10,545] [0,516]) (EN [8,9,8,11] [0,516]) [0,9] (.l (EN [8,33,10,17] [0,258]) (EN [8,33] [0,258]) [] (.b (.t [0,260]) .o) .o) (.l (EN [8,41,10,529] [0,258]) (EN [24,25] [258]) [] (.b (.l (EN [8,49,10,249] [0,258]) (EN [8,49] [0,258]) [] (.b (.t [0,260]) .o) .o) (.t [4])) (.z 1 (.d [] [] .o))))
instance agk:C1 k93 Ly:=pg (ak k93.eq_1 Ly.eq_1) .o
noncomputable def ψ(t0:List ka):((List (Int×Bool))×Int)->Option (Ex ((List (Int×Bool))×Int) Unit (Int×Int)):=λ(s1,s2)=>
 if s2<(t0.length:Int)then
  (c! t0 s2).bind λx3=>
  (oj x3).bind λx4=>
  if¬x4=0 then
   M (l? (s2,x4))
  else
  if(TG s1 x3.Id).getD false=true then
   M (l? (s2,7))
  else
  M (i! ((NQ x3.Id true s1),(aa .i64 (s2+1))))
 else
 M (i? ())
noncomputable def ba3(t0:List ka):Option (Int×Int):=
 if 128<(t0.length:Int)then
  M (0,4)
 else
 (ca (ψ t0) (([]:List (Int×Bool)),0)).bind λy=>match y with
 |.inr v=>M v
 |.inl ()=>
 M (0,0)
def bi1{m:List Ent}{o:Option Bool}:VI false (.v (.bool false)) m (o.map za)=M (.v (.bool (o.getD false)),m):=by cases o<;>rfl
def by8{k:Int}{b:Bool}{l:List (Int×Bool)}:Iy (.int .i64 k) (.v (.bool b)) (em za l)=em za (NQ k b l):=XT (e:=za)
def ay0{t0 r}(h:ba3 t0=M r):e? Tryz.prog 150 [Zj t0] (.tup [da r.1,da r.2]):=by
 refine dk 33 cf1 ?_;simp only[cf1,Kf.of,zs,ze];unfold ba3 at h;have q1:=@bi1;have q2:=@by8;have q3:=λl=>BT (e:=za) (l:=l);exact pg @ψ.eq_1 (.l (EN [113,10] [5]) (EN [] []) [] .o .o)
theorem G4{k:Int}{x:Bool}{q:Int}:∀{l:List (Int×Bool)},TG (NQ k x l) q=if q=k then M x else TG l q
 |[]=>rfl
 |(a,b)::l=>by
  unfold NQ;split
  .rename_i h;subst h;simp only[TG];split<;>rfl
  .rename_i h;simp only[TG,G4 (l:=l)];by_cases h1:q=k
   .rw[J h1,J h1,p6]
   .rw[p6 h1,p6 h1]
theorem ab2{t0:List ka}(hl:t0.length<=128) {r:Int×Int}:∀(l:List ka) (i:Nat) (seen:List Int) (s:List (Int×Bool)),t0.drop i=l->(∀x,seen.contains x=(TG s x).getD false)->sg (i:Int) seen l=M r->
 ((
  ca (ψ t0) (s,(i:Int))).bind λy=>match y with
  |.inr v=>M v
  |.inl ()=>M (0,0))=M r
 |[],i,seen,s,hd,hs,h=>by
  unfold sg at h;have hi:t0.length<=i:=vae.1 hd;rw[Qb (b:=()) (by unfold ψ;dsimp only;rw[p6])];exact h
 |f::l,i,seen,s,hd,hs,h=>by
  have hi:i<t0.length:=by
   by_cases hc:i<t0.length
   .exact hc
   .rw[vae.2 U]at hd;cases hd
  have hf:t0[i]=f/\t0.drop (i+1)=l:=by
   rw[List.drop_eq_getElem_cons hi]at hd;exact⟨(gaf hd).1,(gaf hd).2⟩
  unfold sg at h
  cases hc:oj f with
  |none=>rw[hc]at h;cases h
  |some c=>
   rw[hc]at h;have st:ψ t0 (s,(i:Int))=if¬c=0 then M (.ret ((i:Int),c))else if(TG s f.Id).getD false=true then M (.ret ((i:Int),7))else M (.go (NQ f.Id true s,aa .i64 ((i:Int)+1))):=by
    unfold ψ;dsimp only;rw[J,va hi,hf.1,a!,hc,a!]
   simp only[a!]at h;by_cases h0:c=0
   .rw[p6 (Classical.not_not.2 h0)]at h st;rw[hs f.Id]at h;by_cases h1:(TG s f.Id).getD false=true
    .rw[J h1]at h st;rw[Ct st];exact h
    .rw[p6 h1]at h st;rw[pa U]at st;rw[Ke st];refine ab2 hl l (i+1) (f.Id::seen) _ hf.2 (λx=>?_) (by rw[←h];congr 1);rw[G4,List.contains_cons,hs x];by_cases hx:x=f.Id
     .rw[J hx];simp[hx]
     .rw[p6 hx];have:(x==f.Id)=false:=by simpa using hx
      rw[this,Bool.false_or]
   .rw[J h0]at h st;rw[Ct st];exact h
def GI{t0 r}(h:bo t0=M r):e? Tryz.prog 150 [Zj t0] (.tup [da r.1,da r.2]):=by
 refine ay0 ?_;unfold bo at h;unfold ba3;split at h
 .rename_i hc;rw[J hc];exact h
 .rename_i hc;rw[p6 hc];exact ab2 U t0 0 [] [] rfl (λx=>rfl) h
instance agl{t0 r}:o! (bo t0=M r) (e? Tryz.prog 150 [Zj t0] (.tup [da r.1,da r.2])):=⟨GI⟩
instance daa:C1 cd2 Ks:=pg (ak (ak cd2.eq_1 Ks.eq_1) Om.eq_1) (.l (EN [17,16,2,9] []) (EN [] []) [] .o .o)
instance I5:C3 cd1 Fq:=pg (ak cd1.eq_1 Fq.eq_1) (.z 4 (.j (EN [24,9,8,9,8,2,9] [0,16]) (.t [0,8]) (.z 1 (.e ⟨[.k 3,.p 4,.k 1,.p 23],[.o 0,.o 1,.h 2 [.g [.i 0,.i 1]]]⟩ (.z 2 (.j (EN [24,225,104,2,153] [0,8,16]) .o .o)) .o))))
instance VX:C3 bZ3 Xl:=pg (ak (ak bZ3.eq_1 Xl.eq_1) si.eq_1) (.z 2 (.j (EN [8,9,8,25,152,2,465] [0,8]) .o (.z 1 (.j (EN [8,193,64,2,401] [0,8]) .o (.l (EN [24,17,48,9,416,17,2,137] [0]) (EN [] []) [] .o .o)))))
instance agm:C3 bX0 iu:=pg (ak (ak bX0.eq_1 iu.eq_1) jo.eq_1) (.l (EN [40,9,224,17,2,145] [8]) (EN [] []) [4] .o .o)
instance agn{t0 c10 r}:o! (Ra t0 (λx900=>Ld x900 c10)=M r) (e? Tryz.prog 352 [sx t0,.fn 351 [] [ox c10]] (za r)):=⟨λh=>Sp (q1:=[ox c10]) (jM PJ) (λx900 _ hb=>By hb) h⟩
instance R8:C4 bT0 ko:=pg (ak bT0.eq_1 ko.eq_1) (.b .o (.j (EN [32,33,64,2,121] [0,8]) .o .o))
instance ago:C2 bQ5 ZB:=pg (ak bQ5.eq_1 ZB.eq_1) .o
instance agp:C3 bO3 Ny:=pg (ak bO3.eq_1 Ny.eq_1) (.z 2 (.j (EN [16,33,160,2,209] [0,8]) .o (.b .o (.j (EN [48,2,153] []) .o .o))))
instance agq:C3 bE2 Ht:=pg (ak (ak bE2.eq_1 Ht.eq_1) sq.eq_1) (.l (EN [8,41,16,2,129] [0]) (EN [] []) [] .o .o)
instance n5:C2 bD5 Ug:=pg (ak bD5.eq_1 Ug.eq_1) (.z 2 (.j (EN [33,128,2,233] []) .o .o))
instance WV:C2 k81 Zd:=pg (ak (ak k81.eq_1 Zd.eq_1) mh.eq_1) (.z 2 (.j (EN [16,17,176,2,969] [0,8]) .o (.z 2 (.j (EN [16,41,384,2,737] [0,8]) .o (.l (EN [16,49,472,17,2,625] [0,8]) (EN [] []) [] (.z 7 (.j (EN [16,81,2,457] [0,8,16]) .o (.z 1 (.e ⟨[.k 2,.p 10,.k 1,.p 78],[.o 0,.o 1,.o 2,.h 3 [.g [.i 0,.i 1]]]⟩ (.z 2 (.j (EN [16,713,104,2,345] [0,8,16,24]) .o .o)) (.z 1 (.j (EN [16,985,2,177] [0,8,16,24]) .o (.z 1 (.j (EN [16,73,448,465,160,2,17] [0,8]) .o .o)))))))) .o)))))
instance faa:C2 k91 Ms:=pg (ak (ak k91.eq_1 Ms.eq_1) Rm.eq_1) (.z 2 (.j (EN [16,17,144,2,465] [0,8]) .o (.z 2 (.j (EN [16,33,360,2,233] [0,8]) .o (.l (EN [16,49,16,2,321] [0,8]) (EN [] []) [] .o .o)))))
instance Q8:C1 ca0 Xv:=pg (ak (ak ca0.eq_1 Xv.eq_1) rm.eq_1) (.l (EN [8,49,48,17,2,153] [0,8]) (EN [16,41] [8]) [] (.b .o (.t [4])) .o)
instance agr:C3 bU0 GB:=pg (ak (ak bU0.eq_1 GB.eq_1) QF.eq_1) (.l (EN [8,2,10,25] [0]) (EN [] []) [] (.z 2 (.e (EN [8,9,2,41] [0]) .o .o)) .o)
instance V9:C2 bR4 Cs:=pg (ak (ak bR4.eq_1 Cs.eq_1) (ak Dm.eq_1 Bm.eq_1)) (.z 4 (.j (EN [8,25,152,2,265] [0]) .o (.l (EN [8,41,2,129] [0]) (EN [] []) [] (.l (EN [8,49,2,129] [0]) (EN [8,49] [0]) [] .o .o) .o)))
instance ags:C3 bH1 Jt:=pg (ak bH1.eq_1 Jt.eq_1) (.z 2 (.j (EN [8,9,8,33,232,2,241] [0,8,16]) .o .o))
instance OW:C2 bD4 Jk:=pg (ak (ak bD4.eq_1 Jk.eq_1) lf.eq_1) (.z 2 (.j (EN [33,88,2,145] []) .o (.u (EN [41,2,73] []) [] (.z 2 (.j (EN [49,192,2,25] []) .o .o)))))
end Go.Proofs.Dev
