/-
  Contracts of the functions: each answers as its plain partial function says.
-/
import Derived.Test.YtmhfebelfmgckaaGreatDoorQ0
import Derived.Test.YtmhfebelfmgckaaGreatDoorQ1
import Derived.Test.YtmhfebelfmgckaaGreatDoorQ2
import Derived.Test.YtmhfebelfmgckaaGreatDoorQ3
open Option renaming some->M
open Go.Tm.Ex renaming go->i!,brk->i?,ret->l?
open And renaming intro->ak
open Go.Proofs.Tryz renaming prog->al
open List renaming drop_eq_nil_iff->jae
open List.cons renaming inj->Vae
open Option renaming bind_some->a!
set_option linter.all false
set_option maxHeartbeats 1000000
set_option maxRecDepth 10000
namespace Go.Proofs.Dev
open Go Go.Tm
instance afn:C2 k55 Ey:=pg (ak (ak k55.eq_1 Ey.eq_1) Aw.eq_1) (.l (EN [33,8,3,10,297] [772]) (EN [40,3] [772]) [13] (.z 2 (.j (EN [73] [2]) (.t [256]) .o)) .o)
instance afo:C3 k78 Tl:=pg (ak (ak k78.eq_1 Tl.eq_1) fe.eq_1) (.z 2 (.j (EN [49,224,2,145] []) .o (.l (EN [9,8,49,2,201,32,9,10,105] []) (EN [16,49,2,201] []) [] .o .o)))
instance afp:C1 k79 iD:=pg (ak k79.eq_1 iD.eq_1) .o
instance X1:C1 bY8 dj:=pg (ak bY8.eq_1 dj.eq_1) (.b .o (.j (EN [8,9,40,2,489] [0]) .o (.b .o (.j (EN [8,49,72,2,417] [0]) .o (.b .o (.j (EN [8,121,72,2,345] [0]) .o (.b .o (.b .o (.j (EN [8,193,112,2,233] [0]) .o (.b .o (.j (EN [8,305,72,2,161] [0]) .o (.b .o (.j (EN [472,2,73] []) .o .o)))))))))))))
instance afq:C2 bX7 Cy:=pg (ak (ak bX7.eq_1 Cy.eq_1) Fs.eq_1) (.z 3 (.j (EN [33,8,17,416,2,273] [0]) .o (.z 1 (.j (EN [473,168,2,105] [0]) .o (.l (EN [49,2,585] [0]) (EN [] []) [] .o .o)))))
instance afr:C3 bX4 aw:=pg (ak bX4.eq_1 aw.eq_1) (.z 2 (.j (EN [48,2] []) .o .o))
instance afs:C3 bT5 vx:=pg (ak bT5.eq_1 vx.eq_1) .o
instance aft:C1 bQ2 vz:=pg (ak bQ2.eq_1 vz.eq_1) .o
instance G9:C2 bN7 Yr:=pg (ak bN7.eq_1 Yr.eq_1) (.z 2 (.j (EN [32,2] []) .o .o))
instance afu:C3 bN2 su:=pg (ak (ak bN2.eq_1 su.eq_1) Ao.eq_1) (.l (EN [8,41,8,11,10,241] [0,260]) (EN [56,3] [260]) [0,5] (.b (.j (EN [8,65] [0,258]) (.j (EN [8,65,192,2,41] [0,8]) .o (.b (.t [0,260]) .o)) .o) (.t [4])) .o)
instance D9:C2 bM7 Vr:=pg (ak (ak bM7.eq_1 Vr.eq_1) bw.eq_1) (.z 3 (.j (EN [33,8,9,184,2,209] []) .o (.l (EN [40,25,8,9,10,18,137] [2]) (EN [72,9] [2]) [] .o .o)))
instance E9:C4 bG5 Wr:=pg (ak (ak bG5.eq_1 Wr.eq_1) Yq.eq_1) (.z 4 (.j (EN [8,57,184,2,537] [0]) .o (.l (EN [8,73,2,10,18,145] [0]) (EN [24,9,48,2,10] []) [] (.z 2 (.e (EN [8,73,2,10,177] [0]) (.z 2 (.j (EN [8,265,280,2,233] [0]) .o .o)) .o)) .o)))
instance IY:C3 bG0 we:=pg (ak bG0.eq_1 we.eq_1) (.z 4 (.j (EN [48,9,8,9,144,2,17] [8,16]) (.t [4,8]) .o))
instance U1:C2 bF6 Mg:=pg (ak bF6.eq_1 Mg.eq_1) (.z 9 (.j (EN [32,9,8,9,8,2] [16,24]) (.b (.t [8,12]) (.j (EN [32,9,8,9,8,9,176,9,80,2,153] [16,24]) (.t [8,12]) .o)) .o))
def yA{t0 t1 t2 r} (h:Tg t0 t1 t2=M r):e? al 461 [Lv t0,ql t1,ql t2] (za r):=by
 refine dk 18 bF2 ?_
 simp only[bF2,Kf.of,zs,ze]
 unfold Tg at h
 exact pg trivial (.z 1 (.j (EN [32,2,129] []) .o .o))
instance afv{t0 t1 t2 r}:o! (Tg t0 t1 t2=M r) (e? al 461 [Lv t0,ql t1,ql t2] (za r)):=⟨yA⟩
instance afw:C3 bF0 Ns:=pg (ak bF0.eq_1 Ns.eq_1) (.z 4 (.j (EN [49,136,2,289] []) .o (.z 1 (.j (EN [65,2,113] []) .o (.z 5 (.j (EN [88,201,176,2,9] []) .o .o))))))
instance afx:C1 bE8 Zm:=pg (ak (ak bE8.eq_1 Zm.eq_1) (ak Aq.eq_1 Bq.eq_1)) (.l (EN [17,24,2,25] []) (EN [17,24,2,25] []) [] .o (.l (EN [40,9,2,121,32,10,145] []) (EN [] []) [] .o .o))
instance afy:C3 bC5 RE:=pg (ak bC5.eq_1 RE.eq_1) (.z 4 (.j (EN [49,96,2,113] []) .o .o))
instance afz:C3 bC4 fu:=pg (ak bC4.eq_1 fu.eq_1) (.z 6 (.j (EN [49,112,2,137] []) .o .o))
instance aga:C1 k39 pv:=pg (ak k39.eq_1 pv.eq_1) .o
noncomputable def aa1(t0:List kv):((List (Int×Bool))×Int)->Option (Ex ((List (Int×Bool))×Int) Unit (Int×Int)):=λ(s1,s2)=>
 if s2<(t0.length:Int)then
  (c! t0 s2).bind λx3=>
  (dj x3).bind λx4=>
  if¬x4=0 then
   M (l? (s2,x4))
  else
  if(cO s1 x3.Id).getD false=true then
   M (l? (s2,7))
  else
  M (i! ((xX x3.Id true s1),(aa .i64 (s2+1))))
 else
 M (i? ())
noncomputable def aZ5(t0:List kv):Option (Int×Int):=
 if 128<(t0.length:Int)then
  M (0,4)
 else
 (ca (aa1 t0) (([]:List (Int×Bool)),0)).bind λy=>match y with
 |.inr v=>M v
 |.inl ()=>
 M (0,0)
def bh6{m:List Ent}{o:Option Bool}:XK false (.v (.bool false)) m (o.map za)=M (.v (.bool (o.getD false)),m):=by cases o<;>rfl
def by4{k:Int}{b:Bool}{l:List (Int×Bool)}:Ry (.int .i64 k) (.v (.bool b)) (em za l)=em za (xX k b l):=dZ (e:=za)
def ax9{t0 r}(h:aZ5 t0=M r):e? al 150 [Uj t0] (.tup [da r.1,da r.2]):=by
 refine dk 33 cd9 ?_;simp only[cd9,Kf.of,zs,ze];unfold aZ5 at h;have q1:=@bh6;have q2:=@by4;have q3:=λl=>KY (e:=za) (l:=l);exact pg @aa1.eq_1 (.l (EN [113,10] [5]) (EN [] []) [] .o .o)
theorem L3{k:Int}{x:Bool}{q:Int}:∀{l:List (Int×Bool)},cO (xX k x l) q=if q=k then M x else cO l q
 |[]=>rfl
 |(a,b)::l=>by
  unfold xX;split
  .rename_i h;subst h;simp only[cO];split<;>rfl
  .rename_i h;simp only[cO,L3 (l:=l)];by_cases h1:q=k
   .rw[J h1,J h1,p5]
   .rw[p5 h1,p5 h1]
theorem ab7{t0:List kv}(hl:t0.length<=128) {r:Int×Int}:∀(l:List kv) (i:Nat) (seen:List Int) (s:List (Int×Bool)),t0.drop i=l->(∀x,seen.contains x=(cO s x).getD false)->sg (i:Int) seen l=M r->
 ((
  ca (aa1 t0) (s,(i:Int))).bind λy=>match y with
  |.inr v=>M v
  |.inl ()=>M (0,0))=M r
 |[],i,seen,s,hd,hs,h=>by
  unfold sg at h;have hi:t0.length<=i:=jae.1 hd;rw[Ob (b:=()) (by unfold aa1;dsimp only;rw[p5])];exact h
 |f::l,i,seen,s,hd,hs,h=>by
  have hi:i<t0.length:=by
   by_cases hc:i<t0.length
   .exact hc
   .rw[jae.2 U]at hd;cases hd
  have hf:t0[i]=f/\t0.drop (i+1)=l:=by
   rw[List.drop_eq_getElem_cons hi]at hd;exact⟨(Vae hd).1,(Vae hd).2⟩
  unfold sg at h
  cases hc:dj f with
  |none=>rw[hc]at h;cases h
  |some c=>
   rw[hc]at h;have st:aa1 t0 (s,(i:Int))=if¬c=0 then M (.ret ((i:Int),c))else if(cO s f.Id).getD false=true then M (.ret ((i:Int),7))else M (.go (xX f.Id true s,aa .i64 ((i:Int)+1))):=by
    unfold aa1;dsimp only;rw[J,wa hi,hf.1,a!,hc,a!]
   simp only[a!]at h;by_cases h0:c=0
   .rw[p5 (Classical.not_not.2 h0)]at h st;rw[hs f.Id]at h;by_cases h1:(cO s f.Id).getD false=true
    .rw[J h1]at h st;rw[ct st];exact h
    .rw[p5 h1]at h st;rw[pa U]at st;rw[Ie st];refine ab7 hl l (i+1) (f.Id::seen) _ hf.2 (λx=>?_) (by rw[←h];congr 1);rw[L3,List.contains_cons,hs x];by_cases hx:x=f.Id
     .rw[J hx];simp[hx]
     .rw[p5 hx];have:(x==f.Id)=false:=by simpa using hx
      rw[this,Bool.false_or]
   .rw[J h0]at h st;rw[ct st];exact h
def ZH{t0 r}(h:Vn t0=M r):e? al 150 [Uj t0] (.tup [da r.1,da r.2]):=by
 refine ax9 ?_;unfold Vn at h;unfold aZ5;split at h
 .rename_i hc;rw[J hc];exact h
 .rename_i hc;rw[p5 hc];exact ab7 U t0 0 [] [] rfl (λx=>rfl) h
instance agb{t0 r}:o! (Vn t0=M r) (e? al 150 [Uj t0] (.tup [da r.1,da r.2])):=⟨ZH⟩
instance N9:C1 cc0 Es:=pg (ak (ak cc0.eq_1 Es.eq_1) Im.eq_1) (.l (EN [17,16,2,9] []) (EN [] []) [] .o .o)
instance U4:C3 cb9 vq:=pg (ak cb9.eq_1 vq.eq_1) (.z 4 (.j (EN [24,9,8,9,8,2,9] [0,16]) (.t [0,8]) (.z 1 (.e ⟨[.k 3,.p 4,.k 1,.p 23],[.o 0,.o 1,.h 2 [.g [.i 0,.i 1]]]⟩ (.z 2 (.j (EN [24,225,104,2,153] [0,8,16]) .o .o)) .o))))
instance agc:C3 bQ4 ow:=pg (ak (ak bQ4.eq_1 ow.eq_1) mq.eq_1) (.l (EN [24,25,24,9,11,19,18] [0,260,268]) (EN [72,9,3,11] [260,268]) [0,5,5] (.b (.t [0,260,264]) (.t [4,8])) .o)
instance agd:C3 bN8 xy:=pg (ak bN8.eq_1 xy.eq_1) (.z 2 (.j (EN [16,33,160,2,209] [0,8]) .o (.b .o (.j (EN [48,2,153] []) .o .o))))
instance age:C3 bI9 va:=pg (ak bI9.eq_1 va.eq_1) (.z 1 (.e (EN [8,9,8,17,8,9] [0,16]) (.b .o (.b .o (.b .o (.b .o (.b .o (.b .o (.b .o (.b .o (.b .o (.j (EN [8,9,8,33,32,9,568,2,329] [0,8,16]) .o (.b .o (.j (EN [8,657,88,2,241] [0,8,16]) .o (.b .o (.j (EN [8,33,8,41,752,2,153] [0,16]) (.t [0,8]) .o)))))))))))))) .o))
instance agf{t0 c10 c11 r}:o! (vc t0 (λx900=>Tg x900 c10 c11)=M r) (e? al 303 [vE t0,.fn 461 [] [ql c10,ql c11]] (.tup [da r.1,za r.2])):=⟨λh=>Hw (q1:=[ql c10,ql c11]) (IN (IN QK)) (λx900 _ hb=>yA hb) h⟩
instance agh:C3 bI1 Gw:=pg (ak bI1.eq_1 Gw.eq_1) .o
instance agi:C4 bI0 Zk:=pg (ak (ak bI0.eq_1 Zk.eq_1) Cg.eq_1) (.z 2 (.j (EN [8,57,128,2,521] [0]) .o (.z 1 (.j (EN [8,185,80,2,441] [0]) .o (.z 1 (.j (EN [8,265,48,2,393] [0]) .o (.l (EN [8,25,48,2,10,225,16,17,18,361] []) (EN [24,9,48,2,10,225] []) [] (.z 2 (.e (EN [8,73,2,10,265] []) (.z 3 (.j (EN [8,353,152,2,201] [0]) .o .o)) .o)) .o)))))))
instance agj:C2 bH9 gk:=pg (ak bH9.eq_1 gk.eq_1) .o
instance agk:C3 bE7 Ub:=pg (ak bE7.eq_1 Ub.eq_1) (.z 2 (.j ⟨[.k 6,.p 1,.k 1,.p 1,.i 2],[.o 3,.h 4 [.g [.i 0,.p 1,.i 1]]]⟩ (.b (.t [12,16]) (.j (EN [24,33,8,9,232,2,529] [0,8,16,24,32]) .o (.t [12,16]))) .o))
instance Y6:C2 bE6 mf:=pg (ak bE6.eq_1 mf.eq_1) (.z 2 (.j (EN [33,128,2,289] []) .o (.z 3 (.j (EN [64,97,160,2,129] []) .o .o))))
instance sV:C2 k81 Bf:=pg (ak (ak k81.eq_1 Bf.eq_1) bh.eq_1) (.z 2 (.j (EN [16,17,176,2,969] [0,8]) .o (.z 2 (.j (EN [16,41,384,2,737] [0,8]) .o (.l (EN [16,49,472,17,2,625] [0,8]) (EN [] []) [] (.z 7 (.j (EN [16,81,2,457] [0,8,16]) .o (.z 1 (.e ⟨[.k 2,.p 10,.k 1,.p 78],[.o 0,.o 1,.o 2,.h 3 [.g [.i 0,.i 1]]]⟩ (.z 2 (.j (EN [16,713,104,2,345] [0,8,16,24]) .o .o)) (.z 1 (.j (EN [16,985,2,177] [0,8,16,24]) .o (.z 1 (.j (EN [16,73,448,465,160,2,17] [0,8]) .o .o)))))))) .o)))))
instance P9:C2 k91 Gs:=pg (ak (ak k91.eq_1 Gs.eq_1) Lm.eq_1) (.z 2 (.j (EN [16,17,144,2,465] [0,8]) .o (.z 2 (.j (EN [16,33,360,2,233] [0,8]) .o (.l (EN [16,49,16,2,321] [0,8]) (EN [] []) [] .o .o)))))
instance F9:C2 bQ8 Xr:=pg (ak (ak bQ8.eq_1 Xr.eq_1) (ak xm.eq_1 vm.eq_1)) (.z 4 (.j (EN [8,25,152,2,265] [0]) .o (.l (EN [8,41,2,129] [0]) (EN [] []) [] (.l (EN [8,49,2,129] [0]) (EN [8,49] [0]) [] .o .o) .o)))
instance agl:C2 bL7 gy:=pg (ak (ak bL7.eq_1 gy.eq_1) Ir.eq_1) (.l (EN [24,17,40,19,41,88,17,10,361] [0,8,516]) (EN [32,9,40,11,41] [8,516]) [0,4,9] (.b (.z 3 (.j (EN [24,217,96,2,257] [0,8,16,24]) .o (.b .o (.a [[],[],[],[],[],[],[],[],[],[],[]] (.b .o (.a [[],[],[],[2],[]] (.t [0,4,520]))))))) (.t [4,8])) .o)
instance sX:C2 bE5 lg:=pg (ak bE5.eq_1 lg.eq_1) (.z 2 (.j (EN [33,176,2,265] []) .o (.z 3 (.j (EN [88,2,113] []) (.z 1 (.j (EN [88,9,344,2,33] []) .o .o)) .o))))
end Go.Proofs.Dev
