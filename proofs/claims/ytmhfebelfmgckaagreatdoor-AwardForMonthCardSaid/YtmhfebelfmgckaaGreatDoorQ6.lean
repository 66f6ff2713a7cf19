/-
  Contracts of the functions: each answers as its plain partial function says.
-/
import Derived.Test.YtmhfebelfmgckaaGreatDoorK
import Derived.Test.YtmhfebelfmgckaaGreatDoorG
import Derived.Test.YtmhfebelfmgckaaGreatDoorPE
import Derived.Test.YtmhfebelfmgckaaGreatDoorH1
import Derived.Test.YtmhfebelfmgckaaGreatDoorH2
import Derived.Test.YtmhfebelfmgckaaGreatDoorL1
import Derived.Test.YtmhfebelfmgckaaGreatDoorQ0
import Derived.Test.YtmhfebelfmgckaaGreatDoorQ1
import Derived.Test.YtmhfebelfmgckaaGreatDoorQ2
import Derived.Test.YtmhfebelfmgckaaGreatDoorQ3
open And renaming intro->ak
open Go.Proofs.Tryz renaming prog->al
open List renaming drop_eq_nil_iff->mae
open List.cons renaming inj->Zae
open Option renaming bind_some->zaa
set_option linter.all false
set_option maxHeartbeats 1000000
set_option maxRecDepth 10000
namespace Go.Proofs.Dev
open Go Go.Tm
instance law36_small_C:C3 k8 wy:=pg (ak k8.eq_1 wy.eq_1) (.z 1 (.j (EN [48,2,81] []) .o .o))
instance Q4:C3 k78 lk:=pg (ak (ak k78.eq_1 lk.eq_1) vd.eq_1) (.z 2 (.j (EN [49,224,2,145] []) .o (.l (EN [9,8,49,2,201,32,9,10,105] []) (EN [16,49,2,201] []) [] .o .o)))
instance month_Days_C:C1 k79 wA:=pg (ak k79.eq_1 wA.eq_1) .o
instance IV:C1 k220 ei:=pg (ak k220.eq_1 ei.eq_1) (.b .o (.j (EN [8,9,40,2,489] [0]) .o (.b .o (.j (EN [8,49,72,2,417] [0]) .o (.b .o (.j (EN [8,121,72,2,345] [0]) .o (.b .o (.b .o (.j (EN [8,193,112,2,233] [0]) .o (.b .o (.j (EN [8,305,72,2,161] [0]) .o (.b .o (.j (EN [472,2,73] []) .o .o)))))))))))))
instance ref34_fault_C:C2 k241 Wv:=pg (ak (ak k241.eq_1 Wv.eq_1) iq.eq_1) (.z 3 (.j (EN [33,8,17,416,2,273] [0]) .o (.z 1 (.j (EN [473,168,2,105] [0]) .o (.l (EN [49,2,585] [0]) (EN [] []) [] .o .o)))))
instance ref09_In_C:C3 k243 Nt:=pg (ak k243.eq_1 Nt.eq_1) (.z 2 (.j (EN [48,2] []) .o .o))
instance rate_Apply_C:C3 k296 ux:=pg (ak k296.eq_1 ux.eq_1) .o
instance vZ:C2 k374 Vp:=pg (ak k374.eq_1 Vp.eq_1) (.z 2 (.j (EN [32,2] []) .o .o))
instance O1:C3 k379 Er:=pg (ak (ak k379.eq_1 Er.eq_1) Om.eq_1) (.l (EN [8,41,8,11,10,241] [0,260]) (EN [56,3] [260]) [0,5] (.b (.j (EN [8,65] [0,258]) (.j (EN [8,65,192,2,41] [0,8]) .o (.b (.t [0,260]) .o)) .o) (.t [4])) .o)
instance sZ:C2 k384 Sp:=pg (ak (ak k384.eq_1 Sp.eq_1) Ot.eq_1) (.z 3 (.j (EN [33,8,9,184,2,209] []) .o (.l (EN [40,25,8,9,10,18,137] [2]) (EN [72,9] [2]) [] .o .o)))
instance tZ:C4 k447 Tp:=pg (ak (ak k447.eq_1 Tp.eq_1) Yo.eq_1) (.z 4 (.j (EN [8,57,184,2,537] [0]) .o (.l (EN [8,73,2,10,18,145] [0]) (EN [24,9,48,2,10] []) [] (.z 2 (.e (EN [8,73,2,10,177] [0]) (.z 2 (.j (EN [8,265,280,2,233] [0]) .o .o)) .o)) .o)))
instance YT:C3 k453 Jd:=pg (ak k453.eq_1 Jd.eq_1) (.z 4 (.j (EN [48,9,8,9,144,2,17] [8,16]) (.t [4,8]) .o))
instance GV:C2 k457 cg:=pg (ak k457.eq_1 cg.eq_1) (.z 9 (.j (EN [32,9,8,9,8,2] [16,24]) (.b (.t [8,12]) (.j (EN [32,9,8,9,8,9,176,9,80,2,153] [16,24]) (.t [8,12]) .o)) .o))
theorem Ox{t0 t1 t2 r} (h:kg t0 t1 t2=some r):Den al 461 [tt t0,Lj t1,Lj t2] (za r):=by
 refine dk 18 k461 ?_
 simp only[k461,Kf.of,zs,ze]
 unfold kg at h
 exact pg trivial (.z 1 (.j (EN [32,2,129] []) .o .o))
instance zI461{t0 t1 t2 r}:Con (kg t0 t1 t2=some r) (Den al 461 [tt t0,Lj t1,Lj t2] (za r)):=⟨Ox⟩
instance SZ:C3 k463 rq:=pg (ak k463.eq_1 rq.eq_1) (.z 4 (.j (EN [49,136,2,289] []) .o (.z 1 (.j (EN [65,2,113] []) .o (.z 5 (.j (EN [88,201,176,2,9] []) .o .o))))))
instance date_ToYMD_C:C1 k465 Fl:=pg (ak (ak k465.eq_1 Fl.eq_1) (ak Co.eq_1 Eo.eq_1)) (.l (EN [17,24,2,25] []) (EN [17,24,2,25] []) [] .o (.l (EN [40,9,2,121,32,10,145] []) (EN [] []) [] .o .o))
instance rate_Mul_C:C3 k492 YB:=pg (ak k492.eq_1 YB.eq_1) (.z 4 (.j (EN [49,96,2,113] []) .o .o))
instance S0:C3 k493 tr:=pg (ak k493.eq_1 tr.eq_1) (.z 6 (.j (EN [49,112,2,137] []) .o .o))
instance month_Range_C:C1 k39 Kv:=pg (ak k39.eq_1 Kv.eq_1) .o
noncomputable def B0(t0:List GFact):((List (Int×Bool))×Int)->Option (Ex ((List (Int×Bool))×Int) Unit (Int×Int)):=λ(s1,s2)=>
 if s2<(t0.length:Int)then
  (idx t0 s2).bind λx3=>
  (ei x3).bind λx4=>
  if¬x4=0 then
   some (Ex.ret (s2,x4))
  else
  if(W6 s1 x3.Id).getD false=true then
   some (Ex.ret (s2,7))
  else
  some (Ex.go ((mpt x3.Id true s1),(aa .i64 (s2+1))))
 else
 some (Ex.brk ())
noncomputable def valM(t0:List GFact):Option (Int×Int):=
 if 128<(t0.length:Int)then
  some (0,4)
 else
 (ca (B0 t0) (([]:List (Int×Bool)),0)).bind λy=>match y with
 |.inr v=>some v
 |.inl ()=>
 some (0,0)
theorem look_b{m:List Ent}{o:Option Bool}:L6 false (.v (.bool false)) m (o.map za)=some (.v (.bool (o.getD false)),m):=by cases o<;>rfl
theorem put_b{k:Int}{b:Bool}{l:List (Int×Bool)}:NG (.int .i64 k) (.v (.bool b)) (em za l)=em za (mpt k b l):=L7 (e:=za)
theorem valM_ok{t0 r}(h:valM t0=some r):Den al 150 [Cz t0] (.tup [da r.1,da r.2]):=by
 refine dk 33 k150 ?_;simp only[k150,Kf.of,zs,ze];unfold valM at h;have q1:=@look_b;have q2:=@put_b;have q3:=λl=>P5 (e:=za) (l:=l);exact pg @B0.eq_1 (.l (EN [113,10] [5]) (EN [] []) [] .o .o)
theorem iW{k:Int}{x:Bool}{q:Int}:∀{l:List (Int×Bool)},W6 (mpt k x l) q=if q=k then some x else W6 l q
 |[]=>rfl
 |(a,b)::l=>by
  unfold mpt;split
  .rename_i h;subst h;simp only[W6];split<;>rfl
  .rename_i h;simp only[W6,iW (l:=l)];by_cases h1:q=k
   .rw[if_pos h1,if_pos h1,if_neg (by omega)]
   .rw[if_neg h1,if_neg h1]
theorem val_go{t0:List GFact}(hl:t0.length<=128) {r:Int×Int}:∀(l:List GFact) (i:Nat) (seen:List Int) (s:List (Int×Bool)),t0.drop i=l->(∀x,seen.contains x=(W6 s x).getD false)->Hf (i:Int) seen l=some r->
 ((
  ca (B0 t0) (s,(i:Int))).bind λy=>match y with
  |.inr v=>some v
  |.inl ()=>some (0,0))=some r
 |[],i,seen,s,hd,hs,h=>by
  unfold Hf at h;have hi:t0.length<=i:=mae.1 hd;rw[vc (b:=()) (by unfold B0;dsimp only;rw[if_neg (by omega)])];exact h
 |f::l,i,seen,s,hd,hs,h=>by
  have hi:i<t0.length:=by
   by_cases hc:i<t0.length
   .exact hc
   .rw[mae.2 (by omega)]at hd;cases hd
  have hf:t0[i]=f/\t0.drop (i+1)=l:=by
   rw[List.drop_eq_getElem_cons hi]at hd;exact⟨(Zae hd).1,(Zae hd).2⟩
  unfold Hf at h
  cases hc:ei f with
  |none=>rw[hc]at h;cases h
  |some c=>
   rw[hc]at h;have st:B0 t0 (s,(i:Int))=if¬c=0 then some (.ret ((i:Int),c))else if(W6 s f.Id).getD false=true then some (.ret ((i:Int),7))else some (.go (mpt f.Id true s,aa .i64 ((i:Int)+1))):=by
    unfold B0;dsimp only;rw[if_pos (by omega),ya hi,hf.1,zaa,hc,zaa]
   simp only[zaa]at h;by_cases h0:c=0
   .rw[if_neg (Classical.not_not.2 h0)]at h st;rw[hs f.Id]at h;by_cases h1:(W6 s f.Id).getD false=true
    .rw[if_pos h1]at h st;rw[Ms st];exact h
    .rw[if_neg h1]at h st;rw[sa (by omega)]at st;rw[yg st];refine val_go hl l (i+1) (f.Id::seen) _ hf.2 (λx=>?_) (by rw[←h];congr 1);rw[iW,List.contains_cons,hs x];by_cases hx:x=f.Id
     .rw[if_pos hx];simp[hx]
     .rw[if_neg hx];have:(x==f.Id)=false:=by simpa using hx
      rw[this,Bool.false_or]
   .rw[if_pos h0]at h st;rw[Ms st];exact h
theorem aF{t0 r}(h:um t0=some r):Den al 150 [Cz t0] (.tup [da r.1,da r.2]):=by
 refine valM_ok ?_;unfold um at h;unfold valM;split at h
 .rename_i hc;rw[if_pos hc];exact h
 .rename_i hc;rw[if_neg hc];exact val_go (by omega) t0 0 [] [] rfl (λx=>rfl) h
instance zI150{t0 r}:Con (um t0=some r) (Den al 150 [Cz t0] (.tup [da r.1,da r.2])):=⟨aF⟩
instance CZ:C1 k173 dq:=pg (ak (ak k173.eq_1 dq.eq_1) Yk.eq_1) (.l (EN [17,16,2,9] []) (EN [] []) [] .o .o)
instance MW:C3 k174 xo:=pg (ak k174.eq_1 xo.eq_1) (.z 4 (.j (EN [24,9,8,9,8,2,9] [0,16]) (.t [0,8]) (.z 1 (.e ⟨[.k 3,.p 4,.k 1,.p 23],[.o 0,.o 1,.h 2 [.g [.i 0,.i 1]]]⟩ (.z 2 (.j (EN [24,225,104,2,153] [0,8,16]) .o .o)) .o))))
instance Z8:C3 k336 Zt:=pg (ak (ak k336.eq_1 Zt.eq_1) mo.eq_1) (.l (EN [24,25,24,9,11,19,18] [0,260,268]) (EN [72,9,3,11] [260,268]) [0,5,5] (.b (.t [0,260,264]) (.t [4,8])) .o)
instance ref12_wrong_C:C3 k373 Sv:=pg (ak k373.eq_1 Sv.eq_1) (.z 2 (.j (EN [16,33,160,2,209] [0,8]) .o (.b .o (.j (EN [48,2,153] []) .o .o))))
instance M0:C3 k423 ta:=pg (ak k423.eq_1 ta.eq_1) (.z 1 (.e (EN [8,9,8,17,8,9] [0,16]) (.b .o (.b .o (.b .o (.b .o (.b .o (.b .o (.b .o (.b .o (.b .o (.j (EN [8,9,8,33,32,9,568,2,329] [0,8,16]) .o (.b .o (.j (EN [8,657,88,2,241] [0,8,16]) .o (.b .o (.j (EN [8,33,8,41,752,2,153] [0,16]) (.t [0,8]) .o)))))))))))))) .o))
instance zI303{t0 c10 c11 r}:Con (Ub t0 (λx900=>kg x900 c10 c11)=some r) (Den al 303 [BB t0,.fn 461 [] [Lj c10,Lj c11]] (.tup [da r.1,za r.2])):=⟨λh=>lu (q1:=[Lj c10,Lj c11]) (WJ (WJ DH)) (λx900 _ hb=>Ox hb) h⟩
instance faa:C3 k431 ku:=pg (ak k431.eq_1 ku.eq_1) .o
instance PZ:C4 k432 Hj:=pg (ak (ak k432.eq_1 Hj.eq_1) Sf.eq_1) (.z 2 (.j (EN [8,57,128,2,521] [0]) .o (.z 1 (.j (EN [8,185,80,2,441] [0]) .o (.z 1 (.j (EN [8,265,48,2,393] [0]) .o (.l (EN [8,25,48,2,10,225,16,17,18,361] []) (EN [24,9,48,2,10,225] []) [] (.z 2 (.e (EN [8,73,2,10,265] []) (.z 3 (.j (EN [8,353,152,2,201] [0]) .o .o)) .o)) .o)))))))
instance eval_unary_C:C2 k433 Xi:=pg (ak k433.eq_1 Xi.eq_1) .o
instance eval_scaled_C:C3 k466 Gb:=pg (ak k466.eq_1 Gb.eq_1) (.z 2 (.j ⟨[.k 6,.p 1,.k 1,.p 1,.i 2],[.o 3,.h 4 [.g [.i 0,.p 1,.i 1]]]⟩ (.b (.t [12,16]) (.j (EN [24,33,8,9,232,2,529] [0,8,16,24,32]) .o (.t [12,16]))) .o))
instance PX:C2 k467 Be:=pg (ak k467.eq_1 Be.eq_1) (.z 2 (.j (EN [33,128,2,289] []) .o (.z 3 (.j (EN [64,97,160,2,129] []) .o .o))))
instance FQ:C2 k81 Jg:=pg (ak (ak k81.eq_1 Jg.eq_1) xg.eq_1) (.z 2 (.j (EN [16,17,176,2,969] [0,8]) .o (.z 2 (.j (EN [16,41,384,2,737] [0,8]) .o (.l (EN [16,49,472,17,2,625] [0,8]) (EN [] []) [] (.z 7 (.j (EN [16,81,2,457] [0,8,16]) .o (.z 1 (.e ⟨[.k 2,.p 10,.k 1,.p 78],[.o 0,.o 1,.o 2,.h 3 [.g [.i 0,.i 1]]]⟩ (.z 2 (.j (EN [16,713,104,2,345] [0,8,16,24]) .o .o)) (.z 1 (.j (EN [16,985,2,177] [0,8,16,24]) .o (.z 1 (.j (EN [16,73,448,465,160,2,17] [0,8]) .o .o)))))))) .o)))))
instance EZ:C2 k91 jq:=pg (ak (ak k91.eq_1 jq.eq_1) il.eq_1) (.z 2 (.j (EN [16,17,144,2,465] [0,8]) .o (.z 2 (.j (EN [16,33,360,2,233] [0,8]) .o (.l (EN [16,49,16,2,321] [0,8]) (EN [] []) [] .o .o)))))
instance uZ:C2 k332 Up:=pg (ak (ak k332.eq_1 Up.eq_1) (ak Nk.eq_1 Mk.eq_1)) (.z 4 (.j (EN [8,25,152,2,265] [0]) .o (.l (EN [8,41,2,129] [0]) (EN [] []) [] (.l (EN [8,49,2,129] [0]) (EN [8,49] [0]) [] .o .o) .o)))
instance expr_TypeOf_C:C2 k394 Ev:=pg (ak (ak k394.eq_1 Ev.eq_1) Dp.eq_1) (.l (EN [24,17,40,19,41,88,17,10,361] [0,8,516]) (EN [32,9,40,11,41] [8,516]) [0,4,9] (.b (.z 3 (.j (EN [24,217,96,2,257] [0,8,16,24]) .o (.b .o (.a [[],[],[],[],[],[],[],[],[],[],[]] (.b .o (.a [[],[],[],[2],[]] (.t [0,4,520]))))))) (.t [4,8])) .o)
instance vS:C2 k468 Df:=pg (ak k468.eq_1 Df.eq_1) (.z 2 (.j (EN [33,176,2,265] []) .o (.z 3 (.j (EN [88,2,113] []) (.z 1 (.j (EN [88,9,344,2,33] []) .o .o)) .o))))
end Go.Proofs.Dev
