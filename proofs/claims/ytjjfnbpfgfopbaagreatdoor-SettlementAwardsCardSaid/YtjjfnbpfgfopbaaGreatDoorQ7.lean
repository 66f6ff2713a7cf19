/-
  Contracts of the functions: each answers as its plain partial function says.
-/
import Derived.Test.YtjjfnbpfgfopbaaGreatDoorK
import Derived.Test.YtjjfnbpfgfopbaaGreatDoorG
import Derived.Test.YtjjfnbpfgfopbaaGreatDoorPE
import Derived.Test.YtjjfnbpfgfopbaaGreatDoorH1
import Derived.Test.YtjjfnbpfgfopbaaGreatDoorH2
import Derived.Test.YtjjfnbpfgfopbaaGreatDoorL1
import Derived.Test.YtjjfnbpfgfopbaaGreatDoorQ0
import Derived.Test.YtjjfnbpfgfopbaaGreatDoorQ1
import Derived.Test.YtjjfnbpfgfopbaaGreatDoorQ2
import Derived.Test.YtjjfnbpfgfopbaaGreatDoorQ3
open List renaming drop_eq_nil_iff->oae
open List.cons renaming inj->Zae
open Option renaming bind_some->kaa
set_option linter.all false
set_option maxHeartbeats 1000000
set_option maxRecDepth 10000
namespace Go.Proofs.Dev
open Go Go.Tm
instance R6:C3 k8 ts:=pg (And.intro k8.eq_1 ts.eq_1) (.z 1 (.j 1 (EN [48,2,81] []) .o .o))
instance UD:C2 k105 Sa:=pg (And.intro (And.intro k105.eq_1 Sa.eq_1) qb.eq_1) (.l 2 1 (EN [33,16,9,2,10,9] []) (EN [33,16,9,2] []) [] .o (.j 1 (EN [32,60,2] []) .o .o))
instance VR:C1 k110 Sg:=pg (And.intro k110.eq_1 Sg.eq_1) (.b .o (.j 1 (EN [8,9,40,2,489] [0]) .o (.b .o (.j 1 (EN [8,49,72,2,417] [0]) .o (.b .o (.j 1 (EN [8,121,72,2,345] [0]) .o (.b .o (.b .o (.j 1 (EN [8,193,112,2,233] [0]) .o (.b .o (.j 1 (EN [8,305,72,2,161] [0]) .o (.b .o (.j 1 (EN [472,2,73] []) .o .o)))))))))))))
instance XM:C1 k152 Gb:=pg (And.intro k152.eq_1 Gb.eq_1) (.z 1 (.j 1 (EN [16,2,193] []) .o .o))
instance zI181{t0 c10 r}:Con (bb t0 (λx900=>Bg x900 c10)=some r) (Den Tryz.prog 181 [Pt t0,.fn 182 [] [Br c10]] (sa r)):=⟨λh=>Zl (q1:=[Br c10]) (bE YB) (λx900 _ hb=>Su hb) h⟩
instance W6:C2 k153 ln:=pg (And.intro k153.eq_1 ln.eq_1) .o
instance XG:C2 k239 Hb:=pg (And.intro k239.eq_1 Hb.eq_1) .o
instance HW:C3 k285 Bn:=pg (And.intro k285.eq_1 Bn.eq_1) (.z 4 (.j 1 (EN [49,136,2,289] []) .o (.z 1 (.j 1 (EN [65,2,113] []) .o (.z 5 (.j 1 (EN [88,201,176,2,9] []) .o .o))))))
instance eY:C2 k73 On:=pg (And.intro (And.intro k73.eq_1 On.eq_1) Qo.eq_1) (.l 3 2 ⟨[.k 1,.p 3,.k 1,.s (.own 1 0),.i 2],[.h 0 [.g [.i 0,.p 1]],.ni 2 1]⟩ ⟨[.k 2,.p 2,.k 1,.s (.own 1 0)],[.h 0 [.g [.i 0,.p 1]],.ni 2 1]⟩ [0,9] (.z 1 (.j 1 (EN [8,217,2,169] [0,8]) .o (.b (.t [0,260]) .o))) .o)
noncomputable def RW(t0:List GFact):((List (Int×Bool))×Int)->Option (Ex ((List (Int×Bool))×Int) Unit (Int×Int)):=λ(s1,s2)=>
 if s2<(t0.length:Int)then
  (idx t0 s2).bind λx3=>
  (Sg x3).bind λx4=>
  if¬x4=0 then
   some (Ex.ret (s2,x4))
  else
  if(Hz s1 x3.Id).getD false=true then
   some (Ex.ret (s2,7))
  else
  some (Ex.go ((jI x3.Id true s1),(aa .i64 (s2+1))))
 else
 some (Ex.brk ())
noncomputable def valM(t0:List GFact):Option (Int×Int):=
 if 128<(t0.length:Int)then
  some (0,4)
 else
 (ea (RW t0) (([]:List (Int×Bool)),0)).bind λy=>match y with
 |.inr v=>some v
 |.inl ()=>
 some (0,0)
theorem look_b{m:List Ent}{o:Option Bool}:mB false (.v (.bool false)) m (o.map sa)=some (.v (.bool (o.getD false)),m):=by cases o<;>rfl
theorem put_b{k:Int}{b:Bool}{l:List (Int×Bool)}:Is (.int .i64 k) (.v (.bool b)) (em sa l)=em sa (jI k b l):=NK (e:=sa)
theorem valM_ok{t0 r}(h:valM t0=some r):Den Tryz.prog 77 [Dh t0] (.tup [ca r.1,ca r.2]):=by
 refine dk 33 k77 ?_;simp only[k77,Kf.of,zs,ze];unfold valM at h;have q1:=@look_b;have q2:=@put_b;have q3:=λl=>xK (e:=sa) (l:=l);exact pg @RW.eq_1 (.l 2 0 (EN [113,10] [5]) (EN [] []) [] .o .o)
theorem ES{k:Int}{x:Bool}{q:Int}:∀{l:List (Int×Bool)},Hz (jI k x l) q=if q=k then some x else Hz l q
 |[]=>rfl
 |(a,b)::l=>by
  unfold jI;split
  .rename_i h;subst h;simp only[Hz];split<;>rfl
  .rename_i h;simp only[Hz,ES (l:=l)];by_cases h1:q=k
   .rw[if_pos h1,if_pos h1,if_neg (by omega)]
   .rw[if_neg h1,if_neg h1]
theorem r6{t0:List GFact}(hl:t0.length<=128) {r:Int×Int}:∀(l:List GFact) (i:Nat) (seen:List Int) (s:List (Int×Bool)),t0.drop i=l->(∀x,seen.contains x=(Hz s x).getD false)->af (i:Int) seen l=some r->
 ((
  ea (RW t0) (s,(i:Int))).bind λy=>match y with
  |.inr v=>some v
  |.inl ()=>some (0,0))=some r
 |[],i,seen,s,hd,hs,h=>by
  unfold af at h;have hi:t0.length<=i:=oae.1 hd;rw[Va (b:=()) (by unfold RW;dsimp only;rw[if_neg (by omega)])];exact h
 |f::l,i,seen,s,hd,hs,h=>by
  have hi:i<t0.length:=by
   by_cases hc:i<t0.length
   .exact hc
   .rw[oae.2 (by omega)]at hd;cases hd
  have hf:t0[i]=f/\t0.drop (i+1)=l:=by
   rw[List.drop_eq_getElem_cons hi]at hd;exact⟨(Zae hd).1,(Zae hd).2⟩
  unfold af at h
  cases hc:Sg f with
  |none=>rw[hc]at h;cases h
  |some c=>
   rw[hc]at h;have st:RW t0 (s,(i:Int))=if¬c=0 then some (.ret ((i:Int),c))else if(Hz s f.Id).getD false=true then some (.ret ((i:Int),7))else some (.go (jI f.Id true s,aa .i64 ((i:Int)+1))):=by
    unfold RW;dsimp only;rw[if_pos (by omega),Ea hi,hf.1,kaa,hc,kaa]
   simp only[kaa]at h;by_cases h0:c=0
   .rw[if_neg (Classical.not_not.2 h0)]at h st;rw[hs f.Id]at h;by_cases h1:(Hz s f.Id).getD false=true
    .rw[if_pos h1]at h st;rw[kr st];exact h
    .rw[if_neg h1]at h st;rw[va (by omega)]at st;rw[Jc st];refine r6 hl l (i+1) (f.Id::seen) _ hf.2 (λx=>?_) (by rw[←h];congr 1);rw[ES,List.contains_cons,hs x];by_cases hx:x=f.Id
     .rw[if_pos hx];simp[hx]
     .rw[if_neg hx];have:(x==f.Id)=false:=by simpa using hx
      rw[this,Bool.false_or]
   .rw[if_pos h0]at h st;rw[kr st];exact h
theorem TA{t0 r}(h:fk t0=some r):Den Tryz.prog 77 [Dh t0] (.tup [ca r.1,ca r.2]):=by
 refine valM_ok ?_;unfold fk at h;unfold valM;split at h
 .rename_i hc;rw[if_pos hc];exact h
 .rename_i hc;rw[if_neg hc];exact r6 (by omega) t0 0 [] [] rfl (λx=>rfl) h
instance zI77{t0 r}:Con (fk t0=some r) (Den Tryz.prog 77 [Dh t0] (.tup [ca r.1,ca r.2])):=⟨TA⟩
instance kX:C3 k150 Fo:=pg (And.intro (And.intro k150.eq_1 Fo.eq_1) lk.eq_1) (.l 1 0 (EN [40,9,224,17,2,145] [8]) (EN [] []) [4] .o .o)
instance zI211{t0 c10 r}:Con (Ga t0 (λx900=>Ic x900 c10)=some r) (Den Tryz.prog 211 [Wq t0,.fn 210 [] [Uq c10]] (sa r)):=⟨λh=>Al (q1:=[Uq c10]) (bE YB) (λx900 _ hb=>As hb) h⟩
instance EV:C4 k187 nk:=pg (And.intro k187.eq_1 nk.eq_1) (.b .o (.j 1 (EN [32,33,64,2,121] [0,8]) .o .o))
instance vX:C2 k218 Po:=pg (And.intro k218.eq_1 Po.eq_1) .o
instance LO:C3 k238 oj:=pg (And.intro (And.intro k238.eq_1 oj.eq_1) Fg.eq_1) (.l 2 1 (EN [16,33,8,9,10] [8,2]) (EN [56,9] [8,2]) [4,0] (.z 2 (.j 1 (EN [16,129] [0,258]) (.z 1 (.j 1 (EN [16,129,176,2,57] [0,8]) .o .o)) .o)) .o)
instance EW:C4 k273 xn:=pg (And.intro (And.intro k273.eq_1 xn.eq_1) uj.eq_1) (.z 2 (.j 1 (EN [8,57,128,2,521] [0]) .o (.z 1 (.j 1 (EN [8,185,80,2,441] [0]) .o (.z 1 (.j 1 (EN [8,265,48,2,393] [0]) .o (.l 3 2 (EN [8,25,48,2,10,225,16,17,18,361] []) (EN [24,9,48,2,10,225] []) [] (.z 2 (.e 2 (EN [8,73,2,10,265] []) (.z 3 (.j 1 (EN [8,353,152,2,201] [0]) .o .o)) .o)) .o)))))))
instance JM:C2 k38 Rc:=pg (And.intro (And.intro k38.eq_1 Rc.eq_1) Rf.eq_1) (.z 2 (.j 1 (EN [16,17,176,2,969] [0,8]) .o (.z 2 (.j 1 (EN [16,41,384,2,737] [0,8]) .o (.l 1 0 (EN [16,49,472,17,2,625] [0,8]) (EN [] []) [] (.z 7 (.j 1 (EN [16,81,2,457] [0,8,16]) .o (.z 1 (.e 2 ⟨[.k 2,.p 10,.k 1,.p 78],[.o 0,.o 1,.o 2,.h 3 [.g [.i 0,.i 1]]]⟩ (.z 2 (.j 1 (EN [16,713,104,2,345] [0,8,16,24]) .o .o)) (.z 1 (.j 1 (EN [16,985,2,177] [0,8,16,24]) .o (.z 1 (.j 1 (EN [16,73,448,465,160,2,17] [0,8]) .o .o)))))))) .o)))))
instance DV:C1 k106 iq:=pg (And.intro (And.intro k106.eq_1 iq.eq_1) bj.eq_1) (.l 1 0 (EN [8,49,48,17,2,153] [0,8]) (EN [16,41] [8]) [] (.b .o (.t [4])) .o)
instance r7:C3 k192 Ip:=pg (And.intro (And.intro k192.eq_1 Ip.eq_1) Bq.eq_1) (.l 2 0 (EN [8,2,10,25] [0]) (EN [] []) [] (.z 2 (.e 1 (EN [8,9,2,41] [0]) .o .o)) .o)
instance iT:C3 k225 Ll:=pg (And.intro k225.eq_1 Ll.eq_1) (.z 2 (.j 1 (EN [49,88,2,65] []) .o .o))
instance B6:C2 k191 Mt:=pg (And.intro k191.eq_1 Mt.eq_1) .o
end Go.Proofs.Dev
