/-
  Contracts of the functions: each answers as its plain partial function says.
-/
import Derived.Test.YtjiaejcpmcknnaaGreatDoorK
import Derived.Test.YtjiaejcpmcknnaaGreatDoorG
import Derived.Test.YtjiaejcpmcknnaaGreatDoorPD
import Derived.Test.YtjiaejcpmcknnaaGreatDoorH1
import Derived.Test.YtjiaejcpmcknnaaGreatDoorH2
set_option linter.all false
set_option maxHeartbeats 1000000
set_option maxRecDepth 10000
namespace Go.Proofs.Dev
open Go Go.Tm
instance {t0 t1 r}:Con (iw t0 t1=some r) (Den Tryz.prog 18 [la t0,la t1] (ba r)):=⟨λh=>by
 refine dk 30 k18 ?_
 simp only[k18,Kf.of,zs,ze]
 unfold iw at h
 exact pg @Nq.eq_1 (.b .o (.l 1 0 (λ(s2:Int)=>⟨[.p 4,.k 1,.s (aa s2)],[]⟩) (λ(_:Unit)=>⟨[],[]⟩) [] (.z 1 (.j 1 (λ(j4:Bool)=>⟨[.p 20,.s (ba j4),.p 11],[]⟩) (.b (.t []) (.t [])) (.b (.b .o (.t [])) (.t [])))) .o))⟩
instance {t0 t1 r}:Con (jv t0 t1=some r) (Den Tryz.prog 45 [jb t0,jb t1] (ba r)):=⟨λh=>by
 refine dk 30 k45 ?_
 simp only[k45,Kf.of,zs,ze]
 unfold jv at h
 exact pg @Gy.eq_1 (.b .o (.l 1 0 (λ(s2:Int)=>⟨[.p 4,.k 1,.s (aa s2)],[]⟩) (λ(_:Unit)=>⟨[],[]⟩) [] (.z 1 (.j 1 (λ(j4:Bool)=>⟨[.p 20,.s (ba j4),.p 11],[]⟩) (.b (.t []) (.t [])) (.b (.b .o (.t [])) (.t [])))) .o))⟩
instance {t0 r}:Con (Hs t0=some r) (Den Tryz.prog 63 [Eb t0] (aa r)):=⟨λh=>by
 refine dk 36 k63 ?_
 simp only[k63,Kf.of,zs,ze]
 unfold Hs at h
 exact pg (And.intro @ai.eq_1 @Hn.eq_1) (.l 1 0 (λ(s1:Int)=>⟨[.p 2,.k 1,.p 1,.s (aa s1),.p 32],[]⟩) (λ(_:Unit)=>⟨[.p 2,.k 1,.p 1],[]⟩) [] (.b (.b .o (.t [])) (.t [])) (.l 2 1 (λ(q:(Int × Int))=>⟨[.p 3,.s (aa q.1),.p 1,.s (aa q.2),.p 31],[]⟩) (λ(b14:Int)=>⟨[.k 3,.s (aa b14),.p 1],[]⟩) [] (.z 1 (.j 1 (λ(j9:Bool)=>⟨[.p 25,.s (ba j9),.p 11],[]⟩) (.b (.t []) (.t [])) (.b (.t []) (.t [])))) .o))⟩
instance {t0 r}:Con (rh t0=some r) (Den Tryz.prog 98 [aa t0] (ba r)):=⟨λh=>by
 refine dk 8 k98 ?_
 simp only[k98,Kf.of,zs,ze]
 unfold rh at h
 exact pg trivial (.z 1 (.j 1 (λ(j2:Bool)=>⟨[.k 2,.s (ba j2),.p 6],[]⟩) (.b (.t []) (.t [])) .o))⟩
instance {t0 t1 r}:Con (Fl t0 t1=some r) (Den Tryz.prog 102 [la t0,aa t1] (la r)):=⟨λh=>by
 refine dk 49 k102 ?_
 simp only[k102,Kf.of,zs,ze]
 unfold Fl at h
 exact pg (And.intro @Vl.eq_1 @Wl.eq_1) (.l 2 1 (λ(q:((List Int) × Int))=>⟨[.p 4,.k 1,.s (.own 0 0),.s (aa q.2),.p 44],[.n 1 ((q.1.map aa))]⟩) (λ(b10:(List Int))=>⟨[.p 4,.k 1,.s (.own 0 0)],[.n 1 ((b10.map aa))]⟩) [on 1] (.b (.j 1 (λ(j7:(List Int))=>⟨[.p 8],[.c 0 ((j7.map aa))]⟩) (.b (.t [ov 0 1]) (.t [ok 0])) (.t [ok 0])) (.t [ok 0])) (.l 2 1 (λ(q:((List Int) × Int))=>⟨[.p 7,.s (aa q.2),.p 19],[.c 0 ((q.1.map aa))]⟩) (λ(b21:(List Int))=>⟨[.k 5,.p 2],[.c 0 ((b21.map aa))]⟩) [ov 0 1] (.b (.j 1 (λ(j18:(List Int))=>⟨[.p 31],[.c 0 ((j18.map aa))]⟩) (.b (.t [ov 0 1]) (.t [ok 0])) (.t [ok 0])) (.t [ok 0])) .o))⟩
instance {t0 t1 r}:Con (Ub t0 t1=some r) (Den Tryz.prog 111 [ua t0,Wb t1] (ba r)):=⟨λh=>by
 refine dk 26 k111 ?_
 simp only[k111,Kf.of,zs,ze]
 unfold Ub at h
 exact pg trivial (.z 3 (.j 1 (λ(j5:Bool)=>⟨[.k 1,.p 3,.k 2,.p 1,.s (ba j5),.p 20],[.o 0]⟩) (.b (.t [ok 0]) (.b (.t [ok 0]) (.b (.t [ok 0]) (.b (.t [ok 0]) (.t [ok 0]))))) (.b .o (.b (.j 1 (λ(j9:Bool)=>⟨[.k 4,.s (ba j9),.p 1],[]⟩) (.b (.t []) (.t [])) .o) .o))))⟩
instance {t0 r}:Con (Wk t0=some r) (Den Tryz.prog 141 [aa t0] (aa r)):=⟨λh=>by
 refine dk 32 k141 ?_
 simp only[k141,Kf.of,zs,ze]
 unfold Wk at h
 exact pg trivial (.z 2 (.j 1 (λ(j5:Bool)=>⟨[.p 2,.k 14,.s (ba j5),.p 16],[]⟩) (.b (.b (.b (.t []) (.t [])) (.t [])) (.b (.t []) (.t []))) (.b .o (.z 2 (.j 1 (λ(j12:Bool)=>⟨[.p 16,.k 1,.p 1,.s (ba j12),.p 14],[]⟩) (.b (.t []) (.b (.t []) (.b (.t []) (.b (.t []) (.b (.t []) (.t [])))))) (.b .o (.b .o (.z 1 (.j 1 (λ(j16:Bool)=>⟨[.k 32,.s (ba j16)],[]⟩) (.b (.t []) (.t [])) .o)))))))))⟩
instance {t0 r}:Con (Uo t0=some r) (Den Tryz.prog 172 [zM t0] (ba r)):=⟨λh=>by
 refine dk 8 k172 ?_
 simp only[k172,Kf.of,zs,ze]
 unfold Uo at h
 exact pg trivial (.z 1 (.j 1 (λ(j2:Bool)=>⟨[.k 2,.s (ba j2),.p 6],[]⟩) (.b (.t []) (.t [])) .o))⟩
instance {t0 r}:Con (Fs t0=some r) (Den Tryz.prog 184 [zM t0] (ba r)):=⟨λh=>by
 refine dk 8 k184 ?_
 simp only[k184,Kf.of,zs,ze]
 unfold Fs at h
 exact pg trivial (.z 1 (.j 1 (λ(j2:Bool)=>⟨[.k 2,.s (ba j2),.p 6],[]⟩) (.b (.t []) (.t [])) .o))⟩
instance {t0 t1 t2 r}:Con (Xh t0 t1 t2=some r) (Den Tryz.prog 189 [Cb t0,aa t1,vg t2] (ba r)):=⟨λh=>by
 refine dk 23 k189 ?_
 simp only[k189,Kf.of,zs,ze]
 unfold Xh at h
 exact pg @Aj.eq_1 (.l 1 0 (λ(s1:Int)=>⟨[.p 6,.k 1,.s (aa s1),.p 18],[]⟩) (λ(_:Unit)=>⟨[],[]⟩) [] (.z 1 (.j 1 (λ(j3:Bool)=>⟨[.p 16,.s (ba j3),.p 9],[]⟩) (.b (.t []) (.t [])) (.b (.b .o (.t [])) (.t [])))) .o)⟩
instance {t0 r}:Con (Wf t0=some r) (Den Tryz.prog 205 [aa t0] (ba r)):=⟨λh=>by
 refine dk 8 k205 ?_
 simp only[k205,Kf.of,zs,ze]
 unfold Wf at h
 exact pg trivial (.z 1 (.j 1 (λ(j2:Bool)=>⟨[.k 2,.s (ba j2),.p 6],[]⟩) (.b (.t []) (.t [])) .o))⟩
instance {t0 r}:Con (Jr t0=some r) (Den Tryz.prog 234 [zM t0] (ba r)):=⟨λh=>by
 refine dk 8 k234 ?_
 simp only[k234,Kf.of,zs,ze]
 unfold Jr at h
 exact pg trivial (.z 1 (.j 1 (λ(j2:Bool)=>⟨[.k 2,.s (ba j2),.p 6],[]⟩) (.b (.t []) (.t [])) .o))⟩
theorem Mm{t0}{t1:GScope->Option Bool}{k1:Nat}{q1:List D}(hc1:ia q1=true)(hp1:∀ x0 r,t1 x0=some r->Den Tryz.prog k1 ([Ea x0]++q1) (ba r)){r} (h:Pb t0 t1=some r):Den Tryz.prog 237 [zp t0,.fn k1 [] q1] (aa r):=by
 haveI I1:∀ x0 r,Con (t1 x0=some r) (Den Tryz.prog k1 ([Ea x0]++q1) (ba r)):=λx0 r=>⟨hp1 x0 r⟩
 have s1:∀ f:D->D->Prop,Ax f q1 q1=True:=λ_=>Tg hc1
 have z1:∀ a b n,Cv a b n q1=q1:=λ_ _ _=>uf _ _ _ _ hc1
 refine Den.at 17 I9.ok I9.nm (tE (lT hc1 JC)) rfl ?_
 simp only[I9,Kf.of,zs,ze]
 unfold Pb at h
 exact pg @Mc.eq_1 (.l 1 0 (λ(s1:Int)=>⟨[.p 4,.k 3,.p 1,.s (aa s1),.p 10],[]⟩) (λ(_:Unit)=>⟨[],[]⟩) [] (.b (.b .o (.t [])) (.t [])) .o)
theorem As{t0 t1 r} (h:Ic t0 t1=some r):Den Tryz.prog 238 [ab t0,cr t1] (ba r):=by
 refine dk 7 k238 ?_
 simp only[k238,Kf.of,zs,ze]
 unfold Ic at h
 exact pg trivial .o
instance {t0 t1 r}:Con (Ic t0 t1=some r) (Den Tryz.prog 238 [ab t0,cr t1] (ba r)):=⟨As⟩
instance {t0 r}:Con (av t0=some r) (Den Tryz.prog 245 [zM t0] (ba r)):=⟨λh=>by
 refine dk 8 k245 ?_
 simp only[k245,Kf.of,zs,ze]
 unfold av at h
 exact pg trivial (.z 1 (.j 1 (λ(j2:Bool)=>⟨[.k 2,.s (ba j2),.p 6],[]⟩) (.b (.t []) (.t [])) .o))⟩
instance {t0 t1 r}:Con (ju t0 t1=some r) (Den Tryz.prog 248 [Ea t0,aa t1] (ba r)):=⟨λh=>by
 refine dk 12 k248 ?_
 simp only[k248,Kf.of,zs,ze]
 unfold ju at h
 exact pg trivial (.z 1 (.j 1 (λ(j2:Bool)=>⟨[.k 4,.s (ba j2),.p 9],[]⟩) (.b (.t []) (.t [])) .o))⟩
instance {t0 t1 r}:Con (Gl t0 t1=some r) (Den Tryz.prog 284 [la t0,aa t1] (la r)):=⟨λh=>by
 refine dk 46 k284 ?_
 simp only[k284,Kf.of,zs,ze]
 unfold Gl at h
 exact pg @Yl.eq_1 (.l 3 2 (λ(q:((List Int) × Bool × Int))=>⟨[.p 4,.k 1,.s (.own 0 0),.s (ba q.2.1),.s (aa q.2.2),.p 40],[.n 1 ((q.1.map aa))]⟩) (λ(q:((List Int) × Bool))=>⟨[.k 1,.p 3,.k 1,.s (.own 0 0),.s (ba q.2)],[.n 1 ((q.1.map aa))]⟩) [on 1] (.b (.z 1 (.j 2 (λ(q:((List Int) × Bool))=>⟨[.p 6,.s (ba q.2),.p 1],[.c 0 ((q.1.map aa))]⟩) (.j 1 (λ(j7:Bool)=>⟨[.p 8,.k 15,.s (ba j7),.p 24],[.o 0]⟩) (.b (.t [ok 0]) (.t [ok 0])) (.b (.j 1 (λ(j12:(List Int))=>⟨[.p 6,.k 1,.p 16],[.c 0 ((j12.map aa))]⟩) (.b (.t [ov 0 1]) (.t [ok 0])) (.t [ok 0])) (.t [ok 0]))) (.t [ov 0 1]))) (.t [ok 0])) (.j 1 (λ(j24:(List Int))=>⟨[.k 5,.p 1],[.c 0 ((j24.map aa))]⟩) (.b (.t [ov 0 1]) (.t [ok 0])) .o))⟩
instance {t0 r}:Con (Jg t0=some r) (Den Tryz.prog 341 [aa t0] (ba r)):=⟨λh=>by
 refine dk 8 k341 ?_
 simp only[k341,Kf.of,zs,ze]
 unfold Jg at h
 exact pg trivial (.z 1 (.j 1 (λ(j2:Bool)=>⟨[.k 2,.s (ba j2),.p 6],[]⟩) (.b (.t []) (.t [])) .o))⟩
instance {t0 t1 r}:Con (Pe t0 t1=some r) (Den Tryz.prog 342 [aa t0,aa t1] (ba r)):=⟨λh=>by
 refine dk 12 k342 ?_
 simp only[k342,Kf.of,zs,ze]
 unfold Pe at h
 exact pg trivial (.z 1 (.j 1 (λ(j2:Bool)=>⟨[.k 4,.s (ba j2),.p 9],[]⟩) (.b (.t []) (.t [])) .o))⟩
instance {t0 r}:Con (Ud t0=some r) (Den Tryz.prog 343 [aa t0] (Ai r)):=⟨λh=>by
 refine dk 9 k343 ?_
 simp only[k343,Kf.of,zs,ze]
 unfold Ud at h
 exact pg trivial .o⟩
instance {t0 t1 t2 t3 t4 r}:Con (xe t0 t1 t2 t3 t4=some r) (Den Tryz.prog 344 [Ai t0,Ai t1,Ai t2,ba t3,aa t4] (Ai r)):=⟨λh=>by
 refine dk 50 k344 ?_
 simp only[k344,Kf.of,zs,ze]
 unfold xe at h
 exact pg trivial (.b .o (.z 1 (.j 1 (λ(j9:Bool)=>⟨[.p 1,.k 10,.s (ba j9)],[]⟩) (.b (.t []) (.b (.t []) (.b (.t []) (.b (.t []) (.b (.b (.b (.t []) (.t [])) (.t [])) (.t [])))))) (.j 1 (λ(j11:Int)=>⟨[.s (.v (.int .u64 j11)),.p 10],[]⟩) (.b (.t []) (.t [])) .o))))⟩
instance {t0 t1 r}:Con (jo t0 t1=some r) (Den Tryz.prog 345 [Ai t0,ba t1] (aa r)):=⟨λh=>by
 refine dk 9 k345 ?_
 simp only[k345,Kf.of,zs,ze]
 unfold jo at h
 exact pg trivial .o⟩
instance {t0 r}:Con (Ur t0=some r) (Den Tryz.prog 347 [aa t0] (ba r)):=⟨λh=>by
 refine dk 15 k347 ?_
 simp only[k347,Kf.of,zs,ze]
 unfold Ur at h
 exact pg trivial (.z 1 (.j 1 (λ(j3:Bool)=>⟨[.k 2,.s (ba j3),.p 13],[]⟩) (.b (.b (.t []) (.t [])) (.t [])) .o))⟩
instance {t0 r}:Con (Fk t0=some r) (Den Tryz.prog 349 [aa t0] (ba r)):=⟨λh=>by
 refine dk 8 k349 ?_
 simp only[k349,Kf.of,zs,ze]
 unfold Fk at h
 exact pg trivial (.z 1 (.j 1 (λ(j2:Bool)=>⟨[.k 2,.s (ba j2),.p 6],[]⟩) (.b (.t []) (.t [])) .o))⟩
instance {t0 t1 r}:Con (oj t0 t1=some r) (Den Tryz.prog 350 [aa t0,aa t1] (ba r)):=⟨λh=>by
 refine dk 12 k350 ?_
 simp only[k350,Kf.of,zs,ze]
 unfold oj at h
 exact pg trivial (.z 1 (.j 1 (λ(j2:Bool)=>⟨[.k 4,.s (ba j2),.p 9],[]⟩) (.b (.t []) (.t [])) .o))⟩
instance {t0 t1 t2 t3 t4 r}:Con (Xo t0 t1 t2 t3 t4=some r) (Den Tryz.prog 351 [Ai t0,Ai t1,Ai t2,ba t3,aa t4] (ba r)):=⟨λh=>by
 refine dk 44 k351 ?_
 simp only[k351,Kf.of,zs,ze]
 unfold Xo at h
 exact pg trivial (.b .o (.b .o (.b .o (.b .o (.b .o (.b (.j 1 (λ(j9:Bool)=>⟨[.k 10,.s (ba j9)],[]⟩) (.b (.b (.t []) (.t [])) (.t [])) .o) .o))))))⟩
instance {t0 t1 r}:Con (Kc t0 t1=some r) (Den Tryz.prog 112 [ua t0,Wb t1] (.tup [aa r.1,aa r.2])):=⟨λh=>by
 refine dk 28 k112 ?_
 simp only[k112,Kf.of,zs,ze]
 unfold Kc at h
 exact pg trivial .o⟩
instance {t0 r}:Con (Kg t0=some r) (Den Tryz.prog 140 [Wa t0] (.tup [la r.1,aa r.2.1,aa r.2.2])):=⟨λh=>by
 refine dk 69 k140 ?_
 simp only[k140,Kf.of,zs,ze]
 unfold Kg at h
 exact pg @Th.eq_1 (.b .o (.b .o (.l 3 2 (λ(q:((List Int) × (List Int) × Int))=>⟨[.p 2,.k 3,.s (.own 0 0),.s (.own 1 0),.s (aa q.2.2),.p 2],[.n 1 ((q.1.map aa)),.n 1 ((q.2.1.map aa))]⟩) (λ(q:((List Int) × (List Int)))=>⟨[.p 2,.k 3,.s (.own 0 0),.s (.own 1 0)],[.n 1 ((q.1.map aa)),.n 1 ((q.2.map aa))]⟩) [on 1,on 1] (.b (.b .o (.b .o (.z 1 (.j 2 (λ(q:((List Int) × Int))=>⟨[.p 8,.k 1,.s (aa q.2),.p 6],[.o 0,.c 1 ((q.1.map aa))]⟩) (.b (.t [ok 0,ov 1 1]) (.t [ok 0,ok 1])) (.b .o (.t [ov 0 1,ov 1 1])))))) (.t [ok 0,ok 1])) .o)))⟩
instance {t0 r}:Con (Ek t0=some r) (Den Tryz.prog 173 [vg t0] (aa r)):=⟨λh=>by
 refine dk 28 k173 ?_
 simp only[k173,Kf.of,zs,ze]
 unfold Ek at h
 exact pg @xd.eq_1 (.l 1 1 (λ(s1:Int)=>⟨[.p 2,.k 1,.s (aa s1),.p 25],[]⟩) (λ(b11:Int)=>⟨[.k 3,.s (aa b11),.p 25],[]⟩) [] (.z 1 (.j 1 (λ(j8:Bool)=>⟨[.p 25,.s (ba j8),.p 3],[]⟩) (.b (.b (.b (.t []) (.t [])) (.t [])) (.t [])) (.b (.t []) (.t [])))) .o)⟩
theorem Ll{t0}{t1:GScope->Option Bool}{k1:Nat}{q1:List D}(hc1:ia q1=true)(hp1:∀ x0 r,t1 x0=some r->Den Tryz.prog k1 ([Ea x0]++q1) (ba r)){r} (h:Ua t0 t1=some r):Den Tryz.prog 179 [zp t0,.fn k1 [] q1] (ba r):=by
 haveI I1:∀ x0 r,Con (t1 x0=some r) (Den Tryz.prog k1 ([Ea x0]++q1) (ba r)):=λx0 r=>⟨hp1 x0 r⟩
 have s1:∀ f:D->D->Prop,Ax f q1 q1=True:=λ_=>Tg hc1
 have z1:∀ a b n,Cv a b n q1=q1:=λ_ _ _=>uf _ _ _ _ hc1
 haveI:∀ y0 r,Con (Pb y0 t1=some r) (Den Tryz.prog 237 [zp y0,.fn k1 [] q1] (aa r)):=λy0 r=>⟨Mm hc1 hp1⟩
 refine Den.at 7 D9.ok D9.nm (tE (lT hc1 JC)) rfl ?_
 simp only[D9,Kf.of,zs,ze]
 unfold Ua at h
 exact pg trivial .o
instance {t0 r}:Con (du t0=some r) (Den Tryz.prog 185 [zM t0] (ba r)):=⟨λh=>by
 refine dk 12 k185 ?_
 simp only[k185,Kf.of,zs,ze]
 unfold du at h
 exact pg trivial (.z 1 (.j 1 (λ(j5:Bool)=>⟨[.k 2,.s (ba j5),.p 10],[]⟩) (.b (.b (.t []) (.t [])) (.t [])) .o))⟩
instance zzi0 {t0 t1 t2 r}:Con (sb t0 t1 t2=some r) (Den Tryz.prog 202 [aa t0,nk t1,wa t2] (.tup [ua r.1,aa r.2])):=⟨λh=>by
 refine dk 27 k202 ?_
 simp only[k202,Kf.of,zs,ze]
 unfold sb at h
 exact pg trivial (.z 2 (.j 1 (λ(j2:Bool)=>⟨[.p 2,.k 3,.p 2,.k 8,.s (ba j2),.p 14],[.o 0,.o 1]⟩) (.b (.t [ok 0,ok 1]) (.t [ok 0,ok 1])) .o))⟩
instance {t0 t1 t2 r}:Con (Ih t0 t1 t2=some r) (Den Tryz.prog 203 [Na t0,ua t1,wa t2] (.tup [ua r.1,aa r.2])):=⟨λh=>by
 refine dk 81 k203 ?_
 simp only[k203,Kf.of,zs,ze]
 unfold Ih at h
 exact pg trivial (.z 2 (.e 1 (λ(j6:Int)=>⟨[.k 3,.p 4,.k 1,.s (aa j6),.p 2],[.o 0,.o 1,.o 2,.o 3]⟩) (.b (.z 1 (.j 1 (λ(j4:Bool)=>⟨[.k 3,.p 4,.k 18,.s (ba j4),.p 58],[.o 0,.o 1,.o 2,.o 3]⟩) (.b (.t [ok 0,ok 1,ok 2,ok 3]) (.t [ok 0,ok 1,ok 2,ok 3])) (.b .o (.t [ok 0,ok 1,ok 2,ok 3])))) (.t [ok 0,ok 1,ok 2,ok 3])) (.z 1 (.j 1 (λ(j8:Bool)=>⟨[.k 3,.p 35,.s (ba j8),.p 45],[.o 0,.o 1,.o 2,.o 3]⟩) (.b (.t [ok 0,ok 1,ok 2,ok 3]) (.t [ok 0,ok 1,ok 2,ok 3])) (.b .o (.z 1 (.f ⟨[.k 3,.p 81],[.o 0,.o 1,.o 2,.o 3,.n 2 [],.n 2 []]⟩ [ok 0,ok 1,ok 2,ok 3,on 2,on 2] (.g [[],[],[],[],[],[],[],[],[],[],[],[],[1,3,5,7,9,11],[1,3,5,7,9,11,12],[7,9,11]] [none,none,none,none,none,none,none,none,none,none,none,none,some 4,some 5,none] (.z 1 (.j 1 (λ(j15:Bool)=>⟨[.k 3,.p 1,.k 2,.p 2,.k 1,.p 29,.k 30,.s (ba j15),.p 15],[.o 0,.o 3,.o 4,.o 5]⟩) (.b (.b (.t [ok 0,ok 3,ov 4 1,ov 5 1]) (.t [ok 0,ok 3,ov 4 1,ov 5 1])) (.t [ok 0,ok 3,ov 4 1,ov 5 1])) (.b .o (.b (.z 1 (.j 1 (λ(j19:Bool)=>⟨[.k 6,.p 4,.k 70,.s (ba j19),.p 3],[.o 1,.o 2]⟩) (.b (.t [ok 1,ok 2]) (.t [ok 1,ok 2])) .o)) .o))))))))))))⟩
instance {t0 r}:Con (qh t0=some r) (Den Tryz.prog 249 [Wa t0] (.tup [la r.1,la r.2.1,la r.2.2])):=⟨λh=>by
 refine dk 54 k249 ?_
 simp only[k249,Kf.of,zs,ze]
 unfold qh at h
 exact pg @Pg.eq_1 (.l 4 3 (λ(q:((List Int) × (List Int) × (List Int) × Int))=>⟨[.p 2,.k 3,.s (la q.1),.s (la q.2.1),.s (la q.2.2.1),.s (aa q.2.2.2),.p 46],[]⟩) (λ(q:((List Int) × (List Int) × (List Int)))=>⟨[.k 5,.s (la q.1),.s (la q.2.1),.s (la q.2.2)],[]⟩) [] (.b (.j 3 (λ(q:((List Int) × (List Int) × (List Int)))=>⟨[.p 5,.s (la q.1),.s (la q.2.1),.s (la q.2.2),.p 2],[]⟩) (.z 1 (.j 1 (λ(j9:(List Int))=>⟨[.p 5,.s (la j9),.p 4],[]⟩) (.b (.t []) (.t [])) (.j 1 (λ(j12:(List Int))=>⟨[.p 6,.s (la j12),.p 48],[]⟩) (.b (.t []) (.t [])) (.j 1 (λ(j14:Bool)=>⟨[.p 9,.k 35,.s (ba j14),.p 10],[]⟩) (.b (.t []) (.t [])) (.b (.t []) (.t [])))))) (.t [])) (.t [])) .o)⟩
instance {t0 t1 r}:Con (ni t0 t1=some r) (Den Tryz.prog 288 [aa t0,aa t1] (.tup [aa r.1,aa r.2.1,ba r.2.2])):=⟨λh=>by
 refine dk 45 k288 ?_
 simp only[k288,Kf.of,zs,ze]
 unfold ni at h
 exact pg trivial (.z 2 (.j 1 (λ(j2:Int)=>⟨[.p 4,.k 3,.s (.v (.int .u64 j2)),.p 4],[]⟩) (.b (.t []) (.t [])) .o))⟩
instance {t0 t1 t2 r}:Con (Zf t0 t1 t2=some r) (Den Tryz.prog 313 [aa t0,aa t1,aa t2] (.tup [aa r.1,aa r.2])):=⟨λh=>by
 refine dk 42 k313 ?_
 simp only[k313,Kf.of,zs,ze]
 unfold Zf at h
 exact pg trivial (.b .o (.b .o (.z 1 (.j 1 (λ(j7:Bool)=>⟨[.p 6,.k 16,.s (ba j7),.p 22],[]⟩) (.b (.t []) (.t [])) .o))))⟩
instance zzi1 {t0 t1 r}:Con (oe t0 t1=some r) (Den Tryz.prog 316 [aa t0,aa t1] (aa r)):=⟨λh=>by
 refine dk 19 k316 ?_
 simp only[k316,Kf.of,zs,ze]
 unfold oe at h
 exact pg trivial (.z 2 (.j 1 (λ(j2:Bool)=>⟨[.p 4,.k 6,.s (ba j2),.p 10],[]⟩) (.b (.t []) (.t [])) (.b .o (.z 1 (.j 1 (λ(j6:Bool)=>⟨[.k 1,.p 9,.k 6,.s (ba j6),.p 4],[]⟩) (.b (.t []) (.t [])) .o)))))⟩
instance {t0 t1 r}:Con (sq t0 t1=some r) (Den Tryz.prog 317 [aa t0,aa t1] (.tup [aa r.1,aa r.2])):=⟨λh=>by
 refine dk 36 k317 ?_
 simp only[k317,Kf.of,zs,ze]
 unfold sq at h
 exact pg trivial (.z 3 (.j 1 (λ(j3:Bool)=>⟨[.p 4,.k 3,.p 1,.k 19,.s (ba j3),.p 10],[]⟩) (.b (.t []) (.t [])) .o))⟩
instance {t0 t1 t2 r}:Con (An t0 t1 t2=some r) (Den Tryz.prog 321 [aa t0,aa t1,aa t2] (.tup [aa r.1,aa r.2])):=⟨λh=>by
 refine dk 70 k321 ?_
 simp only[k321,Kf.of,zs,ze]
 unfold An at h
 exact pg trivial (.b .o (.b .o (.z 1 (.j 1 (λ(j7:Bool)=>⟨[.p 6,.k 19,.s (ba j7),.p 47],[]⟩) (.b (.t []) (.t [])) (.b .o (.b .o (.b .o (.z 1 (.j 1 (λ(j15:Int)=>⟨[.k 8,.p 1,.k 5,.s (aa j15),.p 10],[]⟩) (.b (.t []) (.t [])) (.b .o (.j 1 (λ(j18:Int)=>⟨[.k 14,.s (aa j18),.p 52],[]⟩) (.b (.t []) (.t [])) .o)))))))))))⟩
instance {t0 t1 t2 t3 r}:Con (Bq t0 t1 t2 t3=some r) (Den Tryz.prog 348 [aa t0,aa t1,aa t2,aa t3] (.tup [aa r.1,aa r.2])):=⟨λh=>by
 refine dk 68 k348 ?_
 simp only[k348,Kf.of,zs,ze]
 unfold Bq at h
 exact pg trivial (.b .o (.b .o (.z 1 (.j 1 (λ(j9:Bool)=>⟨[.p 8,.k 22,.s (ba j9),.p 41],[]⟩) (.b (.b (.t []) (.t [])) (.t [])) .o))))⟩
end Go.Proofs.Dev
