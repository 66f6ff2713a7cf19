/-
  Contracts of the functions: each answers as its plain partial function says.
-/
import Derived.Test.YtjjfnbpfgfopbaaGreatDoorK
import Derived.Test.YtjjfnbpfgfopbaaGreatDoorG
import Derived.Test.YtjjfnbpfgfopbaaGreatDoorPE
import Derived.Test.YtjjfnbpfgfopbaaGreatDoorH1
import Derived.Test.YtjjfnbpfgfopbaaGreatDoorH2
import Derived.Test.YtjjfnbpfgfopbaaGreatDoorL1
import Derived.Test.YtjjfnbpfgfopbaaGreatDoorQ0
import Derived.Test.YtjjfnbpfgfopbaaGreatDoorQ1
import Derived.Test.YtjjfnbpfgfopbaaGreatDoorQ2
import Derived.Test.YtjjfnbpfgfopbaaGreatDoorQ3
set_option linter.all false
set_option maxHeartbeats 1000000
set_option maxRecDepth 10000
namespace Go.Proofs.Dev
open Go Go.Tm
instance zI156{t0 t1 t2 r}:Con (Oq t0 t1 t2=some r) (Den Tryz.prog 8 [xb t0,Da t1,zb t2] (ba r)):=⟨λh=>by
 refine dk 14 k8 ?_
 simp only[k8,Kf.of,zs,ze]
 unfold Oq at h
 exact pg trivial (.z 1 (.j 1 (λ(j6:Bool)=>⟨[.k 6,.s (ba j6),.p 10],[]⟩) (.b (.b (.t []) (.t [])) (.t [])) .o))⟩
instance zI157{t0 t1 t2 r}:Con (fo t0 t1 t2=some r) (Den Tryz.prog 57 [aa t0,aa t1,aa t2] (.tup [aa r.1,aa r.2])):=⟨λh=>by
 refine dk 11 k57 ?_
 simp only[k57,Kf.of,zs,ze]
 unfold fo at h
 exact pg trivial .o⟩
instance zI158{t0 t1 t2 r}:Con (ti t0 t1 t2=some r) (Den Tryz.prog 100 [aa t0,aa t1,aa t2] (.tup [aa r.1,aa r.2])):=⟨λh=>by
 refine dk 50 k100 ?_
 simp only[k100,Kf.of,zs,ze]
 unfold ti at h
 exact pg @Rc.eq_1 (.z 2 (.j 1 (λ(j7:Bool)=>⟨[.p 6,.k 28,.s (ba j7),.p 18],[]⟩) (.b (.b (.b (.b (.b (.t []) (.t [])) (.t [])) (.t [])) (.t [])) (.t [])) (.b .o (.l 2 1 (λ(q:(Int × Int))=>⟨[.p 1,.k 1,.p 6,.s (aa q.1),.p 25,.k 4,.p 1,.s (aa q.2),.p 13],[]⟩) (λ(b16:Int)=>⟨[.k 2,.p 6,.s (aa b16),.p 25],[]⟩) [] (.b (.t []) (.t [])) .o))))⟩
instance zI159{t0 r}:Con (zv t0=some r) (Den Tryz.prog 101 [aa t0] (aa r)):=⟨λh=>by
 refine dk 12 k101 ?_
 simp only[k101,Kf.of,zs,ze]
 unfold zv at h
 exact pg trivial .o⟩
theorem Dp{t0 r} (h:Ab t0=some r):Den Tryz.prog 152 [fj t0] (ba r):=by
 refine dk 26 k152 ?_
 simp only[k152,Kf.of,zs,ze]
 unfold Ab at h
 exact pg trivial (.z 1 (.j 1 (λ(j9:Bool)=>⟨[.k 2,.s (ba j9),.p 24],[]⟩) (.b (.b (.b (.b (.t []) (.t [])) (.t [])) (.t [])) (.t [])) .o))
instance zI160{t0 r}:Con (Ab t0=some r) (Den Tryz.prog 152 [fj t0] (ba r)):=⟨Dp⟩
instance zI161{t0 c10 r}:Con (eb t0 (λx900=>cg x900 c10)=some r) (Den Tryz.prog 181 [gh t0,.fn 182 [] [oq c10]] (ba r)):=⟨λh=>El (q1:=[oq c10]) (DC FA) (λx900 _ hb=>Gt hb) h⟩
theorem BE{t0 t1 r} (h:gk t0 t1=some r):Den Tryz.prog 153 [gh t0,fj t1] (ba r):=by
 refine dk 6 k153 ?_
 simp only[k153,Kf.of,zs,ze]
 unfold gk at h
 exact pg trivial .o
instance zI162{t0 t1 r}:Con (gk t0 t1=some r) (Den Tryz.prog 153 [gh t0,fj t1] (ba r)):=⟨BE⟩
instance zI163{t0 t1 r}:Con (Nb t0 t1=some r) (Den Tryz.prog 239 [fh t0,aa t1] (aa r)):=⟨λh=>by
 refine dk 20 k239 ?_
 simp only[k239,Kf.of,zs,ze]
 unfold Nb at h
 exact pg trivial .o⟩
theorem Vs{t0 t1 t2 r} (h:nf t0 t1 t2=some r):Den Tryz.prog 283 [Cj t0,Ph t1,Ph t2] (ba r):=by
 refine dk 18 k283 ?_
 simp only[k283,Kf.of,zs,ze]
 unfold nf at h
 exact pg trivial (.z 1 (.j 1 (λ(j4:Bool)=>⟨[.k 4,.s (ba j4),.p 16],[]⟩) (.b (.b (.t []) (.t [])) (.t [])) .o))
instance zI164{t0 t1 t2 r}:Con (nf t0 t1 t2=some r) (Den Tryz.prog 283 [Cj t0,Ph t1,Ph t2] (ba r)):=⟨Vs⟩
instance zI165{t0 t1 t2 r}:Con (Mm t0 t1 t2=some r) (Den Tryz.prog 285 [aa t0,aa t1,aa t2] (.tup [aa r.1,aa r.2])):=⟨λh=>by
 refine dk 57 k285 ?_
 simp only[k285,Kf.of,zs,ze]
 unfold Mm at h
 exact pg trivial (.z 4 (.j 1 (λ(j2:Bool)=>⟨[.p 6,.k 17,.s (ba j2),.p 36],[]⟩) (.b (.t []) (.t [])) (.b .o (.z 1 (.j 1 (λ(j6:Int)=>⟨[.p 8,.s (aa j6),.p 14],[]⟩) (.b (.t []) (.b (.t []) (.t []))) (.b .o (.z 2 (.j 1 (λ(j10:Bool)=>⟨[.k 11,.p 25,.k 22,.s (ba j10),.p 1],[]⟩) (.b (.t []) (.t [])) .o))))))))⟩
instance zI166{t0 r}:Con (qk t0=some r) (Den Tryz.prog 287 [aa t0] (.tup [aa r.1,aa r.2.1,aa r.2.2])):=⟨λh=>by
 refine dk 44 k287 ?_
 simp only[k287,Kf.of,zs,ze]
 unfold qk at h
 exact pg (And.intro @Zk.eq_1 @bl.eq_1) (.b .o (.l 1 1 (λ(s3:Int)=>⟨[.p 2,.k 3,.s (aa s3),.p 3],[]⟩) (λ(b7:Int)=>⟨[.p 2,.k 3,.s (aa b7),.p 3],[]⟩) [] (.b (.t []) (.t [])) (.l 2 0 (λ(q:(Int × Int))=>⟨[.k 5,.p 1,.s (aa q.1),.p 15,.k 4,.s (aa q.2),.p 18],[]⟩) (λ(_:Unit)=>⟨[],[]⟩) [] (.b (.b .o (.t [])) (.t [])) .o)))⟩
instance zI167{t0 t1 t2 r}:Con (Vw t0 t1 t2=some r) (Den Tryz.prog 294 [aa t0,aa t1,aa t2] (.tup [aa r.1,aa r.2])):=⟨λh=>by
 refine dk 30 k294 ?_
 simp only[k294,Kf.of,zs,ze]
 unfold Vw at h
 exact pg trivial (.b .o (.z 1 (.j 1 (λ(j6:Bool)=>⟨[.p 6,.k 12,.s (ba j6),.p 14],[]⟩) (.b (.t []) (.t [])) .o)))⟩
instance zI168{t0 t1 t2 r}:Con (Mn t0 t1 t2=some r) (Den Tryz.prog 295 [aa t0,aa t1,aa t2] (.tup [aa r.1,aa r.2])):=⟨λh=>by
 refine dk 35 k295 ?_
 simp only[k295,Kf.of,zs,ze]
 unfold Mn at h
 exact pg trivial (.b .o (.b .o (.z 1 (.j 1 (λ(j6:Bool)=>⟨[.p 6,.k 14,.s (ba j6),.p 17],[]⟩) (.b (.t []) (.t [])) .o))))⟩
instance zI169{t0 t1 r}:Con (fg t0 t1=some r) (Den Tryz.prog 18 [aa t0,Da t1] (aa r)):=⟨λh=>by
 refine dk 24 k18 ?_
 simp only[k18,Kf.of,zs,ze]
 unfold fg at h
 exact pg trivial .o⟩
instance zI170{t0 r}:Con (Rq t0=some r) (Den Tryz.prog 71 [aa t0] (.tup [za r.1,aa r.2])):=⟨λh=>by
 refine dk 29 k71 ?_
 simp only[k71,Kf.of,zs,ze]
 unfold Rq at h
 exact pg trivial .o⟩
instance zI171{t0 t1 t2 r}:Con (Hn t0 t1 t2=some r) (Den Tryz.prog 150 [xb t0,aa t1,Nh t2] (.tup [aa r.1,aa r.2])):=⟨λh=>by
 refine dk 52 k150 ?_
 simp only[k150,Kf.of,zs,ze]
 unfold Hn at h
 exact pg @Jj.eq_1 (.b .o (.b .o (.b .o (.b .o (.l 1 0 (λ(s8:Int)=>⟨[.k 5,.p 1,.k 28,.p 2,.s (aa s8),.p 18],[.o 1]⟩) (λ(_:Unit)=>⟨[],[]⟩) [ok 1] (.b (.b .o (.b .o (.t [ok 0]))) (.t [])) .o)))))⟩
instance zI172{t0 c10 r}:Con (Ja t0 (λx900=>Gc x900 c10)=some r) (Den Tryz.prog 211 [Cb t0,.fn 210 [] [Rp c10]] (ba r)):=⟨λh=>Mk (q1:=[Rp c10]) (DC FA) (λx900 _ hb=>Pq hb) h⟩
theorem Rz{t0 t1 t2 t3 r} (h:vh t0 t1 t2 t3=some r):Den Tryz.prog 187 [xb t0,db t1,Cb t2,Cb t3] (aa r):=by
 refine dk 28 k187 ?_
 simp only[k187,Kf.of,zs,ze]
 unfold vh at h
 exact pg trivial (.b .o (.j 1 (λ(j6:Bool)=>⟨[.k 4,.p 4,.k 8,.s (ba j6),.p 15],[.o 0,.o 1]⟩) (.b (.t [ok 0,ok 1]) (.t [ok 0,ok 1])) .o))
instance zI173{t0 t1 t2 t3 r}:Con (vh t0 t1 t2 t3=some r) (Den Tryz.prog 187 [xb t0,db t1,Cb t2,Cb t3] (aa r)):=⟨Rz⟩
instance zI174{t0 t1 t2 r}:Con (Oi t0 t1 t2=some r) (Den Tryz.prog 238 [ua t0,ua t1,Du t2] (ua r)):=⟨λh=>by
 refine dk 45 k238 ?_
 simp only[k238,Kf.of,zs,ze]
 unfold Oi at h
 exact pg @kg.eq_1 (.l 2 1 (λ(q:((List Int) × Int))=>⟨[.k 2,.p 4,.k 1,.p 1,.s (aa q.2)],[.o 1,.c 0 ((q.1.map aa))]⟩) (λ(b18:(List Int))=>⟨[.k 7,.p 1],[.o 1,.c 0 ((b18.map aa))]⟩) [ok 1,ok 0] (.b (.j 1 (λ(j15:(List Int))=>⟨[.k 2,.p 16],[.o 0,.c 1 ((j15.map aa))]⟩) (.z 1 (.j 1 (λ(j11:Bool)=>⟨[.k 2,.p 16,.k 22,.s (ba j11),.p 7],[.o 0,.o 1]⟩) (.b (.t [ok 0,ok 1]) (.t [ok 0,ok 1])) (.b (.t [ok 0,ok 1]) (.t [ok 0,ok 1])))) (.t [ok 0,ok 1])) (.t [ok 0,ok 1])) .o)⟩
instance zI175{t0 c10 c11 r}:Con (Wb t0 (λx900=>nf x900 c10 c11)=some r) (Den Tryz.prog 175 [Cu t0,.fn 283 [] [Ph c10,Ph c11]] (.tup [aa r.1,ba r.2])):=⟨λh=>xp (q1:=[Ph c10,Ph c11]) (DC (DC FA)) (λx900 _ hb=>Vs hb) h⟩
theorem TC{t0 t1 t2 r} (h:xn t0 t1 t2=some r):Den Tryz.prog 272 [Qb t0,aa t1,aa t2] (.tup [aa r.1,ba r.2]):=by
 refine dk 11 k272 ?_
 simp only[k272,Kf.of,zs,ze]
 unfold xn at h
 exact pg trivial .o
instance zI176{t0 t1 t2 r}:Con (xn t0 t1 t2=some r) (Den Tryz.prog 272 [Qb t0,aa t1,aa t2] (.tup [aa r.1,ba r.2])):=⟨TC⟩
instance zI177{t0 t1 t2 t3 r}:Con (Km t0 t1 t2 t3=some r) (Den Tryz.prog 273 [Qb t0,aa t1,aa t2,aa t3] (.tup [aa r.1,aa r.2])):=⟨λh=>by
 refine dk 86 k273 ?_
 simp only[k273,Kf.of,zs,ze]
 unfold Km at h
 exact pg @Ti.eq_1 (.z 2 (.j 1 (λ(j2:Bool)=>⟨[.k 1,.p 7,.k 16,.s (ba j2),.p 65],[.o 0]⟩) (.b (.t [ok 0]) (.t [ok 0])) (.b .o (.z 1 (.j 1 (λ(j5:Bool)=>⟨[.k 1,.p 23,.k 10,.s (ba j5),.p 55],[.o 0]⟩) (.b (.t [ok 0]) (.t [ok 0])) (.b .o (.z 1 (.j 1 (λ(j8:Bool)=>⟨[.k 1,.p 33,.k 6,.s (ba j8),.p 49],[.o 0]⟩) (.b (.t [ok 0]) (.t [ok 0])) (.b .o (.l 3 2 (λ(q:(Int × Int × Int))=>⟨[.k 1,.p 3,.k 6,.s (aa q.1),.s (aa q.2.1),.p 28,.k 2,.p 2,.s (aa q.2.2),.p 45],[]⟩) (λ(q:(Int × Int))=>⟨[.k 3,.p 1,.k 6,.s (aa q.1),.s (aa q.2),.p 28],[]⟩) [] (.b (.e 2 (λ(q:(Int × Int))=>⟨[.k 1,.p 9,.s (aa q.1),.s (aa q.2),.p 33],[]⟩) (.z 3 (.j 1 (λ(j17:Bool)=>⟨[.k 1,.p 44,.k 19,.s (ba j17),.p 25],[.o 0]⟩) (.b (.t [ok 0]) (.t [ok 0])) (.b (.t []) (.b .o (.t []))))) (.t [])) (.t [])) .o))))))))))⟩
instance zI178{t0 t1 r}:Con (bo t0 t1=some r) (Den Tryz.prog 274 [aa t0,ra t1] (ra r)):=⟨λh=>by
 refine dk 34 k274 ?_
 simp only[k274,Kf.of,zs,ze]
 unfold bo at h
 exact pg trivial .o⟩
instance zI179{t0 t1 t2 r}:Con (ag t0 t1 t2=some r) (Den Tryz.prog 288 [Sb t0,ra t1,ra t2] (.tup [ra r.1,aa r.2])):=⟨λh=>by
 refine dk 102 k288 ?_
 simp only[k288,Kf.of,zs,ze]
 unfold ag at h
 exact pg trivial (.z 2 (.j 3 (λ(q:(Int × Int × Int))=>⟨[.k 6,.p 1,.k 1,.p 1,.s (aa q.2.2)],[.o 3,.h 4 [.g [.s (aa q.1),.p 1,.s (aa q.2.1)]]]⟩) (.b (.t [ok 3,ok 4]) (.j 1 (λ(j4:Bool)=>⟨[.k 3,.p 4,.k 1,.p 1,.k 29,.s (ba j4),.p 66],[.o 0,.o 1,.o 2,.o 3,.o 4]⟩) (.b (.t [ok 0,ok 1,ok 2,ok 3,ok 4]) (.t [ok 0,ok 1,ok 2,ok 3,ok 4])) (.b (.t [ok 3,ok 4]) (.b (.t [ok 3,ok 4]) (.b (.t [ok 3,ok 4]) (.b (.t [ok 3,ok 4]) (.t [ok 3,ok 4]))))))) .o))⟩
instance zI180{t0 t1 r}:Con (Xf t0 t1=some r) (Den Tryz.prog 289 [aa t0,aa t1] (.tup [aa r.1,aa r.2])):=⟨λh=>by
 refine dk 55 k289 ?_
 simp only[k289,Kf.of,zs,ze]
 unfold Xf at h
 exact pg trivial (.z 2 (.j 1 (λ(j4:Bool)=>⟨[.p 4,.k 16,.s (ba j4),.p 36],[]⟩) (.b (.b (.t []) (.t [])) (.t [])) (.b .o (.z 3 (.j 1 (λ(j8:Bool)=>⟨[.k 8,.p 12,.k 20,.s (ba j8),.p 16],[]⟩) (.b (.t []) (.t [])) .o)))))⟩
instance zI181{t0 r}:Con (Zo t0=some r) (Den Tryz.prog 106 [xb t0] (Xj r)):=⟨λh=>by
 refine dk 34 k106 ?_
 simp only[k106,Kf.of,zs,ze]
 unfold Zo at h
 exact pg @Di.eq_1 (.b .o (.l 1 0 (λ(s2:Int)=>⟨[.k 1,.p 6,.k 6,.p 2,.s (aa s2),.p 19],[.o 0,.o 1]⟩) (λ(_:Unit)=>⟨[.k 2,.p 5],[.o 1]⟩) [ok 0,ok 1] (.b (.b .o (.t [ok 0,ok 1])) (.t [ok 1])) .o))⟩
instance zI182{t0 t1 t2 t3 t4 r}:Con (vq t0 t1 t2 t3 t4=some r) (Den Tryz.prog 112 [Aa t0,aa t1,Da t2,aa t3,ua t4] (Ca r)):=⟨λh=>by
 refine dk 32 k112 ?_
 simp only[k112,Kf.of,zs,ze]
 unfold vq at h
 have q1:∀ (m:List Ent) (o:Option Bool),Yz false (.v (.bool false)) m (o.map ba)=some (.v (.bool (o.getD false)),m):=λ_ o=>by cases o <;> rfl
 have q2:∀ (k:Int) (x:Bool) l,Xq (.int .i64 k) (.v (.bool x)) (em ba l)=em ba (CG k x l):=λ_ _ _=>SI (e:=ba)
 have q3:=λl=>AI (e:=ba) (l:=l)
 exact pg (And.intro @iq.eq_1 (And.intro @Hf.eq_1 (And.intro @Qj.eq_1 @wZ.eq_1))) (.l 2 1 (λ(q:((List (Int × Bool)) × Int))=>⟨[.p 2,.k 1,.p 1,.k 3,.p 3,.k 1,.p 5,.k 1,.p 2,.s (aa q.2),.p 17],[.o 0,.m 1 (em ba q.1)]⟩) (λ(b7:(List (Int × Bool)))=>⟨[.p 2,.k 1,.p 1,.k 3,.p 3,.k 1,.p 5],[.o 0,.m 1 (em ba b7)]⟩) [ok 0,ok 1] (.b (.t [ok 0,ok 1]) (.t [ok 0,ok 1])) (.i wZ 2 61 (λ(q:((List GPosting) × Int))=>⟨[.s (.tup [.own 2 0, aa q.2])],[.O 0,.O 1,.n 4 ((q.1.map ta))]⟩) (.l 3 2 (λ(q:(Int × (List GPosting) × (List GMonthBalance)))=>⟨[.k 1,.s (aa q.1),.p 8,.k 2,.s (.own 2 0),.s (Aa q.2.2),.p 3],[.O 0,.O 1,.n 4 ((q.2.1.map ta))]⟩) (λ(q:(Int × (List GPosting)))=>⟨[.k 1,.s (aa q.1),.k 10,.s (.own 2 0)],[.O 0,.O 1,.n 4 ((q.2.map ta))]⟩) [ok 0,ok 1,on 4] (.z 1 (.j 1 (λ(j13:Bool)=>⟨[.k 1,.p 28,.s (ba j13),.p 36],[.O 0,.O 1,.o 2]⟩) (.b (.t [ok 0,ok 1,ok 2]) (.t [ok 0,ok 1,ok 2])) (.b (.j 2 (λ(q:(Int × (List GPosting)))=>⟨[.k 1,.s (aa q.1),.p 27],[.O 0,.O 1,.c 2 ((q.2.map ta))]⟩) (.z 3 (.j 1 (λ(j18:Bool)=>⟨[.k 1,.p 28,.k 19,.s (ba j18),.p 17],[.O 0,.O 1,.o 2,.o 3]⟩) (.b (.t [ok 0,ok 1,ok 2,ok 3]) (.t [ok 0,ok 1,ok 2,ok 3])) (.b (.t [ok 0,ok 1,ok 2]) (.t [ok 0,ok 1,ov 2 1])))) (.t [ok 0,ok 1,ok 2])) (.t [ok 0,ok 1,ok 2])))) (.t [ok 0,ok 1,ok 2])) .o))⟩
instance zI183{t0 t1 t2 r}:Con (Wk t0 t1 t2=some r) (Den Tryz.prog 225 [ua t0,ua t1,Du t2] (aa r)):=⟨λh=>by
 refine dk 23 k225 ?_
 simp only[k225,Kf.of,zs,ze]
 unfold Wk at h
 exact pg trivial (.z 2 (.j 1 (λ(j3:Bool)=>⟨[.p 6,.k 11,.s (ba j3),.p 8],[]⟩) (.b (.t []) (.t [])) .o))⟩
instance zI184{t0 t1 r}:Con (ui t0 t1=some r) (Den Tryz.prog 290 [aa t0,aa t1] (aa r)):=⟨λh=>by
 refine dk 58 k290 ?_
 simp only[k290,Kf.of,zs,ze]
 unfold ui at h
 exact pg trivial (.z 2 (.j 1 (λ(j5:Bool)=>⟨[.p 4,.k 22,.s (ba j5),.p 33],[]⟩) (.b (.b (.t []) (.t [])) (.t [])) (.b .o (.z 3 (.j 1 (λ(j13:Int)=>⟨[.k 11,.s (aa j13),.p 14],[]⟩) (.z 1 (.j 1 (λ(j11:Bool)=>⟨[.k 11,.p 1,.k 43,.s (ba j11),.p 4],[]⟩) (.b (.t []) (.t [])) (.b (.t []) (.t [])))) .o)))))⟩
end Go.Proofs.Dev
