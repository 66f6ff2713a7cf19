/-
  Contracts of the functions: each answers as its plain partial function says.
-/
import Derived.Test.YtkmalfincghanaaGreatDoorK
import Derived.Test.YtkmalfincghanaaGreatDoorG
import Derived.Test.YtkmalfincghanaaGreatDoorPD
import Derived.Test.YtkmalfincghanaaGreatDoorH1
import Derived.Test.YtkmalfincghanaaGreatDoorH2
set_option linter.all false
set_option maxHeartbeats 1000000
set_option maxRecDepth 10000
namespace Go.Proofs.Dev
open Go Go.Tm
instance {t0 r}:Con (uf t0=some r) (Den Tryz.prog 77 [aa t0] (ba r)):=⟨fun h=>by
 refine dk 8 k77 ?_
 simp only[k77,Kf.of,zs,ze]
 unfold uf at h
 exact pg trivial (.z 1 (.j 1 (fun(j2:Bool)=>⟨[.k 2,.s (ba j2),.p 6],[]⟩) (.b (.t []) (.t [])) .o))⟩
instance {t0 t1 r}:Con (Jd t0 t1=some r) (Den Tryz.prog 78 [aa t0,aa t1] (ba r)):=⟨fun h=>by
 refine dk 12 k78 ?_
 simp only[k78,Kf.of,zs,ze]
 unfold Jd at h
 exact pg trivial (.z 1 (.j 1 (fun(j2:Bool)=>⟨[.k 4,.s (ba j2),.p 9],[]⟩) (.b (.t []) (.t [])) .o))⟩
instance {t0 r}:Con (Vc t0=some r) (Den Tryz.prog 79 [aa t0] (Gg r)):=⟨fun h=>by
 refine dk 9 k79 ?_
 simp only[k79,Kf.of,zs,ze]
 unfold Vc at h
 exact pg trivial .o⟩
instance {t0 t1 t2 t3 t4 r}:Con (pd t0 t1 t2 t3 t4=some r) (Den Tryz.prog 80 [Gg t0,Gg t1,Gg t2,ba t3,aa t4] (Gg r)):=⟨fun h=>by
 refine dk 50 k80 ?_
 simp only[k80,Kf.of,zs,ze]
 unfold pd at h
 exact pg trivial (.b .o (.z 1 (.j 1 (fun(j9:Bool)=>⟨[.p 1,.k 10,.s (ba j9)],[]⟩) (.b (.t []) (.b (.t []) (.b (.t []) (.b (.t []) (.b (.b (.b (.t []) (.t [])) (.t [])) (.t [])))))) (.j 1 (fun(j11:Int)=>⟨[.s (.v (.int .u64 j11)),.p 10],[]⟩) (.b (.t []) (.t [])) .o))))⟩
instance {t0 t1 r}:Con (Ek t0 t1=some r) (Den Tryz.prog 81 [Gg t0,ba t1] (aa r)):=⟨fun h=>by
 refine dk 9 k81 ?_
 simp only[k81,Kf.of,zs,ze]
 unfold Ek at h
 exact pg trivial .o⟩
instance {t0 r}:Con (ni t0=some r) (Den Tryz.prog 83 [aa t0] (ba r)):=⟨fun h=>by
 refine dk 5 k83 ?_
 simp only[k83,Kf.of,zs,ze]
 unfold ni at h
 exact pg trivial .o⟩
theorem vm{t0}{t1:GRow→Option Bool}{k1:Nat}{q1:List D}(hc1:fa q1=true)(hp1:∀ x0 r,t1 x0=some r→Den Tryz.prog k1 ([di x0]++q1) (ba r)){r} (h:qb t0 t1=some r):Den Tryz.prog 190 [sq t0,.fn k1 [] q1] (.tup [aa r.1,ba r.2]):=by
 haveI I1:∀ x0 r,Con (t1 x0=some r) (Den Tryz.prog k1 ([di x0]++q1) (ba r)):=fun x0 r=>⟨hp1 x0 r⟩
 have s1:∀ f:D→D→Prop,Es f q1 q1=True:=fun _=>Df hc1
 have z1:∀ a b n,aq a b n q1=q1:=fun _ _ _=>we _ _ _ _ hc1
 refine Den.at 18 uZ.ok uZ.nm (Vz (fL hc1 Rx)) rfl ?_
 simp only[uZ,Kf.of,zs,ze]
 unfold qb at h
 exact pg @ab.eq_1 (.l 1 0 (fun(s1:Int)=>⟨[.k 1,.p 3,.k 4,.p 2,.s (aa s1),.p 9],[]⟩) (fun(_:Unit)=>⟨[],[]⟩) [] (.b (.b .o (.t [])) (.t [])) .o)
theorem Fp{t0 t1 r} (h:Ue t0 t1=some r):Den Tryz.prog 197 [Dg t0,nn t1] (ba r):=by
 refine dk 6 F5 ?_
 simp only[F5,Kf.of,zs,ze]
 unfold Ue at h
 exact pg trivial .o
instance {t0 t1 r}:Con (Ue t0 t1=some r) (Den Tryz.prog 197 [Dg t0,nn t1] (ba r)):=⟨Fp⟩
instance {t0 t1 r}:Con (ug t0 t1=some r) (Den Tryz.prog 227 [Wv t0,Eh t1] (aa r)):=⟨fun h=>by
 refine dk 17 N0 ?_
 simp only[N0,Kf.of,zs,ze]
 unfold ug at h
 exact pg @Nc.eq_1 (.l 1 0 (fun(s1:Int)=>⟨[.p 4,.k 3,.p 1,.s (aa s1),.p 10],[]⟩) (fun(_:Unit)=>⟨[],[]⟩) [] (.b (.b .o (.t [])) (.t [])) .o)⟩
theorem zk{t0}{t1:GEnum→Option Bool}{k1:Nat}{q1:List D}(hc1:fa q1=true)(hp1:∀ x0 r,t1 x0=some r→Den Tryz.prog k1 ([Dg x0]++q1) (ba r)){r} (h:Db t0 t1=some r):Den Tryz.prog 230 [Uf t0,.fn k1 [] q1] (aa r):=by
 haveI I1:∀ x0 r,Con (t1 x0=some r) (Den Tryz.prog k1 ([Dg x0]++q1) (ba r)):=fun x0 r=>⟨hp1 x0 r⟩
 have s1:∀ f:D→D→Prop,Es f q1 q1=True:=fun _=>Df hc1
 have z1:∀ a b n,aq a b n q1=q1:=fun _ _ _=>we _ _ _ _ hc1
 refine Den.at 17 EY.ok EY.nm (Vz (fL hc1 Rx)) rfl ?_
 simp only[EY,Kf.of,zs,ze]
 unfold Db at h
 exact pg @Bc.eq_1 (.l 1 0 (fun(s1:Int)=>⟨[.p 4,.k 3,.p 1,.s (aa s1),.p 10],[]⟩) (fun(_:Unit)=>⟨[],[]⟩) [] (.b (.b .o (.t [])) (.t [])) .o)
theorem Ej{t0}{t1:GTable→Option Bool}{k1:Nat}{q1:List D}(hc1:fa q1=true)(hp1:∀ x0 r,t1 x0=some r→Den Tryz.prog k1 ([yb x0]++q1) (ba r)){r} (h:lb t0 t1=some r):Den Tryz.prog 231 [Bi t0,.fn k1 [] q1] (aa r):=by
 haveI I1:∀ x0 r,Con (t1 x0=some r) (Den Tryz.prog k1 ([yb x0]++q1) (ba r)):=fun x0 r=>⟨hp1 x0 r⟩
 have s1:∀ f:D→D→Prop,Es f q1 q1=True:=fun _=>Df hc1
 have z1:∀ a b n,aq a b n q1=q1:=fun _ _ _=>we _ _ _ _ hc1
 refine Den.at 17 tX.ok tX.nm (Vz (fL hc1 Rx)) rfl ?_
 simp only[tX,Kf.of,zs,ze]
 unfold lb at h
 exact pg @cc.eq_1 (.l 1 0 (fun(s1:Int)=>⟨[.p 4,.k 3,.p 1,.s (aa s1),.p 10],[]⟩) (fun(_:Unit)=>⟨[],[]⟩) [] (.b (.b .o (.t [])) (.t [])) .o)
theorem vn{t0 t1 r} (h:Vb t0 t1=some r):Den Tryz.prog 233 [Ua t0,an t1] (ba r):=by
 refine dk 7 O4 ?_
 simp only[O4,Kf.of,zs,ze]
 unfold Vb at h
 exact pg trivial .o
instance {t0 t1 r}:Con (Vb t0 t1=some r) (Den Tryz.prog 233 [Ua t0,an t1] (ba r)):=⟨vn⟩
instance {t0 r}:Con (tg t0=some r) (Den Tryz.prog 235 [Va t0] (Rl r)):=⟨fun h=>by
 refine dk 18 G4 ?_
 simp only[G4,Kf.of,zs,ze]
 unfold tg at h
 exact pg @Rg.eq_1 (.l 2 1 (fun(q:((List GType) × Int))=>⟨[.k 3,.s (.own 0 0),.p 4,.s (aa q.2),.p 10],[.n 2 ((q.1.map Oa))]⟩) (fun(b8:(List GType))=>⟨[.k 3,.s (.own 0 0),.p 2],[.n 2 ((b8.map Oa))]⟩) [on 2] (.b (.t [ov 0 1]) (.t [ok 0])) .o)⟩

instance {t0 r}:Con (sb t0=some r) (Den Tryz.prog 281 [pa t0] (ba r)):=⟨fun h=>by
 refine dk 82 B6 ?_
 simp only[B6,Kf.of,zs,ze]
 unfold sb at h
 exact pg trivial (.z 2 (.j 1 (fun(j2:Bool)=>⟨[.k 1,.p 1,.k 8,.s (ba j2),.p 72],[.o 0]⟩) (.b (.t [ok 0]) (.t [ok 0])) (.b .o (.b (.j 1 (fun(j6:Bool)=>⟨[.k 2,.s (ba j6),.p 7],[]⟩) (.b (.t []) (.t [])) .o) (.b (.j 1 (fun(j9:Bool)=>⟨[.k 2,.s (ba j9),.p 7],[]⟩) (.b (.t []) (.t [])) .o) (.b (.j 1 (fun(j12:Bool)=>⟨[.k 2,.s (ba j12),.p 7],[]⟩) (.b (.t []) (.t [])) .o) (.b (.j 1 (fun(j15:Bool)=>⟨[.k 2,.s (ba j15),.p 7],[]⟩) (.b (.t []) (.t [])) .o) (.b (.j 1 (fun(j18:Bool)=>⟨[.k 2,.s (ba j18),.p 7],[]⟩) (.b (.t []) (.t [])) .o) (.b (.j 1 (fun(j23:Bool)=>⟨[.k 2,.s (ba j23),.p 7],[]⟩) (.b (.b (.b (.t []) (.t [])) (.t [])) (.t [])) .o) .o)))))))))⟩
instance {t0 t1 r}:Con (kn t0 t1=some r) (Den Tryz.prog 330 [aa t0,Fa t1] (.tup [Oa r.1,aa r.2])):=⟨fun h=>by
 refine dk 32 HZ ?_
 simp only[HZ,Kf.of,zs,ze]
 unfold kn at h
 exact pg trivial (.b .o (.z 2 (.j 1 (fun(j4:Bool)=>⟨[.k 4,.p 1,.k 1,.p 1,.k 23,.s (ba j4),.p 3],[.o 1]⟩) (.b (.t [ok 1]) (.t [ok 1])) .o)))⟩


instance {t0 r}:Con (ai t0=some r) (Den Tryz.prog 389 [aa t0] (ba r)):=⟨fun h=>by
 refine dk 8 O5 ?_
 simp only[O5,Kf.of,zs,ze]
 unfold ai at h
 exact pg trivial (.z 1 (.j 1 (fun(j2:Bool)=>⟨[.k 2,.s (ba j2),.p 6],[]⟩) (.b (.t []) (.t [])) .o))⟩
instance {t0 t1 r}:Con (nh t0 t1=some r) (Den Tryz.prog 390 [aa t0,aa t1] (ba r)):=⟨fun h=>by
 refine dk 12 J1 ?_
 simp only[J1,Kf.of,zs,ze]
 unfold nh at h
 exact pg trivial (.z 1 (.j 1 (fun(j2:Bool)=>⟨[.k 4,.s (ba j2),.p 9],[]⟩) (.b (.t []) (.t [])) .o))⟩
instance {t0 t1 t2 t3 t4 r}:Con (Uk t0 t1 t2 t3 t4=some r) (Den Tryz.prog 391 [Gg t0,Gg t1,Gg t2,ba t3,aa t4] (ba r)):=⟨fun h=>by
 refine dk 44 X5 ?_
 simp only[X5,Kf.of,zs,ze]
 unfold Uk at h
 exact pg trivial (.b .o (.b .o (.b .o (.b .o (.b .o (.b (.j 1 (fun(j9:Bool)=>⟨[.k 10,.s (ba j9)],[]⟩) (.b (.b (.t []) (.t [])) (.t [])) .o) .o))))))⟩
instance {t0 t1 t2 r}:Con (Pd t0 t1 t2=some r) (Den Tryz.prog 44 [aa t0,aa t1,aa t2] (.tup [aa r.1,aa r.2])):=⟨fun h=>by
 refine dk 42 k44 ?_
 simp only[k44,Kf.of,zs,ze]
 unfold Pd at h
 exact pg trivial (.b .o (.b .o (.z 1 (.j 1 (fun(j7:Bool)=>⟨[.p 6,.k 16,.s (ba j7),.p 22],[]⟩) (.b (.t []) (.t [])) .o))))⟩
instance {t0 t1 r}:Con (Qc t0 t1=some r) (Den Tryz.prog 189 [Wv t0,Eh t1] (ba r)):=⟨fun h=>by
 refine dk 7 R3 ?_
 simp only[R3,Kf.of,zs,ze]
 unfold Qc at h
 exact pg trivial .o⟩
theorem rj{t0}{t1:GEnum→Option Bool}{k1:Nat}{q1:List D}(hc1:fa q1=true)(hp1:∀ x0 r,t1 x0=some r→Den Tryz.prog k1 ([Dg x0]++q1) (ba r)){r} (h:Ma t0 t1=some r):Den Tryz.prog 196 [Uf t0,.fn k1 [] q1] (ba r):=by
 haveI I1:∀ x0 r,Con (t1 x0=some r) (Den Tryz.prog k1 ([Dg x0]++q1) (ba r)):=fun x0 r=>⟨hp1 x0 r⟩
 have s1:∀ f:D→D→Prop,Es f q1 q1=True:=fun _=>Df hc1
 have z1:∀ a b n,aq a b n q1=q1:=fun _ _ _=>we _ _ _ _ hc1
 haveI:∀ y0 r,Con (Db y0 t1=some r) (Den Tryz.prog 230 [Uf y0,.fn k1 [] q1] (aa r)):=fun y0 r=>⟨zk hc1 hp1⟩
 refine Den.at 7 aW.ok aW.nm (Vz (fL hc1 Rx)) rfl ?_
 simp only[aW,Kf.of,zs,ze]
 unfold Ma at h
 exact pg trivial .o
theorem Di{t0}{t1:GTable→Option Bool}{k1:Nat}{q1:List D}(hc1:fa q1=true)(hp1:∀ x0 r,t1 x0=some r→Den Tryz.prog k1 ([yb x0]++q1) (ba r)){r} (h:Ja t0 t1=some r):Den Tryz.prog 198 [Bi t0,.fn k1 [] q1] (ba r):=by
 haveI I1:∀ x0 r,Con (t1 x0=some r) (Den Tryz.prog k1 ([yb x0]++q1) (ba r)):=fun x0 r=>⟨hp1 x0 r⟩
 have s1:∀ f:D→D→Prop,Es f q1 q1=True:=fun _=>Df hc1
 have z1:∀ a b n,aq a b n q1=q1:=fun _ _ _=>we _ _ _ _ hc1
 haveI:∀ y0 r,Con (lb y0 t1=some r) (Den Tryz.prog 231 [Bi y0,.fn k1 [] q1] (aa r)):=fun y0 r=>⟨Ej hc1 hp1⟩
 refine Den.at 7 xY.ok xY.nm (Vz (fL hc1 Rx)) rfl ?_
 simp only[xY,Kf.of,zs,ze]
 unfold Ja at h
 exact pg trivial .o
instance {t0 t1 r}:Con (Bf t0 t1=some r) (Den Tryz.prog 203 [Zb t0,aa t1] (Fa r)):=⟨fun h=>by
 refine dk 43 b6 ?_
 simp only[b6,Kf.of,zs,ze]
 unfold Bf at h
 exact pg trivial (.z 3 (.j 2 (fun(q:((List GType) × Bool))=>⟨[.k 4,.p 1,.k 1,.p 1],[.o 1,.h 3 [.g [.p 4,.s (Rl q.1),.s (ba q.2)]]]⟩) (.j 1 (fun(j5:Bool)=>⟨[.k 2,.p 5,.k 26,.s (ba j5),.p 11],[.o 0,.o 1,.o 2,.o 3]⟩) (.b (.t [ok 0,ok 1,ok 2,ok 3]) (.t [ok 0,ok 1,ok 2,ok 3])) (.b (.t [ok 1,ok 3]) (.t [ok 1,ok 3]))) .o))⟩
theorem cp{t0 r} (h:Kg t0=some r):Den Tryz.prog 238 [Eh t0] (ba r):=by
 refine dk 26 y5 ?_
 simp only[y5,Kf.of,zs,ze]
 unfold Kg at h
 exact pg @fg.eq_1 (.z 2 (.j 1 (fun(j3:Bool)=>⟨[.p 2,.k 8,.s (ba j3),.p 16],[]⟩) (.b (.t []) (.t [])) (.b .o (.l 1 0 (fun(s5:Int)=>⟨[.p 10,.k 2,.p 1,.s (aa s5),.p 13],[]⟩) (fun(_:Unit)=>⟨[],[]⟩) [] (.b (.z 2 (.j 1 (fun(j9:Bool)=>⟨[.p 3,.k 9,.p 2,.k 11,.s (ba j9),.p 1],[]⟩) (.b (.t []) (.t [])) (.b .o (.t [])))) (.t [])) .o))))
instance {t0 r}:Con (Kg t0=some r) (Den Tryz.prog 238 [Eh t0] (ba r)):=⟨cp⟩
instance {t0 r}:Con (Pg t0=some r) (Den Tryz.prog 278 [Wa t0] (ba r)):=⟨fun h=>by
 refine dk 14 W3 ?_
 simp only[W3,Kf.of,zs,ze]
 unfold Pg at h
 exact pg @Ve.eq_1 (.l 1 0 (fun(s1:Int)=>⟨[.k 5,.p 2,.s (aa s1),.p 7],[]⟩) (fun(_:Unit)=>⟨[],[]⟩) [] (.b (.b .o (.t [])) (.t [])) .o)⟩
instance {t0 t1 r}:Con (wk t0 t1=some r) (Den Tryz.prog 301 [pa t0,Oa t1] (ba r)):=⟨fun h=>by
 refine dk 19 Y5 ?_
 simp only[Y5,Kf.of,zs,ze]
 unfold wk at h
 exact pg trivial (.z 1 (.j 1 (fun(j4:Bool)=>⟨[.k 4,.s (ba j4),.p 16],[]⟩) (.b (.b (.t []) (.t [])) (.t [])) .o))⟩
instance {t0 t1 r}:Con (og t0 t1=some r) (Den Tryz.prog 338 [aa t0,aa t1] (.tup [aa r.1,aa r.2.1,ba r.2.2])):=⟨fun h=>by
 refine dk 45 B1 ?_
 simp only[B1,Kf.of,zs,ze]
 unfold og at h
 exact pg trivial (.z 2 (.j 1 (fun(j2:Int)=>⟨[.p 4,.k 3,.s (.v (.int .u64 j2)),.p 4],[]⟩) (.b (.t []) (.t [])) .o))⟩
instance {t0 t1 r}:Con (Zl t0 t1=some r) (Den Tryz.prog 371 [aa t0,aa t1] (.tup [aa r.1,aa r.2])):=⟨fun h=>by
 refine dk 36 SZ ?_
 simp only[SZ,Kf.of,zs,ze]
 unfold Zl at h
 exact pg trivial (.z 3 (.j 1 (fun(j3:Bool)=>⟨[.p 4,.k 3,.p 1,.k 19,.s (ba j3),.p 10],[]⟩) (.b (.t []) (.t [])) .o))⟩
instance {t0 t1 t2 r}:Con (Vj t0 t1 t2=some r) (Den Tryz.prog 375 [aa t0,aa t1,aa t2] (.tup [aa r.1,aa r.2])):=⟨fun h=>by
 refine dk 70 Q2 ?_
 simp only[Q2,Kf.of,zs,ze]
 unfold Vj at h
 exact pg trivial (.b .o (.b .o (.z 1 (.j 1 (fun(j7:Bool)=>⟨[.p 6,.k 19,.s (ba j7),.p 47],[]⟩) (.b (.t []) (.t [])) (.b .o (.b .o (.b .o (.z 1 (.j 1 (fun(j15:Int)=>⟨[.k 8,.p 1,.k 5,.s (aa j15),.p 10],[]⟩) (.b (.t []) (.t [])) (.b .o (.j 1 (fun(j18:Int)=>⟨[.k 14,.s (aa j18),.p 52],[]⟩) (.b (.t []) (.t [])) .o)))))))))))⟩
instance {t0 t1 t2 t3 r}:Con (Dm t0 t1 t2 t3=some r) (Den Tryz.prog 388 [aa t0,aa t1,aa t2,aa t3] (.tup [aa r.1,aa r.2])):=⟨fun h=>by
 refine dk 68 L1 ?_
 simp only[L1,Kf.of,zs,ze]
 unfold Dm at h
 exact pg trivial (.b .o (.b .o (.z 1 (.j 1 (fun(j9:Bool)=>⟨[.p 8,.k 22,.s (ba j9),.p 41],[]⟩) (.b (.b (.t []) (.t [])) (.t [])) .o))))⟩
end Go.Proofs.Dev
