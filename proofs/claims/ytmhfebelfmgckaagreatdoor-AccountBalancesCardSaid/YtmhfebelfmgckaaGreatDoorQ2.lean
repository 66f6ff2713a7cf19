/-
  Contracts of the functions: each answers as its plain partial function says.
-/
import Derived.Test.YtmhfebelfmgckaaGreatDoorG
import Derived.Test.YtmhfebelfmgckaaGreatDoorH1
import Derived.Test.YtmhfebelfmgckaaGreatDoorH2
import Derived.Test.YtmhfebelfmgckaaGreatDoorL1
open Option renaming some->M,none->s5
open And renaming intro->ak
open Go.Proofs.Tryz renaming prog->al
open Option.some renaming inj->J'
set_option linter.all false
set_option maxHeartbeats 1000000
set_option maxRecDepth 10000
namespace Go.Proofs.Dev
open Go Go.Tm
variable {t1:mu->Option Bool}{k1:Nat}{q1:List D}
instance ace:C2 k13 ep:=pg (ak k13.eq_1 ep.eq_1) (.z 1 (.j (EN [32,2,121] []) .o .o))
instance acf:C2 ch3 Cw:=pg (ak (ak ch3.eq_1 Cw.eq_1) Gq.eq_1) (.l (EN [33,8,2,10,233] []) (EN [40,2] []) [] (.z 2 (.j (EN [41,2,9] []) (.j (EN [57,160,2,65] []) .o .o) .o)) .o)
theorem Qt{t0 r : List oe} (h : Sa t0 = M r) : e? al 116 [bp t0] (bp r) := by
  unfold Sa at h
  split at h
  · rename_i hl
    obtain rfl := J' h
    refine dk 7 an5 ?_
    simp only[an5,Kf.of,zs,ze]
    refine T.Vo ?_
    refine T.rg ?_
    simp only[zx, ze]
    refine T.Vo ?_
    refine T.Vo ?_
    refine T.xv (i := 0) (S := 7) (l := t0.map ef) rfl (Fr.l _) o0 p5 p5 p5 ?_
    intro b hb
    have happ : app 56 ([] : List oe) t0 = M t0 := by unfold app; rw[J a09]; simp
    cases b with
    | true =>
      have hz : t0 = [] := by
        cases t0 with
        | nil => rfl
        | cons x l => exact absurd (hb o0) o0
      subst hz
      simp only[zx, ze]
      refine T.cd rfl ?_
      refine gP.mk (λ_ => ?_) (λh => absurd rfl h)
      refine T.Vo ?_
      refine T.rg ?_
      simp only[zx, ze]
      exact T.ret <| iv aaF
    | false =>
      simp only[zx, ze]
      refine T.cd rfl ?_
      refine gP.mk (λh => by cases h) (λ_ => ?_)
      refine T.skip ?_
      simp only[zx, ze]
      refine T.Vo ?_
      refine T.rg ?_
      obtain⟨f1, f2⟩ := MD (e := ef) happ
      try simp only[zx, ze] at f1 f2
      simp only[zx, ze, f1, f2]
      exact T.ret <| iv aaF
  · cases h
theorem bu{t0 r} (h:Db t0=M r):qG al 116 [bp t0] 7 (r.map ef):= by
  unfold Db Sa at h
  split at h
  · rename_i hl
    obtain rfl := J' h
    refine qG.at 7 an5.ok an5.nm U!.h (Fr.l _) rfl ?_
    simp only[an5,Kf.of,zs,ze]
    refine T.Vo ?_
    refine T.rg ?_
    simp only[zx, ze]
    refine T.Vo ?_
    refine T.Vo ?_
    refine T.xv (i := 0) (S := 7) (l := t0.map ef) rfl (Fr.l _) o0 p5 p5 p5 ?_
    intro b hb
    have happ : app 56 ([] : List oe) t0 = M t0 := by unfold app; rw[J a09]; simp
    cases b with
    | true =>
      have hz : t0 = [] := by
        cases t0 with
        | nil => rfl
        | cons x l => exact absurd (hb o0) o0
      subst hz
      simp only[zx, ze]
      refine T.cd rfl ?_
      refine gP.mk (λ_ => ?_) (λh => absurd rfl h)
      refine T.Vo ?_
      refine T.rg ?_
      simp only[zx, ze]
      exact T.ret <| Tz (by simp only[zx, ze, Wz, sh, th, pf]; exact f'.q [(s5, 7, 0)] rfl p5 (by simp only[zq, ze]))
    | false =>
      simp only[zx, ze]
      refine T.cd rfl ?_
      refine gP.mk (λh => by cases h) (λ_ => ?_)
      refine T.skip ?_
      simp only[zx, ze]
      refine T.Vo ?_
      refine T.rg ?_
      obtain⟨f1, f2⟩ := MD (e := ef) happ
      try simp only[zx, ze] at f1 f2
      simp only[zx, ze, f1, f2]
      exact T.ret <| Tz aaH
  · cases h
instance acg{t0 r}:Q! (Db t0=M r) (qG al 116 [bp t0] 7 (r.map ef)):=⟨bu⟩
instance ach{t0 r}:o! (Sa t0=M r) (e? al 116 [bp t0] (bp r)):=⟨Qt⟩
instance wU:C1 cg1 Pe:=pg (ak cg1.eq_1 Pe.eq_1) .o
instance aci:C1 cf8 lu:=pg (ak cf8.eq_1 lu.eq_1) (.b .o (.j (EN [8,9,56,2,41] [0]) .o .o))
instance K4:C1 ce3 pj:=pg (ak ce3.eq_1 pj.eq_1) (.z 1 (.j (EN [16,2,49] []) .o .o))
instance acj:C2 ce2 wg:=pg (ak ce2.eq_1 wg.eq_1) (.z 1 (.j (EN [32,2,73] []) .o .o))
instance ack{t0 r}:o! (Cf t0=M r) (e? al 160 [da t0] (Ml r)):=⟨λh=>by
 refine dk 9 ce1 ?_
 simp only[ce1,Kf.of,zs,ze]
 unfold Cf at h
 exact pg trivial .o⟩
instance acm{t0 t1 t2 t3 t4 r}:o! (Vf t0 t1 t2 t3 t4=M r) (e? al 161 [Ml t0,Ml t1,Ml t2,za t3,da t4] (Ml r)):=⟨λh=>by
 refine dk 50 ce0 ?_
 simp only[ce0,Kf.of,zs,ze]
 unfold Vf at h
 exact pg trivial (.z 4 (.j (EN [9,80,2] []) .o (.j ⟨[.w 0,.p 10],[]⟩ .o .o)))⟩
instance acn{t0 t1 r}:o! (Dt t0 t1=M r) (e? al 162 [Ml t0,za t1] (da r)):=⟨λh=>by
 refine dk 9 cd9 ?_
 simp only[cd9,Kf.of,zs,ze]
 unfold Dt at h
 exact pg trivial .o⟩
instance aco:C2 cb0 Gt:=pg (ak (ak cb0.eq_1 Gt.eq_1) (ak oq.eq_1 pq.eq_1)) (.l (EN [33,8,3,10,353] [260]) (EN [33,8,3] [260]) [5] (.z 2 (.j (EN [65] [2]) (.b (.t [256]) .o) .o)) (.l (EN [57,10,153] [2]) (EN [40,17] [2]) [256] (.z 2 (.j (EN [249] [2]) (.b (.t [256]) .o) .o)) .o))
instance acp:C2 ca9 Oz:=pg (ak ca9.eq_1 Oz.eq_1) (.z 1 (.j (EN [32,2,81] []) .o .o))
instance acq:C1 ca2 qy:=pg (ak ca2.eq_1 qy.eq_1) (.z 1 (.j (EN [16,2,105] []) .o .o))
instance acr:C1 bY8 A?:=pg (ak bY8.eq_1 A?.eq_1) .o
instance acs:C1 bX3 Et:=pg (ak bX3.eq_1 Et.eq_1) (.z 1 (.j (EN [16,2,105] []) .o .o))
theorem iA{t0 t1 r} (h:Rg t0 t1=M r):e? al 312 [xj t0,Tx t1] (za r):=by
 refine dk 6 bT2 ?_
 simp only[bT2,Kf.of,zs,ze]
 unfold Rg at h
 exact pg trivial .o
instance acu{t0 t1 r}:o! (Rg t0 t1=M r) (e? al 312 [xj t0,Tx t1] (za r)):=⟨iA⟩
instance iJ:C2 bR7 Ec:=pg (ak bR7.eq_1 Ec.eq_1) (.z 3 (.j (EN [32,2] []) .o .o))
def sA{t0 t1 r} (h:Ec t0 t1=M r):e? al 329 [Zg t0,qx t1] (za r):=iJ.h h
instance acv:C2 bR1 Jp:=pg (ak (ak bR1.eq_1 Jp.eq_1) rq.eq_1) (.l (EN [33,8,3,10,18,321] [260]) (EN [8,25,8,3,10] [260]) [5] (.z 3 (.j (EN [49,10,9] [2]) (.j (EN [65,120,2,193] [0]) .o (.j (EN [49,8,129] [2]) (.b (.t [256]) .o) .o)) (.t [256]))) (.j (EN [40,9] [2]) (.b (.t [256]) .o) .o))
instance FM:C2 bQ3 ql:=pg (ak (ak bQ3.eq_1 ql.eq_1) af.eq_1) (.l (EN [33,24,9,2,81] []) (EN [] []) [] .o .o)
instance T8:C1 bP9 Ak:=pg (ak (ak bP9.eq_1 Ak.eq_1) ym.eq_1) (.l (EN [24,3,33,10,81] [516]) (EN [24,3,17] [516]) [9] (.b (.t [256]) .o) .o)
instance S9:C0 bO4 Ei:=pg (ak bO4.eq_1 Ei.eq_1) .o
instance E5:C1 bO0 Aq:=pg (ak (ak bO0.eq_1 Aq.eq_1) Tk.eq_1) (.l (EN [17,8,2,201] []) (EN [17] []) [] (.z 3 (.j (EN [33,168,2,25] []) .o .o)) .o)
theorem ur{t0}(hc1:oa q1=true)(hp1:∀ x0 r,t1 x0=M r->e? al k1 ([rf x0]++q1) (za r)){r} (h:xc t0 t1=M r):e? al 391 [sx t0,.fn k1 [] q1] (da r):=by
 haveI I1:∀ x0 r,o! (t1 x0=M r) (e? al k1 ([rf x0]++q1) (za r)):=λx0 r=>⟨hp1 x0 r⟩
 have s1:∀ f:D->D->Prop,eE f q1 q1=True:=λ_=>Jj hc1
 have z1:∀ a b n,XB a b n q1=q1:=λ_ _ _=>Dg _ _ _ _ hc1
 refine e?.at 17 bi9.ok bi9.nm (jM (D8 hc1 PJ)) rfl ?_
 simp only[bi9,Kf.of,zs,ze]
 unfold xc at h
 exact pg Qd.eq_1 (.l (EN [33,24,9,2,81] []) (EN [] []) [] .o .o)
instance acw:C1 bM0 pn:=pg (ak bM0.eq_1 pn.eq_1) (.z 3 (.j (EN [24,9,2,337] []) .o (.b .o (.j (EN [24,9,120,2,217] []) .o (.b .o (.j (EN [24,129,56,2,161] []) .o .o))))))
instance acx:C2 bL7 uy:=pg (ak bL7.eq_1 uy.eq_1) (.b (.j (EN [32,2] []) .o .o) (.b (.j (EN [32,2] []) .o .o) (.b (.j (EN [32,2] []) .o .o) (.b .o (.j (EN [16,17,488,2,121] [0,8]) .o (.b (.j (EN [32,2,481] []) .o .o) .o))))))
instance r8:C1 bL3 Vb:=pg (ak bL3.eq_1 Vb.eq_1) (.z 2 (.j (EN [8,9,64,2,577] [0]) .o (.b .o (.b (.j (EN [16,2,57] []) .o .o) (.b (.j (EN [16,2,57] []) .o .o) (.b (.j (EN [16,2,57] []) .o .o) (.b (.j (EN [16,2,57] []) .o .o) (.b (.j (EN [16,2,57] []) .o .o) (.b (.j (EN [16,2,57] []) .o .o) .o)))))))))
instance acy:C1 bK5 kp:=pg (ak bK5.eq_1 kp.eq_1) (.z 2 (.j (EN [17,112,2,129] []) .o (.z 2 (.j (EN [129,8,9,2,113] []) .o (.z 2 (.j (EN [256,2] []) .o .o))))))
instance acz:C2 bK2 Oy:=pg (ak bK2.eq_1 Oy.eq_1) (.b (.j (EN [32,2] []) .o .o) (.b (.j (EN [32,2] []) .o .o) (.b (.j (EN [32,2] []) .o .o) (.b .o (.j (EN [16,17,488,2,121] [0,8]) .o (.b (.j (EN [32,2,481] []) .o .o) .o))))))
instance ada:C1 bJ5 Nr:=pg (ak bJ5.eq_1 Nr.eq_1) (.z 3 (.j (EN [32,2,137] []) .o .o))
instance adb:C1 bH9 zu:=pg (ak bH9.eq_1 zu.eq_1) (.z 2 (.j (EN [17,112,2,145] []) .o (.b .o (.j (EN [16,2,105] []) .o .o))))
instance ade:C2 bH8 xu:=pg (ak bH8.eq_1 xu.eq_1) (.b .o (.b (.j (EN [32,2] []) .o .o) (.b (.j (EN [32,2] []) .o .o) .o)))
instance adf:C1 bH4 Lp:=pg (ak bH4.eq_1 Lp.eq_1) (.z 1 (.j (EN [16,2,81] []) .o .o))
instance adg:C1 bH3 Fi:=pg (ak bH3.eq_1 Fi.eq_1) (.z 2 (.j (EN [16,9,8,2,25] [0]) .o .o))
instance adh:C1 bE3 gp:=pg (ak bE3.eq_1 gp.eq_1) (.z 1 (.j (EN [16,2,49] []) .o .o))
instance QW:C2 bE1 Mk:=pg (ak bE1.eq_1 Mk.eq_1) (.z 2 (.j ⟨[.p 4,.k 3,.w 0,.p 4],[]⟩ .o (.z 2 (.j (EN [57,8,105,104,2,217] []) .o .o))))
instance bU:C1 bC7 Nb:=pg (ak bC7.eq_1 Nb.eq_1) .o
def WB{t0 r} (h:Nb t0=M r):e? al 495 [da t0] (Zg r):=bU.h h
instance fP:C1 bC5 Am:=pg (ak bC5.eq_1 Am.eq_1) (.z 1 (.j (EN [16,2,81] []) .o .o))
def wM{t0 r} (h:Am t0=M r):e? al 497 [da t0] (za r):=fP.h h
instance adi:C2 bC2 xg:=pg (ak bC2.eq_1 xg.eq_1) (.z 1 (.j (EN [32,2,73] []) .o .o))
instance adj:C2 bC1 zv:=pg (ak bC1.eq_1 zv.eq_1) .o
instance adk:C4 bC0 Oq:=pg (ak bC0.eq_1 Oq.eq_1) (.b .o (.j (EN [65,8,2] []) .o (.j (EN [9,64,2,449] []) (.j (EN [289,2,233] []) .o .o) .o)))
instance E9:C1 bB9 so:=pg (ak bB9.eq_1 so.eq_1) (.z 1 (.j (EN [16,2,49] []) .o .o))
instance adl:C2 bB8 zm:=pg (ak bB8.eq_1 zm.eq_1) (.z 1 (.j (EN [32,2,73] []) .o .o))
instance adm{t0 t1 t2 t3 t4 r}:o! (ru t0 t1 t2 t3 t4=M r) (e? al 507 [Ml t0,Ml t1,Ml t2,za t3,da t4] (za r)):=⟨λh=>by
 refine dk 44 bB7 ?_
 simp only[bB7,Kf.of,zs,ze]
 unfold ru at h
 exact pg trivial (.b .o (.b .o (.b .o (.b .o (.b .o (.b (.j (EN [80,2] []) .o .o) .o))))))⟩
instance l9:C3 k84 vg:=pg (ak k84.eq_1 vg.eq_1) (.z 6 (.j (EN [49,128,2,177] []) .o .o))
instance adn:C2 ch2 Cu:=pg (ak (ak ch2.eq_1 Cu.eq_1) Nt.eq_1) (.l (EN [33,16,2] []) (EN [] []) [] (.z 3 (.j (EN [81,136,2,41] []) .o .o)) .o)
instance ado{t0 r}:o! (jq t0=M r) (e? al 111 [Ga t0] (.tup [da r.1,da r.2])):=⟨λh=>by
 refine dk 82 ch0 ?_
 simp only[ch0,Kf.of,zs,ze]
 unfold jq at h
 have q1:∀ (m:List Ent) (o:Option Int),VI false (.v (.int .i64 0)) m (o.map da)=M (.v (.int .i64 (o.getD 0)),m):=λ_ o=>by cases o <;> rfl
 have q2:∀ (k:Int) (x:Int) l,Iy (.int .i64 k) (.v (.int .i64 x)) (em da l)=em da (NQ k x l):=λ_ _ _=>XT (e:=da)
 have q3:=λl=>BT (e:=da) (l:=l)
 exact pg Ek.eq_1 (.l (EN [17,16,25,32,17,10,553] [5]) (EN [] []) [] (.z 5 (.j (EN [113,32,2,513] [0,8]) (.j (EN [113,32,2,513] [0,8]) .o (.j (EN [145,2,513] [0,8]) .o .o)) (.b .o (.j (EN [145,208,2,305] [0,8]) .o (.b .o (.j (EN [353,80,2,225] [0,8]) .o .o)))))) .o)⟩
instance N9:C3 cg3 oA:=pg (ak (ak cg3.eq_1 oA.eq_1) (ak tB.eq_1 (ak uB.eq_1 aK3.eq_1))) (.b .o (.i aK3 61 ⟨[.u [.s (.own 0 0),.i 1]],[.ni 4 0]⟩ (.l (EN [8,2,65,16,3,18,25] [1036]) (EN [8,2,80,3] [1036]) [17] (.z 1 (.j (EN [8,225,2,289] [0]) .o (.j (EN [8,2,217] [10]) (.z 3 (.j (EN [8,225,152,2,137] [0,8]) .o (.b .o (.t [256])))) .o))) .o) .o))
instance LY:C2 cf6 xe:=pg (ak cf6.eq_1 xe.eq_1) (.z 2 (.j (EN [33,48,2,81] []) .o (.z 1 (.j (EN [8,73,48,2,33] []) .o .o))))
instance adp:C2 cd8 B!:=pg (ak cd8.eq_1 B!.eq_1) (.z 1 (.j (EN [32,2,97] []) .o .o))
instance dY:C2 cb3 Kc:=pg (ak cb3.eq_1 Kc.eq_1) (.b .o (.j (EN [40,9,32,2,97] []) .o (.b .o (.j (EN [120,2,57] []) .o .o))))
instance LZ:C1 bY0 Wf:=pg (ak bY0.eq_1 Wf.eq_1) .o
instance adq:C2 bV5 Fp:=pg (ak bV5.eq_1 Fp.eq_1) .o
instance NZ:C1 bU6 Yf:=pg (ak (ak bU6.eq_1 Yf.eq_1) Ej.eq_1) (.l (EN [17,24,2,10,18,26,369] []) (EN [40,2,10,18] []) [] (.z 2 (.j (EN [41,2,10,18,17] []) (.z 1 (.j (EN [41,2,33] []) .o (.j (EN [49,2,385] []) .o (.j (EN [73,280,2,81] []) .o .o)))) .o)) .o)
instance QJ:C2 bT9 Ze:=pg (ak bT9.eq_1 Ze.eq_1) .o
instance AU:C2 bS9 Kg:=pg (ak bS9.eq_1 Kg.eq_1) (.z 3 (.j ⟨[.k 4,.p 1,.k 1,.p 1],[.o 1,.h 3 [.g [.p 4,.i 0,.i 1]]]⟩ (.j (EN [16,41,208,2,89] [0,8,16,24]) .o (.t [4,12])) .o))
instance adr:C4 bQ6 Yv:=pg (ak bQ6.eq_1 Yv.eq_1) (.z 6 (.j (EN [65,176,2,329] []) .o .o))
theorem Sp{t0}(hc1:oa q1=true)(hp1:∀ x0 r,t1 x0=M r->e? al k1 ([rf x0]++q1) (za r)){r} (h:Ra t0 t1=M r):e? al 352 [sx t0,.fn k1 [] q1] (za r):=by
 haveI I1:∀ x0 r,o! (t1 x0=M r) (e? al k1 ([rf x0]++q1) (za r)):=λx0 r=>⟨hp1 x0 r⟩
 have s1:∀ f:D->D->Prop,eE f q1 q1=True:=λ_=>Jj hc1
 have z1:∀ a b n,XB a b n q1=q1:=λ_ _ _=>Dg _ _ _ _ hc1
 haveI:∀ y0 r,o! (xc y0 t1=M r) (e? al 391 [sx y0,.fn k1 [] q1] (da r)):=λy0 r=>⟨ur hc1 hp1⟩
 refine e?.at 7 bj4.ok bj4.nm (jM (D8 hc1 PJ)) rfl ?_
 simp only[bj4,Kf.of,zs,ze]
 unfold Ra at h
 exact pg trivial .o
instance v8:C1 bP0 Zn:=pg (ak (ak bP0.eq_1 Zn.eq_1) im.eq_1) (.l (EN [17,24,9,11,25,72,17,18,433] [2,268]) (EN [17,24,9,11,25] [2,268]) [0,5] (.z 10 (.j (EN [65,8,105] [2,8]) .o (.a [[],[],[],[],[],[],[],[],[5],[5],[]] (.b .o (.t [0,516]))))) .o)
instance iQ:C2 bO9 Qf:=pg (ak (ak bO9.eq_1 Qf.eq_1) pk.eq_1) (.l (EN [16,17,8,9,10,18] [0,258]) (EN [40,9] [258]) [] (.b .o (.t [4])) .o)
instance r5:C1 bN3 qj:=pg (ak (ak bN3.eq_1 qj.eq_1) Kk.eq_1) (.l (EN [17,24,3,11,18,17] [260,268]) (EN [17,24,3,11] [260,268]) [5,5] (.z 9 (.j (EN [65,8,10,49] [0,258]) (.b (.t [0,260]) .o) (.b .o (.t [256,260])))) .o)
instance X2:C1 bL8 dq:=pg (ak bL8.eq_1 dq.eq_1) (.z 2 (.j (EN [8,9,120,2,241] [0]) .o (.z 2 (.j (EN [8,129,16,9,2,217] [0]) .o (.b (.j (EN [16,2,129] []) .o .o) (.b (.j (EN [16,2,129] []) .o .o) .o))))))
instance YX:C1 bL6 qg:=pg (ak (ak bL6.eq_1 qg.eq_1) Mc.eq_1) (.l (EN [40,17,2,57] []) (EN [] []) [] .o .o)
instance ads:C2 bK3 nw:=pg (ak bK3.eq_1 nw.eq_1) (.z 2 (.j (EN [16,17,128,2,241] [0]) .o (.z 2 (.j (EN [16,145,16,9,2,217] [0]) .o (.b (.j (EN [32,2,137] []) .o .o) (.b (.j (EN [32,2,137] []) .o .o) .o))))))
instance adt:C2 bJ2 tt:=pg (ak bJ2.eq_1 tt.eq_1) (.z 1 (.j (EN [32,2,129] []) .o .o))
instance wX:C2 bF6 Al:=pg (ak bF6.eq_1 Al.eq_1) (.z 2 (.j ⟨[.p 4,.k 3,.w 0,.p 4],[]⟩ .o .o))
theorem xM{t0:fr}{t1:ej}{t2:pr}{r:(ej×Bool)}(h:Kp t0 t1 t2=M r):e? al 473 [Xi t0,Zg t1,jt t2] (.tup [Zg r.1,za r.2]):=by
 refine dk 79 bE5 ?_;simp only[bE5,Kf.of,zs,ze];unfold Kp at h;refine ss (rg ?_);(try simp only[zz]);refine ss (ss (rg ?_));(try simp only[zz]);refine bk (ss (rg ?_));(try simp only[zz]);refine cd rfl ?_;(try simp only[zz]);refine gi h (λc1 h=>?_) λc1 h=>?_
 .have e1:=eT c1;refine ss (dy Hz ?_);obtain⟨x2,a3,h⟩:=bs h;simp only[zz,zy];refine lq (wM a3) ?_ (by simp only[zg,e1]);(try simp only[zz,zy]);cases h;exact rt ez
 have e2:=eF c1;refine ss (rg ?_);(try simp only[zz]);refine cd rfl ?_;(try simp only[zz]);refine gi h (λc3 h=>?_) λc3 h=>?_
 .have e4:=eT c3;refine ss (ay Hz [[],[],[],[],[2]] Θ ?_);(try simp only[zz,zy]);cases h;exact rt ez
 have e5:=eF c3;refine jm h (λj5=>⟨ds 3 (.ref 0 0 0 0::.ref 1 0 0 0::.ref 2 0 0 0::.ref 3 0 0 0::ds 4 (da t0.Op::ds 12 (za j5::ds 57 []))),[.live 2 0 [Xi t0],.live 2 0 [Zg t1],.live 6 0 [jt t2],.live 2 0 [.agg [da 0,da 0]]]⟩) (λz7 h6=>?_) λj5 h6 h=>?_
 .refine ss (rg ?_);(try simp only[zz]);refine cd rfl ?_;(try simp only[zz]);refine gi h6 (λc4 h6=>?_) λc4 h6=>?_
  .have e8:=eT c4;refine sk ?_;(try simp only[zz,eq_true c4,e8]);cases h6;exact tz [ok 0,ok 1,ok 2,ok 3]
  have e9:=eF c4;refine rg ?_;(try simp only[zz]);cases h6;exact tz [ok 0,ok 1,ok 2,ok 3]
 refine cd rfl ?_;(try simp only[zz]);refine gi h (λc6 h=>?_) λc6 h=>?_
 .refine ss (ay Hz [[],[],[],[],[2]] Θ ?_);obtain⟨x7,a10,h⟩:=bs h;simp only[zz,zy];refine lq (WB a10) ?_ (by simp only[zg,e2,e5,c6]);(try simp only[zz,zy]);cases h;exact rt ez
 refine ss (rg ?_);(try simp only[zz]);refine cd rfl ?_;(try simp only[zz]);refine gi h (λc8 h=>?_) λc8 h=>?_
 .have e11:=eT c8;refine ss (rg ?_);obtain⟨x9,f14,f15,h⟩:=bI h;(try simp only[zz,f14,f15]);refine jm h (λj14=>⟨ds 6 (.ref 0 0 0 0::za j14::ds 74 []),[.live 2 0 [.agg [da x9.Value.a,da x9.Value.g]]]⟩) (λz17 h16=>?_) λj14 h16 h=>?_
  .refine ay Hz [[],[],[],[],[],[],[],[],[],[],[],[],[],[],[],[],[],[],[],[],[15,17]] Θ ?_;obtain⟨x10,a18,h16⟩:=bs h16;simp only[zz,zy];refine lq (sA a18) ?_ (by simp only[zg,e2,e5,c6,e11]);(try simp only[zz,zy]);refine gi h16 (λc11 h16=>?_) λc11 h16=>?_
   .obtain⟨x12,a19,h16⟩:=bs h16;simp only[zz,c11,zy];refine lq (sA a19) ?_ (by simp only[zg,e2,e5,c6,e11,c11]);(try simp only[zz,c11,zy]);refine gi h16 (λc13 h16=>?_) λc13 h16=>?_
    ·(try simp only[zz,c11,c13,zy]);cases h16;exact tz [ok 3]
    (try simp only[zz,c11,c13,zy]);cases h16;exact tz [ok 3]
   (try simp only[zz,c11,zy]);cases h16;exact tz [ok 3]
  cases h;exact rt ez
 have e12:=eF c8;refine sk ?_;(try simp only[zz,c8,e12]);refine ss (rg ?_);obtain⟨x15,f21,f22,h⟩:=bI h;(try simp only[zz,f21,f22,Int.reduceEq,Int.reduceNeg]);refine jm h (λj20=>⟨ds 6 (.ref 0 0 0 0::za j20::ds 74 []),[.live 2 0 [Zg t1]]⟩) (λz24 h23=>?_) λj20 h23 h=>?_
 .refine ay Hz [[],[],[],[],[],[],[],[],[],[],[],[],[],[],[],[],[12]] Θ ?_;(try simp only[zz,zy]);refine gi h23 (λc16 h23=>?_) λc16 h23=>?_
  .have e25:=eT c16;obtain⟨x17,a27,h23⟩:=bs h23;simp only[zz,eq_true c16,e25,zy];refine lq (WB a27) ?_ (by simp only[zg,e2,e5,c6,e12,e25]);(try simp only[zz,eq_true c16,e25,zy]);refine gi h23 (λc18 h23=>?_) λc18 h23=>?_
   .obtain⟨x19,a28,h23⟩:=bs h23;simp only[zz,eq_true c16,e25,eq_true c18,zy];refine lq (WB a28) ?_ (by simp only[zg,e2,e5,c6,e12,e25]);(try simp only[zz,eq_true c16,e25,eq_true c18,zy]);cases h23;exact tz [ok 3]
   (try simp only[zz,eq_true c16,e25,c18,zy]);cases h23;exact tz [ok 3]
  have e26:=eF c16;(try simp only[zz,c16,e26,zy]);cases h23;exact tz [ok 3]
 cases h;exact rt ez
instance adu{t0 t1 t2 r}:o! (Kp t0 t1 t2=M r) (e? al 473 [Xi t0,Zg t1,jt t2] (.tup [Zg r.1,za r.2])):=⟨xM⟩
instance adv:C3 bD8 RC:=pg (ak bD8.eq_1 RC.eq_1) (.z 2 (.j (EN [49,80,2,161] []) .o (.z 1 (.j (EN [129,48,2,113] []) .o .o))))
instance Z4:C3 bD7 mq:=pg (ak bD7.eq_1 mq.eq_1) (.z 2 (.j (EN [49,96,2,417] []) .o (.z 3 (.j (EN [145,64,2,353] []) .o (.b .o (.j (EN [2,10,193] []) .o .o))))))
instance adw:C2 bD1 Vv:=pg (ak bD1.eq_1 Vv.eq_1) (.z 3 (.j (EN [33,24,9,152,2,81] []) .o .o))
instance D9:C3 bC8 Wr:=pg (ak bC8.eq_1 Wr.eq_1) (.z 6 (.j (EN [49,152,2,377] []) .o (.z 9 (.j (EN [64,9,40,2,81] []) .o (.b .o (.j (EN [112,2,417] []) .o .o))))))
instance adx:C1 bC6 vn:=pg (ak bC6.eq_1 vn.eq_1) (.z 1 (.j (EN [16,2,49] []) .o .o))
instance ady:C3 bC4 Lz:=pg (ak bC4.eq_1 Lz.eq_1) (.b (.j ⟨[.k 6,.p 1,.i 2],[.h 0 [.g [.i 0,.i 1]]]⟩ .o .o) (.b (.j ⟨[.k 6,.p 1,.i 2],[.h 0 [.g [.i 0,.i 1]]]⟩ .o .o) (.z 1 (.j (EN [8,49,280,2,105] [0]) .o (.b .o (.j ⟨[.k 6,.p 1,.i 2,.p 34],[.h 0 [.g [.i 0,.i 1]]]⟩ .o .o))))))
end Go.Proofs.Dev
