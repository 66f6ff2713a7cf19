/-
  Contracts by hand: the conditions stand in each.
-/
import Derived.RangeFuncNested
import Derived.RangeFuncBound
import Derived.RangeFuncCalls
import Derived.RangeFuncLeaves
import Derived.Shelf.Abstract
import Derived.Shelf.RegionOpen
import Derived.WalkKit
import Derived.OwnWalkIn
import Derived.TacticsInMore
import Derived.LoopNIn
import Derived.LoopIn
import Derived.Test.YtjjfnbpfgfopbaaGreatDoorK
import Derived.Test.YtjjfnbpfgfopbaaGreatDoorPE
import Derived.Test.YtjjfnbpfgfopbaaGreatDoorC0
import Derived.Test.YtjjfnbpfgfopbaaGreatDoorC1
import Derived.Test.YtjjfnbpfgfopbaaGreatDoorC2
import Derived.Test.YtjjfnbpfgfopbaaGreatDoorC3
open Array renaming getElem?_eq_some_iff->bac,replicate_succ->Uab,replicate_zero->Vab
open Bool renaming false_ne_true->zae
open List renaming append_toArray->Yab,cons_append->Gaa,foldl_append->lac,foldl_cons->eab,foldl_map->sae,foldl_nil->uac,length_cons->qaa,length_nil->Aaa,mem_cons->lab,mem_cons_of_mem->rac,mem_cons_self->rad,nil_append->Qaa,nodup_cons->vab,push_toArray->gac,size_toArray->wab
open Nat renaming le_refl->Haa,le_trans->Qab,reduceAdd->Caa,reduceSub->dab
set_option linter.all false
namespace Go.Proofs
open Go.RowKit Go.Shelf
variable {n₀ B Bk:Nat}{A W':World}{kk:Int}{β:Type}
attribute [local go_sem] Oper.semAt_some
namespace Led
structure P4 where
 d:Int
 m:Int
 k:Int
 c:Int
variable {p:P4}
def P4.v(p:P4):Value:=.agg #[.int .i64 p.d,.int .i64 p.m,.int .i64 p.k,.int .i64 p.c]
def Iy(p:P4):Int:=if p.k=1 then p.c else if p.k=2 then wrap64 (-p.c)else if p.k=3 then wrap64 (-p.c)else 0
set_option maxRecDepth 100000 in
set_option maxHeartbeats 2000000 in
theorem OC(F:Fence) (n:Nat) (h5:F.fn 63) (hro:F.round=none) (a:Option Addr) (len cap:Nat) (k:Int) (w:World) :
 CallsIn F n Tryz.prog 63 #[.slice a len cap,.int .i64 k] w λe w'=>e=.returned (.func (.func 94) #[] #[.pointer (some ⟨w.heap.size,0,none⟩),.pointer (some ⟨w.heap.size+1,0,none⟩)])/\w'=(w.alloc (.cells #[.slice a len cap] 35)).alloc (.cells #[.int .i64 k] 3):=by
 refine callsIn_of_wp Tryz.func63 rfl h5 ?_ hro;simp only[Tryz.ntmps63,wab,qaa,Aaa,Caa,dab,Uab,Vab,gac,Yab,Qaa,Gaa]
 gi_wp2
 go_ret
 exact⟨rfl,rfl⟩
set_option maxRecDepth 100000 in
set_option maxHeartbeats 2000000 in
theorem xI(F:Fence) (n:Nat) (h5:F.fn 64) (hro:F.round=none) (p:P4) (w:World) :
 CallsIn F n Tryz.prog 64 #[p.v] w λe w'=>e=.returned (.int .i64 (Iy p))/\w'=w.alloc (.cells #[.int .i64 p.d,.int .i64 p.m,.int .i64 p.k,.int .i64 p.c] 64):=by
 refine callsIn_of_wp Tryz.func64 rfl h5 ?_ hro;simp only[Tryz.ntmps64,wab,qaa,Aaa,Caa,dab,Uab,Vab,gac,Yab,Qaa,Gaa,P4.v]
 gi_wp2
 all_goals (go_ret;refine⟨?_,rfl⟩)
 all_goals simp_all[Iy]
def OkL(n₀:Nat) (W:World) (a:Option Addr) (zs:List P4):Prop:=
 zs=[]\/∃b off,a=some ⟨b,off,none⟩/\b<n₀/\∀j (h:j<zs.length),W.cell? ⟨b,off+j*4,none⟩=some (.int .i64 zs[j].d)/\W.cell? ⟨b,off+j*4+1,none⟩=some (.int .i64 zs[j].m)/\W.cell? ⟨b,off+j*4+2,none⟩=some (.int .i64 zs[j].k)/\W.cell? ⟨b,off+j*4+3,none⟩=some (.int .i64 zs[j].c)
theorem OkL.below{B:World}(h:Below n₀ A B) {a:Option Addr}{zs:List P4}:OkL n₀ A a zs->OkL n₀ B a zs
 |.inl e=>.inl e
 |.inr ⟨b,off,e,hb,hc⟩=>.inr ⟨b,off,e,hb,λj hj=>⟨(h.cell (p:=⟨b,off+j*4,none⟩) hb).trans (hc j hj).1,(h.cell (p:=⟨b,off+j*4+1,none⟩) hb).trans (hc j hj).2.1,(h.cell (p:=⟨b,off+j*4+2,none⟩) hb).trans (hc j hj).2.2.1,(h.cell (p:=⟨b,off+j*4+3,none⟩) hb).trans (hc j hj).2.2.2⟩⟩
theorem z8{W:World}{a:Addr}{v:Value}(o:Obj) (h:W.cell? a=some v):(W.alloc o).cell? a=some v:=cell_kept h (World.grownBy_alloc W o none) (λr e=>by cases e)
def FJ(n₀ Bk:Nat) (kk:Int) (W W':World):Prop:=Below n₀ W W'/\(Boxed W Bk 3 (.int .i64 kk)->Boxed W' Bk 3 (.int .i64 kk))
theorem FJ.t{B C:World}(h:FJ n₀ Bk kk A B) (k:FJ n₀ Bk kk B C):FJ n₀ Bk kk A C:=⟨h.1.trans k.1,λx=>k.2 (h.2 x)⟩
theorem FJ.b{w:World}(hn:n₀<=w.heap.size) (W:World) (l:Nat) (o o':Obj) (hl:w.heap.size<=l) (ho:W.heap[l]?=some o) (hc:o.isCells=false) (hw:o.isWalk=false):FJ n₀ Bk kk W (W.putObj l o'):=
 ⟨belowK_b hn W l o o' hl ho hc hw,λh=>h.kept (grownBy_putObj' W l o') (λe=>by cases e;rw[show W.heap[Bk]?=_ from h]at ho;cases ho;cases hc)⟩
theorem FJ.refl{n₀ Bk:Nat}{kk:Int}(W:World):FJ n₀ Bk kk W W:=⟨Below.refl _ _,id⟩
def Wt(W:World) (B:Nat) (p:P4):Prop:=W.heap[B]?=some (.cells #[.int .i64 p.d,.int .i64 p.m,.int .i64 p.k,.int .i64 p.c] 64 (0,0))
theorem Wt.new(W:World) (p:P4):Wt (W.alloc (.cells #[.int .i64 p.d,.int .i64 p.m,.int .i64 p.k,.int .i64 p.c] 64)) W.heap.size p:=World.alloc_heap_new W _
theorem Wt.lt{W:World}(h:Wt W B p):B<W.heap.size:=(bac.1 h).1
theorem Wt.kept{W:World}{row:Option Nat}(h:Wt W B p) (hg:W.grownBy W' row) (hne:some B≠row):Wt W' B p:=(hg.block B h.lt hne).trans h
theorem Wt.c0{W:World}(h:Wt W B p):W.cell? ⟨B,0,none⟩=some (.int .i64 p.d):=by simp[World.cell?,show W.heap[B]?=_ from h]
theorem Wt.c1{W:World}(h:Wt W B p):W.cell? ⟨B,1,none⟩=some (.int .i64 p.m):=by simp[World.cell?,show W.heap[B]?=_ from h]
theorem Wt.c2{W:World}(h:Wt W B p):W.cell? ⟨B,2,none⟩=some (.int .i64 p.k):=by simp[World.cell?,show W.heap[B]?=_ from h]
theorem Wt.c3{W:World}(h:Wt W B p):W.cell? ⟨B,3,none⟩=some (.int .i64 p.c):=by simp[World.cell?,show W.heap[B]?=_ from h]
theorem kG(B:Nat) (p:P4):Own (λ(_:β) W=>Wt W B p):=λs X Y row hs hg hrow=>
 hs.kept hg (λe'=>by obtain⟨o,ho,hc⟩:=hrow B e'.symm;rw[show X.heap[B]?=_ from hs]at ho;cases ho;cases hc)
def lT(k:Int) (zs:List P4):List P4:=zs.filter λp=>p.k==k
set_option maxRecDepth 100000 in
set_option maxHeartbeats 4000000 in
theorem iQ(F:Fence) (n:Nat) (h7:F.fn 94) (hro:F.round=none) (hn:1<=n) (l Bs Bk n₀ b off len cap:Nat) (kk:Int) (zs:List P4) (W:World) (hl:zs.length=len) (hreach:len*32<=140737488351232) (hb:b<n₀) (hn₀:n₀<=W.heap.size) (J Jx:List P4->World->Prop)
 (hJ:∀s W1 (o:Obj),J s W1->J s (W1.alloc o))
 (hY:∀pre x W,J pre W->pre.length<len->YieldAt F (n-1) Tryz.prog l #[P4.v x] W λe W'=>
  (e=.returned (.bool true)/\J (pre++[x]) W'/\FJ n₀ Bk kk W W')\/(e=.returned (.bool false)/\Jx (pre++[x]) W'))
 (hBs:W.cell? ⟨Bs,0,none⟩=some (.slice (some ⟨b,off,none⟩) len cap)) (hBk:Boxed W Bk 3 (.int .i64 kk)) (hc:∀j (h:j<zs.length),W.cell? ⟨b,off+j*4,none⟩=some (.int .i64 zs[j].d)/\W.cell? ⟨b,off+j*4+1,none⟩=some (.int .i64 zs[j].m)/\W.cell? ⟨b,off+j*4+2,none⟩=some (.int .i64 zs[j].k)/\W.cell? ⟨b,off+j*4+3,none⟩=some (.int .i64 zs[j].c)) (h0:J [] W) :
 CallsIn F n Tryz.prog 94 #[.func (.yield l) #[] #[],.pointer (some ⟨Bs,0,none⟩),.pointer (some ⟨Bk,0,none⟩)] W λe W'=>(∃v,e=.returned v)/\
  ((∃ys,ys=lT kk zs/\J ys W')\/(∃pre,True/\Jx pre W')):=by
 refine callsIn_of_wp Tryz.func94 rfl h7 ?_ hro;simp only[Tryz.ntmps94,wab,qaa,Aaa,Caa,dab,Uab,Vab,gac,Yab,Qaa,Gaa]
 gi_wp2
 gi_loopw [8] (λi wr=>∃k:Nat,k<=len/\i=.int .i64 k/\J (lT kk (zs.take k)) wr/\Below n₀ W wr/\Boxed wr Bk 3 (.int .i64 kk))
  (λi _=>len-(intOf i).toNat)
 case atStart=>exact⟨0,Nat.zero_le _,rfl,h0,Below.refl _ _,hBk⟩
 case round=>
  obtain⟨k,hk,rfl,hJs,hnx,hbk⟩:=hrel;have hkc:wr.cell? ⟨Bk,0,none⟩=some (.int .i64 kk):=hbk.cell;by_cases hlt:k<len
  .obtain⟨c0,c1,c2,c3⟩:=hc k (by omega)
   replace c0:=(hnx.cell (p:=⟨b,off+k*4,none⟩) hb).trans c0
   replace c1:=(hnx.cell (p:=⟨b,off+k*4+1,none⟩) hb).trans c1
   replace c2:=(hnx.cell (p:=⟨b,off+k*4+2,none⟩) hb).trans c2
   replace c3:=(hnx.cell (p:=⟨b,off+k*4+3,none⟩) hb).trans c3
   have hk2:(wr.alloc (.cells #[.int .i64 zs[k].d,.int .i64 zs[k].m,.int .i64 zs[k].k,.int .i64 zs[k].c] 64)).cell? ⟨Bk,0,none⟩=some (.int .i64 kk):=z8 _ hkc;have hBl:Below n₀ wr (wr.alloc (.cells #[.int .i64 zs[k].d,.int .i64 zs[k].m,.int .i64 zs[k].k,.int .i64 zs[k].c] 64)):=(Below.refl n₀ wr).alloc (Qab hn₀ hnx.size) _;have hJ2:J (lT kk (zs.take k)) (wr.alloc (.cells #[.int .i64 zs[k].d,.int .i64 zs[k].m,.int .i64 zs[k].k,.int .i64 zs[k].c] 64)):=hJ _ _ _ hJs;have htk:lT kk (zs.take (k+1))=lT kk (zs.take k)++(if zs[k].k==kk then [zs[k]]else []):=by
    rw[List.take_add_one,List.getElem?_eq_getElem (by omega)];simp only[lT,List.filter_append,Option.toList_some,List.filter_cons,List.filter_nil]
   by_cases he:zs[k].k=kk
   .have he':(zs[k].k==kk)=true:=by simpa using he
    rw[if_pos he']at htk;obtain⟨fn,tmps,assign,body,hy,hR⟩:=hY _ zs[k] _ hJ2 (Nat.lt_of_le_of_lt (List.length_filter_le _ _) (by simp;omega));simp only[P4.v]at hy;clear he
    gi_wp2
    refine hR.mono ?_;rintro e W3 (⟨rfl,hJ3,hk3⟩|⟨rfl,hJx3⟩)
    .gi_wp2
     go_roundw
     case rel=>exact⟨k+1,by omega,by simp,by rw[htk];exact hJ3,(hnx.trans hBl).trans hk3.1,hk3.2 (hbk.alloc _)⟩
     case measure=>simp[intOf];omega
    .gi_wp2
     refine bodyPost_ret (results_none rfl _ _ _) rfl ?_;exact⟨⟨_,rfl⟩,.inr ⟨_,trivial,hJx3⟩⟩
   .have he':(zs[k].k==kk)=false:=by simpa using he
    rw[he',if_neg (by simp),List.append_nil]at htk
    gi_wp2
    refine⟨λ_ h=>(by cases h),?_⟩
    gi_wp2
    exact⟨⟨k+1,by omega,by simp,by rw[htk];exact hJ2,hnx.trans hBl,hbk.alloc _⟩,by simp[intOf];omega⟩
  .obtain rfl:k=len:=by omega
   gi_wp2
   go_end0
   exact⟨⟨_,rfl⟩,.inl ⟨_,rfl,by rw[←hl,List.take_length]at hJs;exact hJs⟩⟩
set_option maxRecDepth 100000 in
set_option maxHeartbeats 1000000 in
theorem EG(F:Fence) (n:Nat) (h7:F.fn 94) (hro:F.round=none) (l Bs Bk:Nat) (a:Option Addr) (cap:Nat) (J:List P4->World->Prop) (W:World) (hBs:W.cell? ⟨Bs,0,none⟩=some (.slice a 0 cap)) (h0:J [] W) :
 CallsIn F n Tryz.prog 94 #[.func (.yield l) #[] #[],.pointer (some ⟨Bs,0,none⟩),.pointer (some ⟨Bk,0,none⟩)] W λe W'=>(∃v,e=.returned v)/\J [] W':=by
 refine callsIn_of_wp Tryz.func94 rfl h7 ?_ hro;simp only[Tryz.ntmps94,wab,qaa,Aaa,Caa,dab,Uab,Vab,gac,Yab,Qaa,Gaa]
 gi_wp2
 gi_loopw [8] (λi wr=>i=.int .i64 0/\J [] wr) (λ_ _=>0)
 case atStart=>exact⟨rfl,h0⟩
 case round=>
  obtain⟨rfl,hJs⟩:=hrel
  gi_wp2
  go_end0
  exact⟨⟨_,rfl⟩,hJs⟩
theorem Mw(F:Fence) (n:Nat) (h7:F.fn 94) (hro:F.round=none) (hn:1<=n) (Bs Bk n₀:Nat) (a:Option Addr) (cap:Nat) (kk:Int) (zs:List P4) (hreach:zs.length*32<=140737488351232) (w:World) (hBs:Bs<w.heap.size) (hn₀:n₀<=w.heap.size)
 (hc:w.cell? ⟨Bs,0,none⟩=some (.slice a zs.length cap)) (hck:Boxed w Bk 3 (.int .i64 kk)) (hI:OkL n₀ w a zs) :
 SeqStopsK F n Tryz.prog 94 #[.pointer (some ⟨Bs,0,none⟩),.pointer (some ⟨Bk,0,none⟩)] (λx:P4=>#[P4.v x]) (FJ n₀ Bk kk) (λys=>ys=lT kk zs) (λ_=>True) zs.length w:=λl J Jx W hW hJ _ hY h0=>by
 have hc':=(hW.cell (p:=⟨Bs,0,none⟩) hBs).trans hc;have hck':Boxed W Bk 3 (.int .i64 kk):=(hW.block Bk hck.lt).trans hck;rcases hI.below (hW.mono hn₀)with rfl|⟨b,off,rfl,hb,hcs⟩
 .exact(EG F n h7 hro l Bs Bk a cap J W hc' h0).mono λe W' ⟨he,hj⟩=>⟨he,.inl ⟨_,rfl,hj⟩⟩
 .refine(iQ F n h7 hro hn l Bs Bk n₀ b off zs.length cap kk zs W rfl hreach hb (Qab hn₀ hW.size) J Jx (λs W1 o h=>hJ _ _ _ none h (World.grownBy_alloc _ _ none) (λr e=>by cases e)) hY hc' hck' hcs h0)
def zH(m:Int) (s:Int) (p:P4):Int:=if p.m==m then wrap64 (s+p.c)else s
set_option maxRecDepth 100000 in
set_option maxHeartbeats 4000000 in
theorem WT(F:Fence) (n:Nat) (h3:F.fn 42) (h4:F.fn 63) (h5:F.fn 94) (hro:F.round=none) (hn:6<=n) (a:Option Addr) (len cap:Nat) (m:Int) (zs:List P4) (hl:zs.length=len) (hreach:zs.length*32<=140737488351232) (w:World) (hI:OkL w.heap.size w a zs) :
 CallsIn F n Tryz.prog 42 #[.slice a len cap,.int .i64 m] w λe W'=>e=.returned (.int .i64 ((lT 4 zs).foldl (zH m) 0))/\Below w.heap.size w W':=by
 have h1:1<=n:=by omega
 subst hl;refine callsIn_of_wp_marks Tryz.func42 rfl h3 ?_ hro;simp only[Tryz.ntmps42,wab,qaa,Aaa,Caa,dab,Uab,Vab,gac,Yab,Qaa,Gaa]
 gi_wp2_with (gi_at_call 63;refine(OC F (n-1) h4 hro _ _ _ _ _).mono ?_;rintro e w' ⟨rfl,rfl⟩)
 have bM:=(((Boxed.new w 3 (.int .i64 m)).alloc (.cells #[.int .i64 0] 3)).alloc (.cells #[.slice a zs.length cap] 35)).alloc (.cells #[.int .i64 4] 3);have bS:=((Boxed.new (w.alloc (.cells #[.int .i64 m] 3)) 3 (.int .i64 0)).alloc (.cells #[.slice a zs.length cap] 35)).alloc (.cells #[.int .i64 4] 3);have bA:=(Boxed.new ((w.alloc (.cells #[.int .i64 m] 3)).alloc (.cells #[.int .i64 0] 3)) 35 (.slice a zs.length cap)).alloc (.cells #[.int .i64 4] 3);have bK:=Boxed.new (((w.alloc (.cells #[.int .i64 m] 3)).alloc (.cells #[.int .i64 0] 3)).alloc (.cells #[.slice a zs.length cap] 35)) 3 (.int .i64 4);simp only[World.size_alloc]at bS bA bK;have hB0:Below w.heap.size w ((((w.alloc (.cells #[.int .i64 m] 3)).alloc (.cells #[.int .i64 0] 3)).alloc (.cells #[.slice a zs.length cap] 35)).alloc (.cells #[.int .i64 4] 3)):=((((Below.refl _ w).alloc (Haa _) _).alloc (by simp) _).alloc (by simp;omega) _).alloc (by simp;omega) _;have hsz:((((w.alloc (.cells #[.int .i64 m] 3)).alloc (.cells #[.int .i64 0] 3)).alloc (.cells #[.slice a zs.length cap] 35)).alloc (.cells #[.int .i64 4] 3)).heap.size=w.heap.size+4:=by simp
 obtain⟨W0,hW0⟩:∃W0,(((w.alloc (.cells #[.int .i64 m] 3)).alloc (.cells #[.int .i64 0] 3)).alloc (.cells #[.slice a zs.length cap] 35)).alloc (.cells #[.int .i64 4] 3)=W0:=⟨_,rfl⟩;rw[hW0]at bM bS bA bK hB0 hsz⊢;clear hW0;refine wpIn_rangeFunc_ownH hro h1 (gf:=94) (lb:=#[.pointer (some ⟨w.heap.size+1+1,0,none⟩),.pointer (some ⟨w.heap.size+1+1+1,0,none⟩)]) rfl h5 (enters_of Tryz.func94 (by kernel_rfl) rfl)
  (Mw F (n-1) h5 hro (by omega) (w.heap.size+1+1) (w.heap.size+1+1+1) w.heap.size a cap 4 zs hreach W0 (by omega) (by omega) bA.cell bK (hI.below hB0)) FJ.t (FJ.b (by omega)) (Below.refl _ _) (λ_=>rfl)
  (λpre W=>(Boxed W (w.heap.size+1) 3 (.int .i64 (pre.foldl (zH m) 0))/\Boxed W w.heap.size 3 (.int .i64 m))/\Below w.heap.size w W)
  (λ_ _ _=>False)
  (OwnFrom.and (OwnFrom.and (Own.from (boxed_own _ _ _) _) (Own.from (boxed_own _ _ _) _)) (ownFrom_below (Haa _) (by omega)))
  (λ_ _ _ _ _ hs _ _=>hs)
  ⟨⟨bS,bM⟩,hB0⟩
  (λx a' W=>∃Bx,w.heap.size+1<Bx/\Wt W Bx x/\a'={ tmps:=#[.slice a zs.length cap,.int .i64 m,undef,.pointer (some ⟨w.heap.size,0,none⟩),.int .i64 0,.pointer (some ⟨w.heap.size+1,0,none⟩),.pointer (some ⟨Bx,0,none⟩),.slice a zs.length cap,.func (.func 94) #[] #[.pointer (some ⟨w.heap.size+1+1,0,none⟩),.pointer (some ⟨w.heap.size+1+1+1,0,none⟩)],P4.v x,undef,undef,undef,undef,undef,undef,undef,undef,undef],defers:=[] })
  (λx a' _ X Y row hs hg hr=>by obtain⟨Bx,h1,h2,h3⟩:=hs;exact⟨Bx,h1,kG Bx x () X Y row h2 hg (λr e=>(hr r e).2),h3⟩)
  ?assign ?body ?done ?stop
 case assign=>
  rintro l pre x W K ⟨⟨bS1,bM1⟩,hB1⟩ hK;simp only[P4.v]
  gi_wp2
  exact hK _ _ ((KeepsOthers.alloc _ _).from _) ⟨(Below.refl _ W).alloc hB1.size _,λh=>h.alloc _⟩ ⟨⟨bS1.alloc _,bM1.alloc _⟩,hB1.alloc hB1.size _⟩ ⟨W.heap.size,bS1.lt,Wt.new W x,rfl⟩
 case body=>
  rintro l pre x a' W hl ⟨r,hr⟩ ⟨⟨bS1,bM1⟩,hB1⟩ ⟨Bx,hBx,bX,rfl⟩ hlt;have cM:=bM1.cell;have cS:=bS1.cell;have fS:=bS1.frozen;have c1:=bX.c1;have c3:=bX.c3
  gi_wp2
  .have hx:(x.m==m)=true:=by assumption
   exact⟨(KeepsOthers.setCell _ _ _).from _,⟨(Below.refl _ W).setCell (p:=⟨w.heap.size+1,0,none⟩) (by simp) _,λh=>h.other (by omega) _⟩,
    ⟨⟨by rw[lac,eab,uac,zH,if_pos hx];exact bS1.set _,bM1.other (by omega) _⟩,hB1.setCell (p:=⟨w.heap.size+1,0,none⟩) (by simp) _⟩⟩
  .have hx:(x.m==m)=false:=by assumption
   exact⟨KeepsFrom.refl _ _,FJ.refl _,⟨⟨by rw[lac,eab,uac,zH,if_neg (by rw[hx];exact zae)];exact bS1,bM1⟩,hB1⟩⟩
 case done=>
  rintro D ys W hD rfl ⟨⟨bS1,bM1⟩,hB1⟩ hK;have cS:=bS1.cell
  gi_wp2
  refine⟨by simp,.inl ⟨_,_,rfl,run_takeDeferred hK,?_⟩⟩;exact⟨_,results_tmp rfl _ _ _,rfl,hB1.trans (belowK_b (w:=w) (Haa _) W D _ _ (by omega) hK rfl rfl)⟩
 case stop=>
  rintro D c pre W _ _ h _;exact h.elim
def zN(m:Int) (s:Int) (p:P4):Int:=if p.m==m then wrap64 (s+Iy p)else s
def SC(m:Int) (zs:List P4) (ks:List Int):Int:=ks.foldl (λs k=>(lT k zs).foldl (zN m) s) 0
def mark(D:Nat):Deferred:={ target:=.collected D,args:=#[] }
def MK(ds:List Nat) (W:World):Prop:=∀D∈ds,W.heap[D]?=some (.deferred (some []))
theorem MK.lt{ds:List Nat}{W:World}(h:MK ds W):∀D∈ds,D<W.heap.size:=λD hD=>(bac.1 (h D hD)).1
theorem MK.own(ds:List Nat) (hB:∀D∈ds,D<B) :OwnFrom B (λ(_:β) W=>MK ds W):=λs X Y row hs hg hr D hD=>
 (hg.block D (hs.lt D hD) (λe=>by have:=(hr D e.symm).1;have:=hB D hD;omega)).trans (hs D hD)
theorem MK.others{ds:List Nat}{W:World}(h:MK ds W) (k:KeepsOthers W W'):MK ds W':=λD hD=>k.same D _ (h D hD) rfl
theorem LZ(W:World) (j k:Int) (h:(j=0/\k=1)\/(j=1/\k=2)\/(j=2/\k=3)):Sem.run Tryz.prog (Instr.index 111 (.agg #[.int .i64 1,.int .i64 2,.int .i64 3]) (.int .i64 j)) W=.ok (.int .i64 k) W:=by
 rcases h with⟨rfl,rfl⟩|⟨rfl,rfl⟩|⟨rfl,rfl⟩<;>simp[Instr.index,go_sem]
theorem Kw{F:Fence}{n:Nat}{P:Program}{fn:Func}{tmps:Array Value}{R:Ending->World->Prop}(w:World):∀(ds:List Nat) (W:World),ds.Nodup->(∀D∈ds,w.heap.size<=D)->MK ds W->
 (∀W',Below w.heap.size W W'->LeavesInM F n P fn tmps R [] .returning W')->LeavesInM F n P fn tmps R (ds.map mark) .returning W
 |[],W,_,_,_,h=>h W (Below.refl _ _)
 |D::ds,W,hnd,hds,hmk,h=>by
  have hD:=hmk D (rad ..);have hB:Below w.heap.size W (W.putObj D (.deferred none)):=belowK_b (w:=w) (Haa _) W D _ _ (hds D (rad ..)) hD rfl rfl;obtain⟨h1,h2⟩:=vab.1 hnd;refine⟨by simp,.inl ⟨D,W.putObj D (.deferred none),rfl,run_takeDeferred hD,Kw w ds _ h2 (λD' h'=>hds D' (rac _ h')) (λD' h'=>?_) (λW' hW'=>h W' (hB.trans hW'))⟩⟩;exact(World.putObj_heap_other (λe=>h1 (by first|exact e▸h'|exact e.symm▸h'))).trans (hmk D' (rac _ h'))
set_option maxRecDepth 100000 in
set_option maxHeartbeats 8000000 in
theorem FL(F:Fence) (n:Nat) (h3:F.fn 23) (h2:F.fn 64) (h4:F.fn 63) (h5:F.fn 94) (hro:F.round=none) (hn:6<=n) (a:Option Addr) (len cap:Nat) (m:Int) (zs:List P4) (hl:zs.length=len) (hreach:zs.length*32<=140737488351232) (w:World) (hI:OkL w.heap.size w a zs) :
 CallsIn F n Tryz.prog 23 #[.slice a len cap,.int .i64 m] w λe W'=>e=.returned (.int .i64 (SC m zs [1,2,3]))/\Below w.heap.size w W':=by
 have h1:1<=n:=by omega
 subst hl;refine callsIn_of_wp_marks Tryz.func23 rfl h3 ?_ hro;simp only[Tryz.ntmps23,wab,qaa,Aaa,Caa,dab,Uab,Vab,gac,Yab,Qaa,Gaa]
 gi_wp2
 have bM:=(Boxed.new w 3 (.int .i64 m)).alloc (.cells #[.int .i64 0] 3);have bS:=Boxed.new (w.alloc (.cells #[.int .i64 m] 3)) 3 (.int .i64 0);simp only[World.size_alloc]at bS;have hB0:Below w.heap.size w ((w.alloc (.cells #[.int .i64 m] 3)).alloc (.cells #[.int .i64 0] 3)):=((Below.refl _ w).alloc (Haa _) _).alloc (by simp) _;obtain⟨W0,hW0⟩:∃W0,(w.alloc (.cells #[.int .i64 m] 3)).alloc (.cells #[.int .i64 0] 3)=W0:=⟨_,rfl⟩;rw[hW0]at bM bS hB0⊢;clear hW0;refine wpIn_loop (λa' W=>∃(i:Nat) (u7 u8 u11 u12 u13 u14 u15 u16 u25:Value) (ds:List Nat),i<=3/\a'={ tmps:=#[.slice a zs.length cap,.int .i64 m,undef,.pointer (some ⟨w.heap.size,0,none⟩),.int .i64 0,.pointer (some ⟨w.heap.size+1,0,none⟩),undef,u7,u8,.agg #[.int .i64 1,.int .i64 2,.int .i64 3],.int .i64 i,u11,u12,u13,u14,u15,u16,undef,undef,undef,undef,undef,undef,undef,undef,u25,undef],defers:=ds.map mark }/\
  ds.Nodup/\(∀D∈ds,w.heap.size<=D)/\MK ds W/\Boxed W (w.heap.size+1) 3 (.int .i64 (SC m zs (([1,2,3]:List Int).take i)))/\Boxed W w.heap.size 3 (.int .i64 m)/\Below w.heap.size w W)
  (λa' _=>3-(intOf (a'.tmps.getD 10 undef)).toNat) ?start ?round
 case start=>exact⟨0,_,_,_,_,_,_,_,_,_,[],by omega,rfl,by simp,by simp,λD h=>by simp at h,bS,bM,hB0⟩
 case round=>
  rintro a' W ⟨i,u7,u8,u11,u12,u13,u14,u15,u16,u25,ds,hi,rfl,hnd,hds,hmk,bS1,bM1,hB1⟩;by_cases h3:i=3
  .subst h3;have cS:=bS1.cell
   gi_wp2
   exact Kw w ds W hnd hds hmk λW' hW'=>⟨_,results_tmp rfl _ _ _,rfl,hB1.trans hW'⟩
  .have hlt3:(i:Int)<3:=by omega
   have cM:=bM1.cell;have hix:=LZ W i ((i:Int)+1) (by omega)
   gi_wp2_with (gi_at_call 63;refine(OC F (n-1) h4 hro _ _ _ _ _).mono ?_;rintro e w' ⟨rfl,rfl⟩)
   have bA:=(Boxed.new W 35 (.slice a zs.length cap)).alloc (.cells #[.int .i64 ((i:Int)+1)] 3);have bK:=Boxed.new (W.alloc (.cells #[.slice a zs.length cap] 35)) 3 (.int .i64 ((i:Int)+1));have bM2:=(bM1.alloc (.cells #[.slice a zs.length cap] 35)).alloc (.cells #[.int .i64 ((i:Int)+1)] 3);have bS2:=(bS1.alloc (.cells #[.slice a zs.length cap] 35)).alloc (.cells #[.int .i64 ((i:Int)+1)] 3);have hmk2:=(hmk.others (KeepsOthers.alloc W (.cells #[.slice a zs.length cap] 35))).others (KeepsOthers.alloc _ (.cells #[.int .i64 ((i:Int)+1)] 3));have hmlt:=hmk2.lt;simp only[World.size_alloc]at bA bK;have hsW:=hB1.size;have hBs:=bS1.lt;have hB2:Below w.heap.size w ((W.alloc (.cells #[.slice a zs.length cap] 35)).alloc (.cells #[.int .i64 ((i:Int)+1)] 3)):=(hB1.alloc hsW _).alloc (by simp;omega) _;have hsz:((W.alloc (.cells #[.slice a zs.length cap] 35)).alloc (.cells #[.int .i64 ((i:Int)+1)] 3)).heap.size=W.heap.size+2:=by simp
   obtain⟨W0,hW0⟩:∃W0,(W.alloc (.cells #[.slice a zs.length cap] 35)).alloc (.cells #[.int .i64 ((i:Int)+1)] 3)=W0:=⟨_,rfl⟩;rw[hW0]at bM2 bS2 bA bK hB2 hsz hmk2 hmlt⊢;clear hW0;refine wpIn_rangeFunc_ownH hro h1 (gf:=94) (lb:=#[.pointer (some ⟨W.heap.size,0,none⟩),.pointer (some ⟨W.heap.size+1,0,none⟩)]) rfl h5 (enters_of Tryz.func94 (by kernel_rfl) rfl)
    (Mw F (n-1) h5 hro (by omega) W.heap.size (W.heap.size+1) w.heap.size a cap ((i:Int)+1) zs hreach W0 (by omega) (by omega) bA.cell bK (hI.below hB2)) FJ.t (FJ.b (by omega)) (Below.refl _ _) (λ_=>rfl)
    (λpre X=>((Boxed X (w.heap.size+1) 3 (.int .i64 (pre.foldl (zN m) (SC m zs (([1,2,3]:List Int).take i))))/\Boxed X w.heap.size 3 (.int .i64 m))/\MK ds X)/\Below w.heap.size w X)
    (λ_ _ _=>False)
    (OwnFrom.and (OwnFrom.and (OwnFrom.and (Own.from (boxed_own _ _ _) _) (Own.from (boxed_own _ _ _) _)) (MK.own ds hmlt)) (ownFrom_below (Haa _) (by omega)))
    (λ_ _ _ _ _ hs _ _=>hs)
    ⟨⟨⟨bS2,bM2⟩,hmk2⟩,hB2⟩
    (λx a' X=>∃Bx,w.heap.size+1<Bx/\Wt X Bx x/\a'={ tmps:=#[.slice a zs.length cap,.int .i64 m,undef,.pointer (some ⟨w.heap.size,0,none⟩),.int .i64 0,.pointer (some ⟨w.heap.size+1,0,none⟩),undef,.int .i64 ((i:Int)+1),.pointer (some ⟨Bx,0,none⟩),.agg #[.int .i64 1,.int .i64 2,.int .i64 3],.int .i64 i,.bool true,.int .i64 ((i:Int)+1),.slice a zs.length cap,.int .i64 ((i:Int)+1),.func (.func 94) #[] #[.pointer (some ⟨W.heap.size,0,none⟩),.pointer (some ⟨W.heap.size+1,0,none⟩)],P4.v x,undef,undef,undef,undef,undef,undef,undef,undef,u25,undef],defers:=[] })
    (λx a' _ X Y row hs hg hr=>by obtain⟨Bx,h1,h2,h3⟩:=hs;exact⟨Bx,h1,kG Bx x () X Y row h2 hg (λr e=>(hr r e).2),h3⟩)
    ?assign ?body ?done ?stop
   case assign=>
    rintro l pre x X K ⟨⟨⟨bS3,bM3⟩,hmk3⟩,hB3⟩ hK;simp only[P4.v]
    gi_wp2
    exact hK _ _ ((KeepsOthers.alloc _ _).from _) ⟨(Below.refl _ X).alloc hB3.size _,λh=>h.alloc _⟩ ⟨⟨⟨bS3.alloc _,bM3.alloc _⟩,hmk3.others (KeepsOthers.alloc _ _)⟩,hB3.alloc hB3.size _⟩ ⟨X.heap.size,bS3.lt,Wt.new X x,rfl⟩
   case body=>
    rintro l pre x a' X hl ⟨r,hr⟩ ⟨⟨⟨bS3,bM3⟩,hmk3⟩,hB3⟩ ⟨Bx,hBx,bX,rfl⟩ hlt;have cM:=bM3.cell;have cS:=bS3.cell;have fS:=bS3.frozen;have c0:=bX.c0;have c1:=bX.c1;have c2:=bX.c2;have c3:=bX.c3;have h1':1<=n-1-1:=by omega
    have hmx:Tryz.prog.follows .mixedOrders=true:=by kernel_rfl
    gi_wp2
    .have hx:(x.m==m)=true:=by assumption
     have bS4:Boxed (X.alloc (.cells #[.int .i64 x.d,.int .i64 x.m,.int .i64 x.k,.int .i64 x.c] 64)) (w.heap.size+1) 3 _:=bS3.alloc _;have cS4:=bS4.cell;have fS4:=bS4.frozen
     gi_region_with_o (gi_at_call 64;refine(CallsIn.inRound l (xI F (n-1-1-1) h2 hro x _)).mono ?_;rintro e w' ⟨rfl,rfl⟩)
     all_goals gi_wp2
     all_goals (try go_bits)
     all_goals
      have hk:∀v,KeepsOthers X ((X.alloc (.cells #[.int .i64 x.d,.int .i64 x.m,.int .i64 x.k,.int .i64 x.c] 64)).setCell ⟨w.heap.size+1,0,none⟩ v).drew:=λv=>((KeepsOthers.alloc _ _).trans (KeepsOthers.setCell _ _ _)).trans (KeepsOthers.drew _);exact⟨(hk _).from _,⟨(((Below.refl _ X).alloc hB3.size _).setCell (p:=⟨w.heap.size+1,0,none⟩) (by simp) _).drew,λh=>(h.alloc _).other (by omega) _⟩,
       ⟨⟨⟨by rw[lac,eab,uac,zN,if_pos hx];exact bS4.set _,(bM3.alloc _).other (by omega) _⟩,hmk3.others (hk _)⟩,((hB3.alloc hB3.size _).setCell (p:=⟨w.heap.size+1,0,none⟩) (by simp) _).drew⟩⟩
    .have hx:(x.m==m)=false:=by assumption
     exact⟨KeepsFrom.refl _ _,FJ.refl _,⟨⟨⟨by rw[lac,eab,uac,zN,if_neg (by rw[hx];exact zae)];exact bS3,bM3⟩,hmk3⟩,hB3⟩⟩
   case done=>
    rintro D ys X hD rfl ⟨⟨⟨bS3,bM3⟩,hmk3⟩,hB3⟩ hK
    gi_wp2
    refine⟨⟨i+1,_,_,_,_,_,_,_,_,_,D::ds,by omega,rfl,vab.2 ⟨λh=>?_,hnd⟩,λD' h'=>?_,λD' h'=>?_,?_,bM3,hB3⟩,by simp[intOf];omega⟩
    .have:=hmlt D h;omega
    .rcases lab.1 h' with rfl|h'
     .omega
     .exact hds D' h'
    .rcases lab.1 h' with rfl|h'
     .exact hK
     .exact hmk3 D' h'
    .have h012:i=0\/i=1\/i=2:=by omega
     rcases h012 with rfl|rfl|rfl<;>exact bS3
   case stop=>
    rintro D c pre X _ _ h _;exact h.elim
end Led
end Go.Proofs
namespace Go.Tm
open Go.RowKit
theorem aP{G:Gh}{w w':World}{m:List Ent}(hi:Inv G w m) (hB:Below w.heap.size w w'):Inv G w' m/\Step G w m G w' m:=by
 have hle:Le G w G w':=⟨λ_ h=>h,λb h=>hB.block b (hi.F b h),Haa _,λi _=>.inl ⟨rfl,rfl,rfl,rfl,rfl⟩⟩;refine⟨⟨hi.n,λb h=>Nat.lt_of_lt_of_le (hi.F b h) hB.size,λi e hm=>?_,hi.apart,λg d hd=>VRel.mono hle (hi.gl g d hd)⟩,⟨hle,hB.os,hB.tape,hB.output,hB.size,λb h _=>hB.block b h,λb _ h=>.inl h,λb _ h=>h⟩⟩
 cases e with
 |gone=>trivial
 |live S Ma l=>exact Kk.mono hle (hi.ent i _ hm) ⟨rfl,rfl,rfl,rfl,rfl⟩ (λb h=>hB.block b (Kk.lt (hi.ent i _ hm) rfl h).1) (λ_ _ _ h=>h)
 |mp es=>exact Kk.mono hle (hi.ent i _ hm) ⟨rfl,rfl,rfl,rfl,rfl⟩ (λb h=>hB.block b (Kk.lt (hi.ent i _ hm) rfl h).1) (λ_ _ _ h=>h)
theorem rC{P:Program}{k:Nat}{ds:List D}{v:Value}(hE:Enters P k) (h:∀(G:Gh) (w:World) (vs:List Value),(∀b,G.F b->b<w.heap.size)->VsRel G w ds vs->Calls P k vs.toArray w λe w'=>e=.returned v/\Below w.heap.size w w'):Den P k ds (.v v):=by
 refine λm=>⟨hE,λG w vs hv hi=>(h G w vs hi.F hv).mono ?_⟩;rintro e w' ⟨rfl,hB⟩;obtain⟨g1,g2⟩:=aP hi hB;exact⟨_,_,_,G,rfl,⟨rfl,rfl⟩,by simp[VRel],g1,g2⟩
end Go.Tm
namespace Go.Proofs.Dev
open Go Go.Tm Go.Proofs.Led
variable {t0:List GPosting}{t1:Int}
def Lt(x:GPosting):P4:=⟨x.Date,x.Month,x.Kind,x.Cents⟩
theorem oJ{G:Gh}{w:World}{b:Nat}:∀{l:List GPosting}{off:Nat},Na G w b 4 (l.map Ha) off->∀j (h:j<(l.map Lt).length),w.cell? ⟨b,off+j*4,none⟩=some (.int .i64 (l.map Lt)[j].d)/\w.cell? ⟨b,off+j*4+1,none⟩=some (.int .i64 (l.map Lt)[j].m)/\w.cell? ⟨b,off+j*4+2,none⟩=some (.int .i64 (l.map Lt)[j].k)/\w.cell? ⟨b,off+j*4+3,none⟩=some (.int .i64 (l.map Lt)[j].c)
 |[],_,_,j,h=>absurd h (by simp)
 |x::l,off,hr,j,h=>by
  simp only[List.map_cons,Na]at hr;obtain⟨⟨u,h1,h2,h3⟩,h4⟩:=hr;simp only[Ha,VRel,VsRel]at h1;obtain⟨cs,rfl,⟨_,_,rfl,rfl,_,_,rfl,rfl,_,_,rfl,rfl,_,_,rfl,rfl,rfl⟩,-⟩:=h1
  cases j with
  |zero=>
   have g:=λ(j:Nat) c hc=>(h3 j c hc).2;refine⟨?_,?_,?_,?_⟩
   .simpa [Lt] using g 0 (.int .i64 x.Date) rfl
   .simpa [Lt] using g 1 (.int .i64 x.Month) rfl
   .simpa [Lt] using g 2 (.int .i64 x.Kind) rfl
   .simpa [Lt] using g 3 (.int .i64 x.Cents) rfl
  |succ j=>
   have:=oJ h4 j (by simpa using h);rw[show off+(j+1)*4=off+4+j*4 by omega];simpa using this
theorem jQ{G:Gh}{w:World}{l:List GPosting}{u:Value}(hF:∀b,G.F b->b<w.heap.size) (h:VRel G w (Aa l) u):∃a cap,u=.slice a (l.map Lt).length cap/\OkL w.heap.size w a (l.map Lt):=by
 simp only[Aa,VRel]at h;obtain⟨a,n,cap,rfl,rfl,h1,h2⟩:=h;refine⟨a,cap,by simp,?_⟩;rcases h2 with h2|⟨b,off,rfl,hb,hr⟩
 .exact .inl (by simpa using h2)
 .exact .inr ⟨b,off,rfl,hF b hb,oJ hr⟩
theorem rz(hs:t0.length*32<=140737488351232):Den Tryz.prog 23 [Aa t0,ca t1] (ca (SC t1 (t0.map Lt) [1,2,3])):=by
 refine rC ⟨_,Tryz.func23,by kernel_rfl,rfl⟩ λG w vs hF hv=>?_;simp only[VsRel,ca,VRel]at hv;obtain⟨u,r,rfl,h1,u2,r2,rfl,rfl,rfl⟩:=hv;obtain⟨a,cap,rfl,h2⟩:=jQ hF h1;exact(callsIn_wide (n:=6)).1 (FL Fence.wide 6 trivial trivial trivial trivial rfl (by omega) a _ cap t1 (t0.map Lt) rfl (by simpa using hs) w h2)
theorem kB(hs:t0.length*32<=140737488351232):Den Tryz.prog 42 [Aa t0,ca t1] (ca ((lT 4 (t0.map Lt)).foldl (zH t1) 0)):=by
 refine rC ⟨_,Tryz.func42,by kernel_rfl,rfl⟩ λG w vs hF hv=>?_;simp only[VsRel,ca,VRel]at hv;obtain⟨u,r,rfl,h1,u2,r2,rfl,rfl,rfl⟩:=hv;obtain⟨a,cap,rfl,h2⟩:=jQ hF h1;exact(callsIn_wide (n:=6)).1 (WT Fence.wide 6 trivial trivial trivial rfl (by omega) a _ cap t1 (t0.map Lt) rfl (by simpa using hs) w h2)
open Go Go.Tm Go.Proofs.Led Go.RowKit
theorem gH(k:Int) (l:List GPosting):lT k (l.map Lt)=(l.filter λp=>p.Kind==k).map Lt:=by
 unfold lT;rw[List.filter_map];rfl
theorem UB(n:Int):wrap64 n=aa .i64 n:=by
 rw[wrap_i64];unfold wrap64;first|rfl|omega
theorem yA(p:GPosting):Iy (Lt p)=Lx p:=by
 unfold Iy Lx;simp only[Lt,UB]
theorem qQ(m:Int) (l:List GPosting) (ks:List Int):SC m (l.map Lt) ks=oE m l ks:=by
 unfold SC oE;congr 1;funext s k;rw[gH,sae];congr 1;funext s p;unfold zN;rw[yA,UB];rfl
theorem UW(m:Int) (l:List GPosting):(lT 4 (l.map Lt)).foldl (zH m) 0=(l.filter λp=>p.Kind==4).foldl (λs p=>if p.Month==m then aa .i64 (s+p.Cents)else s) 0:=by
 rw[gH,sae];congr 1;funext s p;unfold zH;rw[UB];rfl
theorem eu{t0 t1 r}(h:fb t0 t1=some r):Den Tryz.prog 23 [Aa t0,ca t1] (ca r):=by
 unfold fb at h;split at h
 .rename_i hl;injection h with h;have:=rz (t0:=t0) (t1:=t1) (by omega);rw[qQ,h]at this;exact this
 .cases h
theorem Yv{t0 t1 r}(h:xh t0 t1=some r):Den Tryz.prog 42 [Aa t0,ca t1] (ca r):=by
 unfold xh at h;split at h
 .rename_i hl;injection h with h;have:=kB (t0:=t0) (t1:=t1) (by omega);rw[UW,h]at this;exact this
 .cases h
instance {t0 t1 r}:Con (fb t0 t1=some r) (Den Tryz.prog 23 [Aa t0,ca t1] (ca r)):=⟨eu⟩
instance {t0 t1 r}:Con (xh t0 t1=some r) (Den Tryz.prog 42 [Aa t0,ca t1] (ca r)):=⟨Yv⟩
end Go.Proofs.Dev
namespace Go.Proofs
open Go.RowKit Go.Shelf
variable {B:Nat}{f t:Int}
attribute [local go_sem] Oper.semAt_some
namespace Led
set_option maxRecDepth 100000 in
set_option maxHeartbeats 2000000 in
theorem OX(F:Fence) (n:Nat) (h5:F.fn 135) (hro:F.round=none) (f t:Int) (h:0<=f/\f<=t/\t<=109573) (w:World) :
 CallsIn F n Tryz.prog 135 #[.agg #[.int .i64 f,.int .i64 t]] w λe w'=>e=.returned (.bool true)/\w'=w.alloc (.cells #[.int .i64 f,.int .i64 t] 42):=by
 refine callsIn_of_wp Tryz.func135 rfl h5 ?_ hro;simp only[Tryz.ntmps135,wab,qaa,Aaa,Caa,dab,Uab,Vab,gac,Yab,Qaa,Gaa];obtain⟨h1,h2,h3⟩:=h
 gi_wp2
 go_ret
 exact⟨rfl,rfl⟩
set_option maxRecDepth 100000 in
set_option maxHeartbeats 2000000 in
theorem zL(F:Fence) (n:Nat) (h4:F.fn 95) (h5:F.fn 135) (hro:F.round=none) (hn:1<=n) (f t d:Int) (h:0<=f/\f<=t/\t<=109573) (w:World) :
 CallsIn F n Tryz.prog 95 #[.agg #[.int .i64 f,.int .i64 t],.int .i64 d] w λe w'=>e=.returned (.bool (decide (f<=d)&&decide (d<t)))/\w'=(w.alloc (.cells #[.int .i64 f,.int .i64 t] 42)).alloc (.cells #[.int .i64 f,.int .i64 t] 42):=by
 refine callsIn_of_wp Tryz.func95 rfl h4 ?_ hro;simp only[Tryz.ntmps95,wab,qaa,Aaa,Caa,dab,Uab,Vab,gac,Yab,Qaa,Gaa]
 gi_wp2_with (gi_at_call 135;refine(OX F (n-1) h5 hro _ _ h _).mono ?_;rintro e w' ⟨rfl,rfl⟩)
 .rename_i hx
  go_ret
  exact⟨by rw[decide_eq_true hx,Bool.true_and];rfl,rfl⟩
 .rename_i hx
  go_ret
  exact⟨by rw[decide_eq_false (show¬f<=d by omega),Bool.false_and];rfl,rfl⟩
def TL(f t:Int) (s:Int) (p:P4):Int:=if(decide (f<=p.d)&&decide (p.d<t))=true then wrap64 (s+Iy p)else s
def nC(f t:Int) (zs:List P4) (ks:List Int):Int:=ks.foldl (λs k=>(lT k zs).foldl (TL f t) s) 0
def Ao(W:World) (B:Nat) (f t:Int):Prop:=W.heap[B]?=some (.cells #[.int .i64 f,.int .i64 t] 42 (0,0))
theorem Ao.new(W:World) (f t:Int):Ao (W.alloc (.cells #[.int .i64 f,.int .i64 t] 42)) W.heap.size f t:=World.alloc_heap_new W _
theorem Ao.lt{W:World}(h:Ao W B f t):B<W.heap.size:=(bac.1 h).1
theorem Ao.kept{W W':World}{row:Option Nat}(h:Ao W B f t) (hg:W.grownBy W' row) (hne:some B≠row):Ao W' B f t:=(hg.block B h.lt hne).trans h
theorem Ao.alloc{W:World}{B:Nat}{f t:Int}(h:Ao W B f t) (o:Obj):Ao (W.alloc o) B f t:=h.kept (World.grownBy_alloc W o none) (by simp)
theorem Ao.other{W:World}{B':Nat}(h:Ao W B f t) (hne:B≠B') (u:Value):Ao (W.setCell ⟨B',0,none⟩ u) B f t:=h.kept (grownBy_setCell' W B' u) (λe=>hne (by cases e;rfl))
theorem Ao.c0{W:World}(h:Ao W B f t):W.cell? ⟨B,0,none⟩=some (.int .i64 f):=by simp[World.cell?,show W.heap[B]?=_ from h]
theorem Ao.c1{W:World}(h:Ao W B f t):W.cell? ⟨B,1,none⟩=some (.int .i64 t):=by simp[World.cell?,show W.heap[B]?=_ from h]
theorem xV{β:Type}(B:Nat) (f t:Int):Own (λ(_:β) W=>Ao W B f t):=λs X Y row hs hg hrow=>
 hs.kept hg (λe'=>by obtain⟨o,ho,hc⟩:=hrow B e'.symm;rw[show X.heap[B]?=_ from hs]at ho;cases ho;cases hc)
set_option maxRecDepth 100000 in
set_option maxHeartbeats 8000000 in
theorem B7(F:Fence) (n:Nat) (h3:F.fn 66) (h2:F.fn 64) (h4:F.fn 63) (h5:F.fn 94) (h6:F.fn 95) (h7:F.fn 135) (hro:F.round=none) (hn:6<=n) (a:Option Addr) (len cap:Nat) (f t:Int) (hft:0<=f/\f<=t/\t<=109573) (zs:List P4) (hl:zs.length=len) (hreach:zs.length*32<=140737488351232) (w:World) (hI:OkL w.heap.size w a zs) :
 CallsIn F n Tryz.prog 66 #[.slice a len cap,.agg #[.int .i64 f,.int .i64 t]] w λe W'=>e=.returned (.int .i64 (nC f t zs [1,2,3]))/\Below w.heap.size w W':=by
 have h1:1<=n:=by omega
 subst hl;refine callsIn_of_wp_marks Tryz.func66 rfl h3 ?_ hro;simp only[Tryz.ntmps66,wab,qaa,Aaa,Caa,dab,Uab,Vab,gac,Yab,Qaa,Gaa]
 gi_wp2
 have bM:=(Ao.new w f t).alloc (.cells #[.int .i64 0] 3);have bS:=Boxed.new (w.alloc (.cells #[.int .i64 f,.int .i64 t] 42)) 3 (.int .i64 0);simp only[World.size_alloc]at bS;have hB0:Below w.heap.size w ((w.alloc (.cells #[.int .i64 f,.int .i64 t] 42)).alloc (.cells #[.int .i64 0] 3)):=((Below.refl _ w).alloc (Haa _) _).alloc (by simp) _;obtain⟨W0,hW0⟩:∃W0,(w.alloc (.cells #[.int .i64 f,.int .i64 t] 42)).alloc (.cells #[.int .i64 0] 3)=W0:=⟨_,rfl⟩;rw[hW0]at bM bS hB0⊢;clear hW0;refine wpIn_loop (λa' W=>∃(i:Nat) (u7 u8 u11 u12 u13 u14 u15 u16 u25:Value) (ds:List Nat),i<=3/\a'={ tmps:=#[.slice a zs.length cap,.agg #[.int .i64 f,.int .i64 t],undef,.pointer (some ⟨w.heap.size,0,none⟩),.int .i64 0,.pointer (some ⟨w.heap.size+1,0,none⟩),undef,u7,u8,.agg #[.int .i64 1,.int .i64 2,.int .i64 3],.int .i64 i,u11,u12,u13,u14,u15,u16,undef,undef,undef,undef,undef,undef,undef,undef,u25,undef],defers:=ds.map mark }/\
  ds.Nodup/\(∀D∈ds,w.heap.size<=D)/\MK ds W/\Boxed W (w.heap.size+1) 3 (.int .i64 (nC f t zs (([1,2,3]:List Int).take i)))/\Ao W w.heap.size f t/\Below w.heap.size w W)
  (λa' _=>3-(intOf (a'.tmps.getD 10 undef)).toNat) ?start ?round
 case start=>exact⟨0,_,_,_,_,_,_,_,_,_,[],by omega,rfl,by simp,by simp,λD h=>by simp at h,bS,bM,hB0⟩
 case round=>
  rintro a' W ⟨i,u7,u8,u11,u12,u13,u14,u15,u16,u25,ds,hi,rfl,hnd,hds,hmk,bS1,bM1,hB1⟩;by_cases h3:i=3
  .subst h3;have cS:=bS1.cell
   gi_wp2
   exact Kw w ds W hnd hds hmk λW' hW'=>⟨_,results_tmp rfl _ _ _,rfl,hB1.trans hW'⟩
  .have hlt3:(i:Int)<3:=by omega
   have cM:=bM1.c0;have cM1:=bM1.c1;have hix:=LZ W i ((i:Int)+1) (by omega)
   gi_wp2_with (gi_at_call 63;refine(OC F (n-1) h4 hro _ _ _ _ _).mono ?_;rintro e w' ⟨rfl,rfl⟩)
   have bA:=(Boxed.new W 35 (.slice a zs.length cap)).alloc (.cells #[.int .i64 ((i:Int)+1)] 3);have bK:=Boxed.new (W.alloc (.cells #[.slice a zs.length cap] 35)) 3 (.int .i64 ((i:Int)+1));have bM2:=(bM1.alloc (.cells #[.slice a zs.length cap] 35)).alloc (.cells #[.int .i64 ((i:Int)+1)] 3);have bS2:=(bS1.alloc (.cells #[.slice a zs.length cap] 35)).alloc (.cells #[.int .i64 ((i:Int)+1)] 3);have hmk2:=(hmk.others (KeepsOthers.alloc W (.cells #[.slice a zs.length cap] 35))).others (KeepsOthers.alloc _ (.cells #[.int .i64 ((i:Int)+1)] 3));have hmlt:=hmk2.lt;simp only[World.size_alloc]at bA bK;have hsW:=hB1.size;have hBs:=bS1.lt;have hB2:Below w.heap.size w ((W.alloc (.cells #[.slice a zs.length cap] 35)).alloc (.cells #[.int .i64 ((i:Int)+1)] 3)):=(hB1.alloc hsW _).alloc (by simp;omega) _;have hsz:((W.alloc (.cells #[.slice a zs.length cap] 35)).alloc (.cells #[.int .i64 ((i:Int)+1)] 3)).heap.size=W.heap.size+2:=by simp
   obtain⟨W0,hW0⟩:∃W0,(W.alloc (.cells #[.slice a zs.length cap] 35)).alloc (.cells #[.int .i64 ((i:Int)+1)] 3)=W0:=⟨_,rfl⟩;rw[hW0]at bM2 bS2 bA bK hB2 hsz hmk2 hmlt⊢;clear hW0;refine wpIn_rangeFunc_ownH hro h1 (gf:=94) (lb:=#[.pointer (some ⟨W.heap.size,0,none⟩),.pointer (some ⟨W.heap.size+1,0,none⟩)]) rfl h5 (enters_of Tryz.func94 (by kernel_rfl) rfl)
    (Mw F (n-1) h5 hro (by omega) W.heap.size (W.heap.size+1) w.heap.size a cap ((i:Int)+1) zs hreach W0 (by omega) (by omega) bA.cell bK (hI.below hB2)) FJ.t (FJ.b (by omega)) (Below.refl _ _) (λ_=>rfl)
    (λpre X=>((Boxed X (w.heap.size+1) 3 (.int .i64 (pre.foldl (TL f t) (nC f t zs (([1,2,3]:List Int).take i))))/\Ao X w.heap.size f t)/\MK ds X)/\Below w.heap.size w X)
    (λ_ _ _=>False)
    (OwnFrom.and (OwnFrom.and (OwnFrom.and (Own.from (boxed_own _ _ _) _) (Own.from (xV _ _ _) _)) (MK.own ds hmlt)) (ownFrom_below (Haa _) (by omega)))
    (λ_ _ _ _ _ hs _ _=>hs)
    ⟨⟨⟨bS2,bM2⟩,hmk2⟩,hB2⟩
    (λx a' X=>∃Bx,w.heap.size+1<Bx/\Wt X Bx x/\a'={ tmps:=#[.slice a zs.length cap,.agg #[.int .i64 f,.int .i64 t],undef,.pointer (some ⟨w.heap.size,0,none⟩),.int .i64 0,.pointer (some ⟨w.heap.size+1,0,none⟩),undef,.int .i64 ((i:Int)+1),.pointer (some ⟨Bx,0,none⟩),.agg #[.int .i64 1,.int .i64 2,.int .i64 3],.int .i64 i,.bool true,.int .i64 ((i:Int)+1),.slice a zs.length cap,.int .i64 ((i:Int)+1),.func (.func 94) #[] #[.pointer (some ⟨W.heap.size,0,none⟩),.pointer (some ⟨W.heap.size+1,0,none⟩)],P4.v x,undef,undef,undef,undef,undef,undef,undef,undef,u25,undef],defers:=[] })
    (λx a' _ X Y row hs hg hr=>by obtain⟨Bx,h1,h2,h3⟩:=hs;exact⟨Bx,h1,kG Bx x () X Y row h2 hg (λr e=>(hr r e).2),h3⟩)
    ?assign ?body ?done ?stop
   case assign=>
    rintro l pre x X K ⟨⟨⟨bS3,bM3⟩,hmk3⟩,hB3⟩ hK;simp only[P4.v]
    gi_wp2
    exact hK _ _ ((KeepsOthers.alloc _ _).from _) ⟨(Below.refl _ X).alloc hB3.size _,λh=>h.alloc _⟩ ⟨⟨⟨bS3.alloc _,bM3.alloc _⟩,hmk3.others (KeepsOthers.alloc _ _)⟩,hB3.alloc hB3.size _⟩ ⟨X.heap.size,bS3.lt,Wt.new X x,rfl⟩
   case body=>
    rintro l pre x a' X hl ⟨r,hr⟩ ⟨⟨⟨bS3,bM3⟩,hmk3⟩,hB3⟩ ⟨Bx,hBx,bX,rfl⟩ hlt;have cM:=bM3.c0;have cM1:=bM3.c1;have cS:=bS3.cell;have fS:=bS3.frozen;have c0:=bX.c0;have c1:=bX.c1;have c2:=bX.c2;have c3:=bX.c3;have h1':1<=n-1-1:=by omega
    have hmx:Tryz.prog.follows .mixedOrders=true:=by kernel_rfl
    have hk0:KeepsOthers X ((X.alloc (.cells #[.int .i64 f,.int .i64 t] 42)).alloc (.cells #[.int .i64 f,.int .i64 t] 42)):=(KeepsOthers.alloc _ _).trans (KeepsOthers.alloc _ _);have bS5:=(bS3.alloc (.cells #[.int .i64 f,.int .i64 t] 42)).alloc (.cells #[.int .i64 f,.int .i64 t] 42);have bM5:=(bM3.alloc (.cells #[.int .i64 f,.int .i64 t] 42)).alloc (.cells #[.int .i64 f,.int .i64 t] 42);have bX5:=Wt.kept (bX.kept (World.grownBy_alloc X (.cells #[.int .i64 f,.int .i64 t] 42) none) (by simp)) (World.grownBy_alloc _ (.cells #[.int .i64 f,.int .i64 t] 42) none) (by simp);have hmk5:=hmk3.others hk0;have hX1:=hB3.size;have hB5:=(hB3.alloc hX1 (.cells #[.int .i64 f,.int .i64 t] 42)).alloc (by simp;omega) (.cells #[.int .i64 f,.int .i64 t] 42);have hkp0:FJ w.heap.size (W.heap.size+1) ((i:Int)+1) X ((X.alloc (.cells #[.int .i64 f,.int .i64 t] 42)).alloc (.cells #[.int .i64 f,.int .i64 t] 42)):=⟨((Below.refl _ X).alloc hX1 _).alloc (by simp;omega) _,λh=>(h.alloc _).alloc _⟩
    gi_wp2_with (gi_at_call 95;refine(CallsIn.inRound l (zL F (n-1-1-1) h6 h7 hro (by omega) f t x.d hft X)).mono ?_;rintro e w' ⟨rfl,rfl⟩)
    .have hx:f<=x.d/\x.d<t:=by assumption
     obtain⟨X2,hX2⟩:∃X2,(X.alloc (.cells #[.int .i64 f,.int .i64 t] 42)).alloc (.cells #[.int .i64 f,.int .i64 t] 42)=X2:=⟨_,rfl⟩;rw[hX2]at hk0 bS5 bM5 bX5 hmk5 hB5 hkp0⊢;clear cM cM1 cS fS c0 c1 c2 c3 hr;have c0:=bX5.c0;have c1:=bX5.c1;have c2:=bX5.c2;have c3:=bX5.c3;have cS:=bS5.cell;have fS:=bS5.frozen;have bS4:Boxed (X2.alloc (.cells #[.int .i64 x.d,.int .i64 x.m,.int .i64 x.k,.int .i64 x.c] 64)) (w.heap.size+1) 3 _:=bS5.alloc _;have cS4:=bS4.cell;have fS4:=bS4.frozen
     gi_region_with_o (gi_at_call 64;refine(CallsIn.inRound l (xI F (n-1-1-1) h2 hro x _)).mono ?_;rintro e w' ⟨rfl,rfl⟩)
     all_goals gi_wp2
     all_goals (try go_bits)
     all_goals
      have hk:∀v,KeepsOthers X2 ((X2.alloc (.cells #[.int .i64 x.d,.int .i64 x.m,.int .i64 x.k,.int .i64 x.c] 64)).setCell ⟨w.heap.size+1,0,none⟩ v).drew:=λv=>((KeepsOthers.alloc _ _).trans (KeepsOthers.setCell _ _ _)).trans (KeepsOthers.drew _);exact⟨(hk0.trans (hk _)).from _,hkp0.t ⟨(((Below.refl _ X2).alloc hB5.size _).setCell (p:=⟨w.heap.size+1,0,none⟩) (by simp) _).drew,λh=>(h.alloc _).other (by omega) _⟩,
       ⟨⟨⟨by rw[lac,eab,uac,TL,if_pos (by simp[hx])];exact bS4.set _,(bM5.alloc _).other (by omega) _⟩,hmk5.others (hk _)⟩,((hB5.alloc hB5.size _).setCell (p:=⟨w.heap.size+1,0,none⟩) (by simp) _).drew⟩⟩
    .have hx:x.d<f\/t<=x.d:=by assumption
     exact⟨hk0.from _,hkp0,⟨⟨⟨by rw[lac,eab,uac,TL,if_neg (by simp;omega)];exact bS5,bM5⟩,hmk5⟩,hB5⟩⟩
   case done=>
    rintro D ys X hD rfl ⟨⟨⟨bS3,bM3⟩,hmk3⟩,hB3⟩ hK
    gi_wp2
    refine⟨⟨i+1,_,_,_,_,_,_,_,_,_,D::ds,by omega,rfl,vab.2 ⟨λh=>?_,hnd⟩,λD' h'=>?_,λD' h'=>?_,?_,bM3,hB3⟩,by simp[intOf];omega⟩
    .have:=hmlt D h;omega
    .rcases lab.1 h' with rfl|h'
     .omega
     .exact hds D' h'
    .rcases lab.1 h' with rfl|h'
     .exact hK
     .exact hmk3 D' h'
    .have h012:i=0\/i=1\/i=2:=by omega
     rcases h012 with rfl|rfl|rfl<;>exact bS3
   case stop=>
    rintro D c pre X _ _ h _;exact h.elim
end Led
end Go.Proofs
namespace Go.Proofs.Dev
open Go Go.Tm Go.Proofs.Led Go.RowKit
theorem SL(f t:Int) (l:List GPosting) (ks:List Int):nC f t (l.map Lt) ks=WL f t l ks:=by
 unfold nC WL;congr 1;funext s k;rw[gH,sae];congr 1;funext s p;unfold TL;rw[yA,UB];simp only[Bool.and_eq_true,decide_eq_true_eq];rfl
theorem iE{t0:List GPosting}{t1:GDateRange}(hs:t0.length*32<=140737488351232) (hr:0<=t1.From/\t1.From<=t1.To/\t1.To<=109573):Den Tryz.prog 66 [Aa t0,Ui t1] (ca (nC t1.From t1.To (t0.map Lt) [1,2,3])):=by
 refine rC ⟨_,Tryz.func66,by kernel_rfl,rfl⟩ λG w vs hF hv=>?_;simp only[VsRel,Ui,VRel]at hv;obtain⟨u,r,rfl,h1,u2,r2,rfl,⟨a1,rfl,⟨v1,r3,rfl,rfl,v2,r4,rfl,rfl,rfl⟩,-⟩,rfl⟩:=hv;obtain⟨a,cap,rfl,h2⟩:=jQ hF h1;exact(callsIn_wide (n:=6)).1 (B7 Fence.wide 6 trivial trivial trivial trivial trivial trivial rfl (by omega) a _ cap t1.From t1.To hr (t0.map Lt) rfl (by simpa using hs) w h2)
theorem nG{t0 t1 r}(h:Dp t0 t1=some r):Den Tryz.prog 66 [Aa t0,Ui t1] (ca r):=by
 unfold Dp at h;split at h
 .rename_i hl;injection h with h;have:=iE (t0:=t0) (t1:=t1) (by omega) hl.2;rw[SL,h]at this;exact this
 .cases h
instance {t0 t1 r}:Con (Dp t0 t1=some r) (Den Tryz.prog 66 [Aa t0,Ui t1] (ca r)):=⟨nG⟩
end Go.Proofs.Dev
