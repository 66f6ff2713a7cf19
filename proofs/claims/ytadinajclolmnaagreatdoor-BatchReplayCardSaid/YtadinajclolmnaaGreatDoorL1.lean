/-
  Contracts by hand: the conditions stand in each.
-/
import Derived.RangeFuncNested
import Derived.RangeFuncBound
import Derived.RangeFuncCalls
import Derived.RangeFuncLeaves
import Derived.Shelf.Abstract
import Derived.Shelf.RegionOpen
import Derived.WalkKit
import Derived.OwnWalkIn
import Derived.TacticsInMore
import Derived.LoopNIn
import Derived.LoopIn
import Derived.Test.YtadinajclolmnaaGreatDoorK
import Derived.Test.YtadinajclolmnaaGreatDoorPE
open Go renaming World->a33
open Option renaming some->M,none->u4
open Go.IntKind renaming i64->b!
open Go.Value renaming int->g!
open Go.Proofs.Tryz renaming prog->al
open Array renaming getElem?_eq_some_iff->hah,replicate_succ->qah,replicate_zero->rah
open Bool renaming false_ne_true->naj
open List renaming append_toArray->wah,cons_append->B',foldl_append->uah,foldl_cons->Yaf,foldl_map->Naj,foldl_nil->fai,length_cons->w!,length_nil->A?,mem_cons->X',mem_cons_of_mem->fah,mem_cons_self->Wah,nil_append->G?,nodup_cons->dah,push_toArray->Nah,size_toArray->Gag
open Nat renaming le_refl->A',le_trans->Lag,reduceAdd->l?,reduceSub->n!
set_option linter.all false
namespace Go.Proofs
open Go.RowKit Go.Shelf
variable {n₀ B Bk:Nat}{A W':a33}{kk:Int}{β:Type}
attribute [local go_sem] Oper.semAt_some
namespace Led
structure P4 where
 d:Int
 m:Int
 k:Int
 c:Int
variable {p:P4}
def P4.v(p:P4):Value:=.agg #[g! b! p.d,g! b! p.m,g! b! p.k,g! b! p.c]
def ED(p:P4):Int:=if p.k=1 then p.c else if p.k=2 then wrap64 (-p.c)else if p.k=3 then wrap64 (-p.c)else 0
set_option maxRecDepth 100000 in
set_option maxHeartbeats 2000000 in
theorem rN(F:Fence) (n:Nat) (h5:F.fn 124) (hro:F.round=u4) (a:Option Addr) (len cap:Nat) (k:Int) (w:a33) :
 CallsIn F n al 124 #[.slice a len cap,g! b! k] w λe w'=>e=.returned (.func (.func 149) #[] #[.pointer (M ⟨w.heap.size,0,u4⟩),.pointer (M ⟨w.heap.size+1,0,u4⟩)])/\w'=(w.alloc (.cells #[.slice a len cap] 68)).alloc (.cells #[g! b! k] 3):=by
 refine callsIn_of_wp Tryz.func124 rfl h5 ?_ hro;simp only[Tryz.ntmps124,Gag,w!,A?,l?,n!,qah,rah,Nah,wah,G?,B']
 gi_wp2
 go_ret
 exact⟨rfl,rfl⟩
set_option maxRecDepth 100000 in
set_option maxHeartbeats 2000000 in
theorem B0(F:Fence) (n:Nat) (h5:F.fn 121) (hro:F.round=u4) (p:P4) (w:a33) :
 CallsIn F n al 121 #[p.v] w λe w'=>e=.returned (g! b! (ED p))/\w'=w.alloc (.cells #[g! b! p.d,g! b! p.m,g! b! p.k,g! b! p.c] 79):=by
 refine callsIn_of_wp Tryz.func121 rfl h5 ?_ hro;simp only[Tryz.ntmps121,Gag,w!,A?,l?,n!,qah,rah,Nah,wah,G?,B',P4.v]
 gi_wp2
 all_goals (go_ret;refine⟨?_,rfl⟩)
 all_goals simp_all[ED]
def OkL(n₀:Nat) (W:a33) (a:Option Addr) (zs:List P4):Prop:=
 zs=[]\/∃b off,a=M ⟨b,off,u4⟩/\b<n₀/\∀j (h:j<zs.length),W.cell? ⟨b,off+j*4,u4⟩=M (g! b! zs[j].d)/\W.cell? ⟨b,off+j*4+1,u4⟩=M (g! b! zs[j].m)/\W.cell? ⟨b,off+j*4+2,u4⟩=M (g! b! zs[j].k)/\W.cell? ⟨b,off+j*4+3,u4⟩=M (g! b! zs[j].c)
theorem OkL.below{B:a33}(h:Below n₀ A B) {a:Option Addr}{zs:List P4}:OkL n₀ A a zs->OkL n₀ B a zs
 |.inl e=>.inl e
 |.inr ⟨b,off,e,hb,hc⟩=>.inr ⟨b,off,e,hb,λj hj=>⟨(h.cell (p:=⟨b,off+j*4,u4⟩) hb).trans (hc j hj).1,(h.cell (p:=⟨b,off+j*4+1,u4⟩) hb).trans (hc j hj).2.1,(h.cell (p:=⟨b,off+j*4+2,u4⟩) hb).trans (hc j hj).2.2.1,(h.cell (p:=⟨b,off+j*4+3,u4⟩) hb).trans (hc j hj).2.2.2⟩⟩
theorem ax5{W:a33}{a:Addr}{v:Value}(o:Obj) (h:W.cell? a=M v):(W.alloc o).cell? a=M v:=cell_kept h (World.grownBy_alloc W o u4) (λr e=>by cases e)
def VT(n₀ Bk:Nat) (kk:Int) (W W':a33):Prop:=Below n₀ W W'/\(Boxed W Bk 3 (g! b! kk)->Boxed W' Bk 3 (g! b! kk))
def VT.t{B C:a33}(h:VT n₀ Bk kk A B) (k:VT n₀ Bk kk B C):VT n₀ Bk kk A C:=⟨h.1.trans k.1,λx=>k.2 (h.2 x)⟩
theorem VT.b{w:a33}(hn:n₀<=w.heap.size) (W:a33) (l:Nat) (o o':Obj) (hl:w.heap.size<=l) (ho:W.heap[l]?=M o) (hc:o.isCells=false) (hw:o.isWalk=false):VT n₀ Bk kk W (W.putObj l o'):=
 ⟨belowK_b hn W l o o' hl ho hc hw,λh=>h.kept (grownBy_putObj' W l o') (λe=>by cases e;rw[show W.heap[Bk]?=_ from h]at ho;cases ho;cases hc)⟩
theorem VT.refl{n₀ Bk:Nat}{kk:Int}(W:a33):VT n₀ Bk kk W W:=⟨Below.refl _ _,id⟩
def Hx(W:a33) (B:Nat) (p:P4):Prop:=W.heap[B]?=M (.cells #[g! b! p.d,g! b! p.m,g! b! p.k,g! b! p.c] 79 (0,0))
def Hx.new(W:a33) (p:P4):Hx (W.alloc (.cells #[g! b! p.d,g! b! p.m,g! b! p.k,g! b! p.c] 79)) W.heap.size p:=World.alloc_heap_new W _
theorem Hx.lt{W:a33}(h:Hx W B p):B<W.heap.size:=(hah.1 h).1
def Hx.kept{W:a33}{row:Option Nat}(h:Hx W B p) (hg:W.grownBy W' row) (hne:M B≠row):Hx W' B p:=(hg.block B h.lt hne).trans h
theorem Hx.c0{W:a33}(h:Hx W B p):W.cell? ⟨B,0,u4⟩=M (g! b! p.d):=by simp[World.cell?,show W.heap[B]?=_ from h]
theorem Hx.c1{W:a33}(h:Hx W B p):W.cell? ⟨B,1,u4⟩=M (g! b! p.m):=by simp[World.cell?,show W.heap[B]?=_ from h]
theorem Hx.c2{W:a33}(h:Hx W B p):W.cell? ⟨B,2,u4⟩=M (g! b! p.k):=by simp[World.cell?,show W.heap[B]?=_ from h]
theorem Hx.c3{W:a33}(h:Hx W B p):W.cell? ⟨B,3,u4⟩=M (g! b! p.c):=by simp[World.cell?,show W.heap[B]?=_ from h]
theorem JR(B:Nat) (p:P4):Own (λ(_:β) W=>Hx W B p):=λs X Y row hs hg hrow=>
 hs.kept hg (λe'=>by obtain⟨o,ho,hc⟩:=hrow B e'.symm;rw[show X.heap[B]?=_ from hs]at ho;cases ho;cases hc)
def I6(k:Int) (zs:List P4):List P4:=zs.filter λp=>p.k==k
set_option maxRecDepth 100000 in
set_option maxHeartbeats 4000000 in
theorem PV(F:Fence) (n:Nat) (h7:F.fn 149) (hro:F.round=u4) (hn:1<=n) (l Bs Bk n₀ b off len cap:Nat) (kk:Int) (zs:List P4) (W:a33) (hl:zs.length=len) (hreach:len*32<=140737488351232) (hb:b<n₀) (hn₀:n₀<=W.heap.size) (o4 Jx:List P4->a33->Prop)
 (hJ:∀s W1 (o:Obj),o4 s W1->o4 s (W1.alloc o))
 (hY:∀pre x W,o4 pre W->pre.length<len->YieldAt F (n-1) al l #[P4.v x] W λe W'=>
  (e=.returned (.bool true)/\o4 (pre++[x]) W'/\VT n₀ Bk kk W W')\/(e=.returned (.bool false)/\Jx (pre++[x]) W'))
 (hBs:W.cell? ⟨Bs,0,u4⟩=M (.slice (M ⟨b,off,u4⟩) len cap)) (hBk:Boxed W Bk 3 (g! b! kk)) (hc:∀j (h:j<zs.length),W.cell? ⟨b,off+j*4,u4⟩=M (g! b! zs[j].d)/\W.cell? ⟨b,off+j*4+1,u4⟩=M (g! b! zs[j].m)/\W.cell? ⟨b,off+j*4+2,u4⟩=M (g! b! zs[j].k)/\W.cell? ⟨b,off+j*4+3,u4⟩=M (g! b! zs[j].c)) (h0:o4 [] W) :
 CallsIn F n al 149 #[.func (.yield l) #[] #[],.pointer (M ⟨Bs,0,u4⟩),.pointer (M ⟨Bk,0,u4⟩)] W λe W'=>(∃v,e=.returned v)/\
  ((∃ys,ys=I6 kk zs/\o4 ys W')\/(∃pre,True/\Jx pre W')):=by
 refine callsIn_of_wp Tryz.func149 rfl h7 ?_ hro;simp only[Tryz.ntmps149,Gag,w!,A?,l?,n!,qah,rah,Nah,wah,G?,B']
 gi_wp2
 gi_loopw [8] (λi wr=>∃k:Nat,k<=len/\i=g! b! k/\o4 (I6 kk (zs.take k)) wr/\Below n₀ W wr/\Boxed wr Bk 3 (g! b! kk))
  (λi _=>len-(intOf i).toNat)
 case atStart=>exact⟨0,Nat.zero_le _,rfl,h0,Below.refl _ _,hBk⟩
 case round=>
  obtain⟨k,hk,rfl,hJs,hnx,hbk⟩:=hrel;have hkc:wr.cell? ⟨Bk,0,u4⟩=M (g! b! kk):=hbk.cell;by_cases hlt:k<len
  .obtain⟨c0,c1,c2,c3⟩:=hc k U
   replace c0:=(hnx.cell (p:=⟨b,off+k*4,u4⟩) hb).trans c0
   replace c1:=(hnx.cell (p:=⟨b,off+k*4+1,u4⟩) hb).trans c1
   replace c2:=(hnx.cell (p:=⟨b,off+k*4+2,u4⟩) hb).trans c2
   replace c3:=(hnx.cell (p:=⟨b,off+k*4+3,u4⟩) hb).trans c3
   have hk2:(wr.alloc (.cells #[g! b! zs[k].d,g! b! zs[k].m,g! b! zs[k].k,g! b! zs[k].c] 79)).cell? ⟨Bk,0,u4⟩=M (g! b! kk):=ax5 _ hkc;have hBl:Below n₀ wr (wr.alloc (.cells #[g! b! zs[k].d,g! b! zs[k].m,g! b! zs[k].k,g! b! zs[k].c] 79)):=(Below.refl n₀ wr).alloc (Lag hn₀ hnx.size) _;have hJ2:o4 (I6 kk (zs.take k)) (wr.alloc (.cells #[g! b! zs[k].d,g! b! zs[k].m,g! b! zs[k].k,g! b! zs[k].c] 79)):=hJ _ _ _ hJs;have htk:I6 kk (zs.take (k+1))=I6 kk (zs.take k)++(if zs[k].k==kk then [zs[k]]else []):=by
    rw[List.take_add_one,List.getElem?_eq_getElem U];simp only[I6,List.filter_append,Option.toList_some,List.filter_cons,List.filter_nil]
   by_cases he:zs[k].k=kk
   .have he':(zs[k].k==kk)=true:=by simpa using he
    rw[J he']at htk;obtain⟨fn,tmps,assign,body,hy,hR⟩:=hY _ zs[k] _ hJ2 (Nat.lt_of_le_of_lt (List.length_filter_le _ _) aaQ);simp only[P4.v]at hy;clear he
    gi_wp2
    refine hR.mono ?_;rintro e W3 (⟨rfl,hJ3,hk3⟩|⟨rfl,hJx3⟩)
    .gi_wp2
     go_roundw
     case rel=>exact⟨k+1,U,p6,by rw[htk];exact hJ3,(hnx.trans hBl).trans hk3.1,hk3.2 (hbk.alloc _)⟩
     case measure=>simp[intOf];omega
    .gi_wp2
     refine bodyPost_ret (results_none rfl _ _ _) rfl ?_;exact⟨⟨_,rfl⟩,.inr ⟨_,trivial,hJx3⟩⟩
   .have he':(zs[k].k==kk)=false:=by simpa using he
    rw[he',s7 p6,List.append_nil]at htk
    gi_wp2
    refine⟨λ_ h=>(by cases h),?_⟩
    gi_wp2
    exact⟨⟨k+1,U,p6,by rw[htk];exact hJ2,hnx.trans hBl,hbk.alloc _⟩,by simp[intOf];omega⟩
  .obtain rfl:k=len:=U
   gi_wp2
   go_end0
   exact⟨⟨_,rfl⟩,.inl ⟨_,rfl,by rw[←hl,List.take_length]at hJs;exact hJs⟩⟩
set_option maxRecDepth 100000 in
set_option maxHeartbeats 1000000 in
theorem ZJ(F:Fence) (n:Nat) (h7:F.fn 149) (hro:F.round=u4) (l Bs Bk:Nat) (a:Option Addr) (cap:Nat) (o4:List P4->a33->Prop) (W:a33) (hBs:W.cell? ⟨Bs,0,u4⟩=M (.slice a 0 cap)) (h0:o4 [] W) :
 CallsIn F n al 149 #[.func (.yield l) #[] #[],.pointer (M ⟨Bs,0,u4⟩),.pointer (M ⟨Bk,0,u4⟩)] W λe W'=>(∃v,e=.returned v)/\o4 [] W':=by
 refine callsIn_of_wp Tryz.func149 rfl h7 ?_ hro;simp only[Tryz.ntmps149,Gag,w!,A?,l?,n!,qah,rah,Nah,wah,G?,B']
 gi_wp2
 gi_loopw [8] (λi wr=>i=g! b! 0/\o4 [] wr) (λ_ _=>0)
 case atStart=>exact⟨rfl,h0⟩
 case round=>
  obtain⟨rfl,hJs⟩:=hrel
  gi_wp2
  go_end0
  exact⟨⟨_,rfl⟩,hJs⟩
theorem xE(F:Fence) (n:Nat) (h7:F.fn 149) (hro:F.round=u4) (hn:1<=n) (Bs Bk n₀:Nat) (a:Option Addr) (cap:Nat) (kk:Int) (zs:List P4) (hreach:zs.length*32<=140737488351232) (w:a33) (hBs:Bs<w.heap.size) (hn₀:n₀<=w.heap.size)
 (hc:w.cell? ⟨Bs,0,u4⟩=M (.slice a zs.length cap)) (hck:Boxed w Bk 3 (g! b! kk)) (hI:OkL n₀ w a zs) :
 SeqStopsK F n al 149 #[.pointer (M ⟨Bs,0,u4⟩),.pointer (M ⟨Bk,0,u4⟩)] (λx:P4=>#[P4.v x]) (VT n₀ Bk kk) (λys=>ys=I6 kk zs) (λ_=>True) zs.length w:=λl o4 Jx W hW hJ _ hY h0=>by
 have hc':=(hW.cell (p:=⟨Bs,0,u4⟩) hBs).trans hc;have hck':Boxed W Bk 3 (g! b! kk):=(hW.block Bk hck.lt).trans hck;rcases hI.below (hW.mono hn₀)with rfl|⟨b,off,rfl,hb,hcs⟩
 .exact(ZJ F n h7 hro l Bs Bk a cap o4 W hc' h0).mono λe W' ⟨he,hj⟩=>⟨he,.inl ⟨_,rfl,hj⟩⟩
 .refine(PV F n h7 hro hn l Bs Bk n₀ b off zs.length cap kk zs W rfl hreach hb (Lag hn₀ hW.size) o4 Jx (λs W1 o h=>hJ _ _ _ u4 h (World.grownBy_alloc _ _ u4) (λr e=>by cases e)) hY hc' hck' hcs h0)
def dL(m:Int) (s:Int) (p:P4):Int:=if p.m==m then wrap64 (s+p.c)else s
set_option maxRecDepth 100000 in
set_option maxHeartbeats 4000000 in
theorem XZ(F:Fence) (n:Nat) (h3:F.fn 92) (h4:F.fn 124) (h5:F.fn 149) (hro:F.round=u4) (hn:6<=n) (a:Option Addr) (len cap:Nat) (m:Int) (zs:List P4) (hl:zs.length=len) (hreach:zs.length*32<=140737488351232) (w:a33) (hI:OkL w.heap.size w a zs) :
 CallsIn F n al 92 #[.slice a len cap,g! b! m] w λe W'=>e=.returned (g! b! ((I6 4 zs).foldl (dL m) 0))/\Below w.heap.size w W':=by
 have h1:1<=n:=U
 subst hl;refine callsIn_of_wp_marks Tryz.func92 rfl h3 ?_ hro;simp only[Tryz.ntmps92,Gag,w!,A?,l?,n!,qah,rah,Nah,wah,G?,B']
 gi_wp2_with (gi_at_call 124;refine(rN F (n-1) h4 hro _ _ _ _ _).mono ?_;rintro e w' ⟨rfl,rfl⟩)
 have bM:=(((Boxed.new w 3 (g! b! m)).alloc (.cells #[g! b! 0] 3)).alloc (.cells #[.slice a zs.length cap] 68)).alloc (.cells #[g! b! 4] 3);have bS:=((Boxed.new (w.alloc (.cells #[g! b! m] 3)) 3 (g! b! 0)).alloc (.cells #[.slice a zs.length cap] 68)).alloc (.cells #[g! b! 4] 3);have bA:=(Boxed.new ((w.alloc (.cells #[g! b! m] 3)).alloc (.cells #[g! b! 0] 3)) 68 (.slice a zs.length cap)).alloc (.cells #[g! b! 4] 3);have bK:=Boxed.new (((w.alloc (.cells #[g! b! m] 3)).alloc (.cells #[g! b! 0] 3)).alloc (.cells #[.slice a zs.length cap] 68)) 3 (g! b! 4);simp only[World.size_alloc]at bS bA bK;have hB0:Below w.heap.size w ((((w.alloc (.cells #[g! b! m] 3)).alloc (.cells #[g! b! 0] 3)).alloc (.cells #[.slice a zs.length cap] 68)).alloc (.cells #[g! b! 4] 3)):=((((Below.refl _ w).alloc (A' _) _).alloc p6 _).alloc aaQ _).alloc aaQ _;have hsz:((((w.alloc (.cells #[g! b! m] 3)).alloc (.cells #[g! b! 0] 3)).alloc (.cells #[.slice a zs.length cap] 68)).alloc (.cells #[g! b! 4] 3)).heap.size=w.heap.size+4:=p6
 obtain⟨W0,hW0⟩:∃W0,(((w.alloc (.cells #[g! b! m] 3)).alloc (.cells #[g! b! 0] 3)).alloc (.cells #[.slice a zs.length cap] 68)).alloc (.cells #[g! b! 4] 3)=W0:=⟨_,rfl⟩;rw[hW0]at bM bS bA bK hB0 hsz⊢;clear hW0;refine wpIn_rangeFunc_ownH hro h1 (gf:=149) (lb:=#[.pointer (M ⟨w.heap.size+1+1,0,u4⟩),.pointer (M ⟨w.heap.size+1+1+1,0,u4⟩)]) rfl h5 (enters_of Tryz.func149 aaK rfl)
  (xE F (n-1) h5 hro U (w.heap.size+1+1) (w.heap.size+1+1+1) w.heap.size a cap 4 zs hreach W0 U U bA.cell bK (hI.below hB0)) VT.t (VT.b U) (Below.refl _ _) (λ_=>rfl)
  (λpre W=>(Boxed W (w.heap.size+1) 3 (g! b! (pre.foldl (dL m) 0))/\Boxed W w.heap.size 3 (g! b! m))/\Below w.heap.size w W)
  (λ_ _ _=>False)
  (OwnFrom.and (OwnFrom.and (Own.from (boxed_own _ _ _) _) (Own.from (boxed_own _ _ _) _)) (ownFrom_below (A' _) U))
  (λ_ _ _ _ _ hs _ _=>hs)
  ⟨⟨bS,bM⟩,hB0⟩
  (λx a' W=>∃Bx,w.heap.size+1<Bx/\Hx W Bx x/\a'={ tmps:=#[.slice a zs.length cap,g! b! m,undef,.pointer (M ⟨w.heap.size,0,u4⟩),g! b! 0,.pointer (M ⟨w.heap.size+1,0,u4⟩),.pointer (M ⟨Bx,0,u4⟩),.slice a zs.length cap,.func (.func 149) #[] #[.pointer (M ⟨w.heap.size+1+1,0,u4⟩),.pointer (M ⟨w.heap.size+1+1+1,0,u4⟩)],P4.v x,undef,undef,undef,undef,undef,undef,undef,undef,undef],defers:=[] })
  (λx a' _ X Y row hs hg hr=>by obtain⟨Bx,h1,h2,h3⟩:=hs;exact⟨Bx,h1,JR Bx x () X Y row h2 hg (λr e=>(hr r e).2),h3⟩)
  ?assign ?body ?done ?stop
 case assign=>
  rintro l pre x W K ⟨⟨bS1,bM1⟩,hB1⟩ hK;simp only[P4.v]
  gi_wp2
  exact hK _ _ ((KeepsOthers.alloc _ _).from _) ⟨(Below.refl _ W).alloc hB1.size _,λh=>h.alloc _⟩ ⟨⟨bS1.alloc _,bM1.alloc _⟩,hB1.alloc hB1.size _⟩ ⟨W.heap.size,bS1.lt,Hx.new W x,rfl⟩
 case body=>
  rintro l pre x a' W hl ⟨r,hr⟩ ⟨⟨bS1,bM1⟩,hB1⟩ ⟨Bx,hBx,bX,rfl⟩ hlt;have cM:=bM1.cell;have cS:=bS1.cell;have fS:=bS1.frozen;have c1:=bX.c1;have c3:=bX.c3
  gi_wp2
  .have hx:(x.m==m)=true:=by assumption
   exact⟨(KeepsOthers.setCell _ _ _).from _,⟨(Below.refl _ W).setCell (p:=⟨w.heap.size+1,0,u4⟩) p6 _,λh=>h.other U _⟩,
    ⟨⟨by rw[uah,Yaf,fai,dL,J hx];exact bS1.set _,bM1.other U _⟩,hB1.setCell (p:=⟨w.heap.size+1,0,u4⟩) p6 _⟩⟩
  .have hx:(x.m==m)=false:=by assumption
   exact⟨KeepsFrom.refl _ _,VT.refl _,⟨⟨by rw[uah,Yaf,fai,dL,s7 (by rw[hx];exact naj)];exact bS1,bM1⟩,hB1⟩⟩
 case done=>
  rintro D ys W hD rfl ⟨⟨bS1,bM1⟩,hB1⟩ hK;have cS:=bS1.cell
  gi_wp2
  refine⟨p6,.inl ⟨_,_,rfl,run_takeDeferred hK,?_⟩⟩;exact⟨_,results_tmp rfl _ _ _,rfl,hB1.trans (belowK_b (w:=w) (A' _) W D _ _ U hK rfl rfl)⟩
 case stop=>
  rintro D c pre W _ _ h _;exact h.elim
def ES(m:Int) (s:Int) (p:P4):Int:=if p.m==m then wrap64 (s+ED p)else s
def cG(m:Int) (zs:List P4) (ks:List Int):Int:=ks.foldl (λs k=>(I6 k zs).foldl (ES m) s) 0
def bl3(D:Nat):Deferred:={ target:=.collected D,args:=#[] }
def MK(ds:List Nat) (W:a33):Prop:=∀D∈ds,W.heap[D]?=M (.deferred (M []))
theorem MK.lt{ds:List Nat}{W:a33}(h:MK ds W):∀D∈ds,D<W.heap.size:=λD hD=>(hah.1 (h D hD)).1
theorem MK.own(ds:List Nat) (hB:∀D∈ds,D<B) :OwnFrom B (λ(_:β) W=>MK ds W):=λs X Y row hs hg hr D hD=>
 (hg.block D (hs.lt D hD) (λe=>by have:=(hr D e.symm).1;have:=hB D hD;omega)).trans (hs D hD)
def MK.others{ds:List Nat}{W:a33}(h:MK ds W) (k:KeepsOthers W W'):MK ds W':=λD hD=>k.same D _ (h D hD) rfl
theorem aT7(W:a33) (j k:Int) (h:(j=0/\k=1)\/(j=1/\k=2)\/(j=2/\k=3)):Sem.run al (Instr.index 241 (.agg #[g! b! 1,g! b! 2,g! b! 3]) (g! b! j)) W=.ok (g! b! k) W:=by
 rcases h with⟨rfl,rfl⟩|⟨rfl,rfl⟩|⟨rfl,rfl⟩<;>simp[Instr.index,go_sem]
theorem nE{F:Fence}{n:Nat}{P:Program}{fn:Func}{tmps:Array Value}{R:Ending->a33->Prop}(w:a33):∀(ds:List Nat) (W:a33),ds.Nodup->(∀D∈ds,w.heap.size<=D)->MK ds W->
 (∀W',Below w.heap.size W W'->LeavesInM F n P fn tmps R [] .returning W')->LeavesInM F n P fn tmps R (ds.map bl3) .returning W
 |[],W,_,_,_,h=>h W (Below.refl _ _)
 |D::ds,W,hnd,hds,hmk,h=>by
  have hD:=hmk D (Wah ..);have hB:Below w.heap.size W (W.putObj D (.deferred u4)):=belowK_b (w:=w) (A' _) W D _ _ (hds D (Wah ..)) hD rfl rfl;obtain⟨h1,h2⟩:=dah.1 hnd;refine⟨p6,.inl ⟨D,W.putObj D (.deferred u4),rfl,run_takeDeferred hD,nE w ds _ h2 (λD' h'=>hds D' (fah _ h')) (λD' h'=>?_) (λW' hW'=>h W' (hB.trans hW'))⟩⟩;exact(World.putObj_heap_other (λe=>h1 (by first|exact e▸h'|exact e.symm▸h'))).trans (hmk D' (fah _ h'))
set_option maxRecDepth 100000 in
set_option maxHeartbeats 8000000 in
theorem aQ(F:Fence) (n:Nat) (h3:F.fn 91) (h2:F.fn 121) (h4:F.fn 124) (h5:F.fn 149) (hro:F.round=u4) (hn:6<=n) (a:Option Addr) (len cap:Nat) (m:Int) (zs:List P4) (hl:zs.length=len) (hreach:zs.length*32<=140737488351232) (w:a33) (hI:OkL w.heap.size w a zs) :
 CallsIn F n al 91 #[.slice a len cap,g! b! m] w λe W'=>e=.returned (g! b! (cG m zs [1,2,3]))/\Below w.heap.size w W':=by
 have h1:1<=n:=U
 subst hl;refine callsIn_of_wp_marks Tryz.func91 rfl h3 ?_ hro;simp only[Tryz.ntmps91,Gag,w!,A?,l?,n!,qah,rah,Nah,wah,G?,B']
 gi_wp2
 have bM:=(Boxed.new w 3 (g! b! m)).alloc (.cells #[g! b! 0] 3);have bS:=Boxed.new (w.alloc (.cells #[g! b! m] 3)) 3 (g! b! 0);simp only[World.size_alloc]at bS;have hB0:Below w.heap.size w ((w.alloc (.cells #[g! b! m] 3)).alloc (.cells #[g! b! 0] 3)):=((Below.refl _ w).alloc (A' _) _).alloc p6 _;obtain⟨W0,hW0⟩:∃W0,(w.alloc (.cells #[g! b! m] 3)).alloc (.cells #[g! b! 0] 3)=W0:=⟨_,rfl⟩;rw[hW0]at bM bS hB0⊢;clear hW0;refine wpIn_loop (λa' W=>∃(i:Nat) (u7 u8 u11 u12 u13 u14 u15 u16 u25:Value) (ds:List Nat),i<=3/\a'={ tmps:=#[.slice a zs.length cap,g! b! m,undef,.pointer (M ⟨w.heap.size,0,u4⟩),g! b! 0,.pointer (M ⟨w.heap.size+1,0,u4⟩),undef,u7,u8,.agg #[g! b! 1,g! b! 2,g! b! 3],g! b! i,u11,u12,u13,u14,u15,u16,undef,undef,undef,undef,undef,undef,undef,undef,u25,undef],defers:=ds.map bl3 }/\
  ds.Nodup/\(∀D∈ds,w.heap.size<=D)/\MK ds W/\Boxed W (w.heap.size+1) 3 (g! b! (cG m zs (([1,2,3]:List Int).take i)))/\Boxed W w.heap.size 3 (g! b! m)/\Below w.heap.size w W)
  (λa' _=>3-(intOf (a'.tmps.getD 10 undef)).toNat) ?start ?round
 case start=>exact⟨0,_,_,_,_,_,_,_,_,_,[],U,rfl,p6,p6,λD h=>by simp at h,bS,bM,hB0⟩
 case round=>
  rintro a' W ⟨i,u7,u8,u11,u12,u13,u14,u15,u16,u25,ds,hi,rfl,hnd,hds,hmk,bS1,bM1,hB1⟩;by_cases h3:i=3
  .subst h3;have cS:=bS1.cell
   gi_wp2
   exact nE w ds W hnd hds hmk λW' hW'=>⟨_,results_tmp rfl _ _ _,rfl,hB1.trans hW'⟩
  .have hlt3:(i:Int)<3:=U
   have cM:=bM1.cell;have hix:=aT7 W i ((i:Int)+1) U
   gi_wp2_with (gi_at_call 124;refine(rN F (n-1) h4 hro _ _ _ _ _).mono ?_;rintro e w' ⟨rfl,rfl⟩)
   have bA:=(Boxed.new W 68 (.slice a zs.length cap)).alloc (.cells #[g! b! ((i:Int)+1)] 3);have bK:=Boxed.new (W.alloc (.cells #[.slice a zs.length cap] 68)) 3 (g! b! ((i:Int)+1));have bM2:=(bM1.alloc (.cells #[.slice a zs.length cap] 68)).alloc (.cells #[g! b! ((i:Int)+1)] 3);have bS2:=(bS1.alloc (.cells #[.slice a zs.length cap] 68)).alloc (.cells #[g! b! ((i:Int)+1)] 3);have hmk2:=(hmk.others (KeepsOthers.alloc W (.cells #[.slice a zs.length cap] 68))).others (KeepsOthers.alloc _ (.cells #[g! b! ((i:Int)+1)] 3));have hmlt:=hmk2.lt;simp only[World.size_alloc]at bA bK;have hsW:=hB1.size;have hBs:=bS1.lt;have hB2:Below w.heap.size w ((W.alloc (.cells #[.slice a zs.length cap] 68)).alloc (.cells #[g! b! ((i:Int)+1)] 3)):=(hB1.alloc hsW _).alloc aaQ _;have hsz:((W.alloc (.cells #[.slice a zs.length cap] 68)).alloc (.cells #[g! b! ((i:Int)+1)] 3)).heap.size=W.heap.size+2:=p6
   obtain⟨W0,hW0⟩:∃W0,(W.alloc (.cells #[.slice a zs.length cap] 68)).alloc (.cells #[g! b! ((i:Int)+1)] 3)=W0:=⟨_,rfl⟩;rw[hW0]at bM2 bS2 bA bK hB2 hsz hmk2 hmlt⊢;clear hW0;refine wpIn_rangeFunc_ownH hro h1 (gf:=149) (lb:=#[.pointer (M ⟨W.heap.size,0,u4⟩),.pointer (M ⟨W.heap.size+1,0,u4⟩)]) rfl h5 (enters_of Tryz.func149 aaK rfl)
    (xE F (n-1) h5 hro U W.heap.size (W.heap.size+1) w.heap.size a cap ((i:Int)+1) zs hreach W0 U U bA.cell bK (hI.below hB2)) VT.t (VT.b U) (Below.refl _ _) (λ_=>rfl)
    (λpre X=>((Boxed X (w.heap.size+1) 3 (g! b! (pre.foldl (ES m) (cG m zs (([1,2,3]:List Int).take i))))/\Boxed X w.heap.size 3 (g! b! m))/\MK ds X)/\Below w.heap.size w X)
    (λ_ _ _=>False)
    (OwnFrom.and (OwnFrom.and (OwnFrom.and (Own.from (boxed_own _ _ _) _) (Own.from (boxed_own _ _ _) _)) (MK.own ds hmlt)) (ownFrom_below (A' _) U))
    (λ_ _ _ _ _ hs _ _=>hs)
    ⟨⟨⟨bS2,bM2⟩,hmk2⟩,hB2⟩
    (λx a' X=>∃Bx,w.heap.size+1<Bx/\Hx X Bx x/\a'={ tmps:=#[.slice a zs.length cap,g! b! m,undef,.pointer (M ⟨w.heap.size,0,u4⟩),g! b! 0,.pointer (M ⟨w.heap.size+1,0,u4⟩),undef,g! b! ((i:Int)+1),.pointer (M ⟨Bx,0,u4⟩),.agg #[g! b! 1,g! b! 2,g! b! 3],g! b! i,.bool true,g! b! ((i:Int)+1),.slice a zs.length cap,g! b! ((i:Int)+1),.func (.func 149) #[] #[.pointer (M ⟨W.heap.size,0,u4⟩),.pointer (M ⟨W.heap.size+1,0,u4⟩)],P4.v x,undef,undef,undef,undef,undef,undef,undef,undef,u25,undef],defers:=[] })
    (λx a' _ X Y row hs hg hr=>by obtain⟨Bx,h1,h2,h3⟩:=hs;exact⟨Bx,h1,JR Bx x () X Y row h2 hg (λr e=>(hr r e).2),h3⟩)
    ?assign ?body ?done ?stop
   case assign=>
    rintro l pre x X K ⟨⟨⟨bS3,bM3⟩,hmk3⟩,hB3⟩ hK;simp only[P4.v]
    gi_wp2
    exact hK _ _ ((KeepsOthers.alloc _ _).from _) ⟨(Below.refl _ X).alloc hB3.size _,λh=>h.alloc _⟩ ⟨⟨⟨bS3.alloc _,bM3.alloc _⟩,hmk3.others (KeepsOthers.alloc _ _)⟩,hB3.alloc hB3.size _⟩ ⟨X.heap.size,bS3.lt,Hx.new X x,rfl⟩
   case body=>
    rintro l pre x a' X hl ⟨r,hr⟩ ⟨⟨⟨bS3,bM3⟩,hmk3⟩,hB3⟩ ⟨Bx,hBx,bX,rfl⟩ hlt;have cM:=bM3.cell;have cS:=bS3.cell;have fS:=bS3.frozen;have c0:=bX.c0;have c1:=bX.c1;have c2:=bX.c2;have c3:=bX.c3;have h1':1<=n-1-1:=U
    have hmx:Tryz.prog.follows .mixedOrders=true:=aaK
    gi_wp2
    .have hx:(x.m==m)=true:=by assumption
     have bS4:Boxed (X.alloc (.cells #[g! b! x.d,g! b! x.m,g! b! x.k,g! b! x.c] 79)) (w.heap.size+1) 3 _:=bS3.alloc _;have cS4:=bS4.cell;have fS4:=bS4.frozen
     gi_region_with_o (gi_at_call 121;refine(CallsIn.inRound l (B0 F (n-1-1-1) h2 hro x _)).mono ?_;rintro e w' ⟨rfl,rfl⟩)
     all_goals gi_wp2
     all_goals (try go_bits)
     all_goals
      have hk:∀v,KeepsOthers X ((X.alloc (.cells #[g! b! x.d,g! b! x.m,g! b! x.k,g! b! x.c] 79)).setCell ⟨w.heap.size+1,0,u4⟩ v).drew:=λv=>((KeepsOthers.alloc _ _).trans (KeepsOthers.setCell _ _ _)).trans (KeepsOthers.drew _);exact⟨(hk _).from _,⟨(((Below.refl _ X).alloc hB3.size _).setCell (p:=⟨w.heap.size+1,0,u4⟩) p6 _).drew,λh=>(h.alloc _).other U _⟩,
       ⟨⟨⟨by rw[uah,Yaf,fai,ES,J hx];exact bS4.set _,(bM3.alloc _).other U _⟩,hmk3.others (hk _)⟩,((hB3.alloc hB3.size _).setCell (p:=⟨w.heap.size+1,0,u4⟩) p6 _).drew⟩⟩
    .have hx:(x.m==m)=false:=by assumption
     exact⟨KeepsFrom.refl _ _,VT.refl _,⟨⟨⟨by rw[uah,Yaf,fai,ES,s7 (by rw[hx];exact naj)];exact bS3,bM3⟩,hmk3⟩,hB3⟩⟩
   case done=>
    rintro D ys X hD rfl ⟨⟨⟨bS3,bM3⟩,hmk3⟩,hB3⟩ hK
    gi_wp2
    refine⟨⟨i+1,_,_,_,_,_,_,_,_,_,D::ds,U,rfl,dah.2 ⟨λh=>?_,hnd⟩,λD' h'=>?_,λD' h'=>?_,?_,bM3,hB3⟩,by simp[intOf];omega⟩
    .have:=hmlt D h;omega
    .rcases X'.1 h' with rfl|h'
     .omega
     .exact hds D' h'
    .rcases X'.1 h' with rfl|h'
     .exact hK
     .exact hmk3 D' h'
    .have h012:i=0\/i=1\/i=2:=U
     rcases h012 with rfl|rfl|rfl<;>exact bS3
   case stop=>
    rintro D c pre X _ _ h _;exact h.elim
end Led
end Go.Proofs
namespace Go.Tm
open Go.RowKit
theorem DU{G:Gh}{w w':a33}{m:List Ent}(hi:Inv G w m) (hB:Below w.heap.size w w'):Inv G w' m/\Step G w m G w' m:=by
 have hle:Le G w G w':=⟨λ_ h=>h,λb h=>hB.block b (hi.F b h),A' _,λi _=>.inl ⟨rfl,rfl,rfl,rfl,rfl⟩⟩;refine⟨⟨hi.n,λb h=>Nat.lt_of_lt_of_le (hi.F b h) hB.size,λi e hm=>?_,hi.apart,λg d hd=>VRel.mono hle (hi.gl g d hd)⟩,⟨hle,hB.os,hB.tape,hB.output,hB.size,λb h _=>hB.block b h,λb _ h=>.inl h,λb _ h=>h⟩⟩
 cases e with
 |gone=>trivial
 |live S Ca l=>exact Dl.mono hle (hi.ent i _ hm) ⟨rfl,rfl,rfl,rfl,rfl⟩ (λb h=>hB.block b (Dl.lt (hi.ent i _ hm) rfl h).1) (λ_ _ _ h=>h)
 |mp es=>exact Dl.mono hle (hi.ent i _ hm) ⟨rfl,rfl,rfl,rfl,rfl⟩ (λb h=>hB.block b (Dl.lt (hi.ent i _ hm) rfl h).1) (λ_ _ _ h=>h)
theorem uM{P:Program}{k:Nat}{ds:List D}{v:Value}(hE:P' P k) (h:∀(G:Gh) (w:a33) (vs:List Value),(∀b,G.F b->b<w.heap.size)->VsRel G w ds vs->Calls P k vs.toArray w λe w'=>e=.returned v/\Below w.heap.size w w'):k! P k ds (.v v):=by
 refine λm=>⟨hE,λG w vs hv hi=>(h G w vs hi.F hv).mono ?_⟩;rintro e w' ⟨rfl,hB⟩;obtain⟨g1,g2⟩:=DU hi hB;exact⟨_,_,_,G,rfl,⟨rfl,rfl⟩,Q!,g1,g2⟩
end Go.Tm
namespace Go.Proofs.Dev
open Go Go.Tm Go.Proofs.Led
variable {t0:List cb}{t1:Int}
def Cx(x:cb):P4:=⟨x.g,x.d,x.a,x.ae⟩
theorem uN{G:Gh}{w:a33}{b:Nat}:∀{l:List cb}{off:Nat},Va G w b 4 (l.map db) off->∀j (h:j<(l.map Cx).length),w.cell? ⟨b,off+j*4,u4⟩=M (g! b! (l.map Cx)[j].d)/\w.cell? ⟨b,off+j*4+1,u4⟩=M (g! b! (l.map Cx)[j].m)/\w.cell? ⟨b,off+j*4+2,u4⟩=M (g! b! (l.map Cx)[j].k)/\w.cell? ⟨b,off+j*4+3,u4⟩=M (g! b! (l.map Cx)[j].c)
 |[],_,_,j,h=>absurd h p6
 |x::l,off,hr,j,h=>by
  simp only[List.map_cons,Va]at hr;obtain⟨⟨u,h1,h2,h3⟩,h4⟩:=hr;simp only[db,VRel,VsRel]at h1;obtain⟨cs,rfl,⟨_,_,rfl,rfl,_,_,rfl,rfl,_,_,rfl,rfl,_,_,rfl,rfl,rfl⟩,-⟩:=h1
  cases j with
  |zero=>
   have g:=λ(j:Nat) c hc=>(h3 j c hc).2;refine⟨?_,?_,?_,?_⟩
   .simpa [Cx] using g 0 (g! b! x.g) rfl
   .simpa [Cx] using g 1 (g! b! x.d) rfl
   .simpa [Cx] using g 2 (g! b! x.a) rfl
   .simpa [Cx] using g 3 (g! b! x.ae) rfl
  |succ j=>
   have:=uN h4 j (by simpa using h);rw[show off+(j+1)*4=off+4+j*4 by omega];simpa using this
theorem iac{G:Gh}{w:a33}{l:List cb}{u:Value}(hF:∀b,G.F b->b<w.heap.size) (h:VRel G w (Ra l) u):∃a cap,u=.slice a (l.map Cx).length cap/\OkL w.heap.size w a (l.map Cx):=by
 simp only[Ra,VRel]at h;obtain⟨a,n,cap,rfl,rfl,h1,h2⟩:=h;refine⟨a,cap,p6,?_⟩;rcases h2 with h2|⟨b,off,rfl,hb,hr⟩
 .exact .inl (by simpa using h2)
 .exact .inr ⟨b,off,rfl,hF b hb,uN hr⟩
theorem YB(hs:t0.length*32<=140737488351232):k! al 91 [Ra t0,da t1] (da (cG t1 (t0.map Cx) [1,2,3])):=by
 refine uM ⟨_,Tryz.func91,aaK,rfl⟩ λG w vs hF hv=>?_;simp only[VsRel,da,VRel]at hv;obtain⟨u,r,rfl,h1,u2,r2,rfl,rfl,rfl⟩:=hv;obtain⟨a,cap,rfl,h2⟩:=iac hF h1;exact(callsIn_wide (n:=6)).1 (aQ Fence.wide 6 trivial trivial trivial trivial rfl U a _ cap t1 (t0.map Cx) rfl (by simpa using hs) w h2)
theorem qE(hs:t0.length*32<=140737488351232):k! al 92 [Ra t0,da t1] (da ((I6 4 (t0.map Cx)).foldl (dL t1) 0)):=by
 refine uM ⟨_,Tryz.func92,aaK,rfl⟩ λG w vs hF hv=>?_;simp only[VsRel,da,VRel]at hv;obtain⟨u,r,rfl,h1,u2,r2,rfl,rfl,rfl⟩:=hv;obtain⟨a,cap,rfl,h2⟩:=iac hF h1;exact(callsIn_wide (n:=6)).1 (XZ Fence.wide 6 trivial trivial trivial rfl U a _ cap t1 (t0.map Cx) rfl (by simpa using hs) w h2)
open Go Go.Tm Go.Proofs.Led Go.RowKit
theorem WS(k:Int) (l:List cb):I6 k (l.map Cx)=(l.filter λp=>p.a==k).map Cx:=by
 unfold I6;rw[List.filter_map];rfl
theorem jL(n:Int):wrap64 n=aa b! n:=by
 rw[wrap_i64];unfold wrap64;first|rfl|omega
theorem XN(p:cb):ED (Cx p)=vL p:=by
 unfold ED vL;simp only[Cx,jL]
theorem ZV(m:Int) (l:List cb) (ks:List Int):cG m (l.map Cx) ks=mK m l ks:=by
 unfold cG mK;congr 1;funext s k;rw[WS,Naj];congr 1;funext s p;unfold ES;rw[XN,jL];rfl
theorem r7(m:Int) (l:List cb):(I6 4 (l.map Cx)).foldl (dL m) 0=(l.filter λp=>p.a==4).foldl (λs p=>if p.d==m then aa b! (s+p.ae)else s) 0:=by
 rw[WS,Naj];congr 1;funext s p;unfold dL;rw[jL];rfl
theorem Vv{t0 t1 r}(h:Qf t0 t1=M r):k! al 91 [Ra t0,da t1] (da r):=by
 unfold Qf at h;split at h
 .rename_i hl;injection h with h;have:=YB (t0:=t0) (t1:=t1) U;rw[ZV,h]at this;exact this
 .cases h
theorem py{t0 t1 r}(h:Eh t0 t1=M r):k! al 92 [Ra t0,da t1] (da r):=by
 unfold Eh at h;split at h
 .rename_i hl;injection h with h;have:=qE (t0:=t0) (t1:=t1) U;rw[r7,h]at this;exact this
 .cases h
instance {t0 t1 r}:r? (Qf t0 t1=M r) (k! al 91 [Ra t0,da t1] (da r)):=⟨Vv⟩
instance {t0 t1 r}:r? (Eh t0 t1=M r) (k! al 92 [Ra t0,da t1] (da r)):=⟨py⟩
end Go.Proofs.Dev
