/-
  Contracts by hand: the conditions stand in each.
-/
import Derived.RangeFuncNested
import Derived.RangeFuncBound
import Derived.RangeFuncCalls
import Derived.RangeFuncLeaves
import Derived.Shelf.Abstract
import Derived.Shelf.RegionOpen
import Derived.WalkKit
import Derived.OwnWalkIn
import Derived.TacticsInMore
import Derived.LoopNIn
import Derived.LoopIn
import Derived.Test.YtmhfebelfmgckaaGreatDoorK
import Derived.Test.YtmhfebelfmgckaaGreatDoorPE
open Go renaming World->a39
open Option renaming some->M,none->q6
open Decidable renaming decide->s5
open Go.IntKind renaming i64->b!
open Go.Value renaming int->e!
open Go.Proofs.Tryz renaming prog->al
open Array renaming getElem?_eq_some_iff->Lab,replicate_succ->Eab,replicate_zero->Fab
open Bool renaming false_ne_true->sae
open List renaming append_toArray->Iab,cons_append->G!,foldl_append->Sab,foldl_cons->Z',foldl_map->nae,foldl_nil->jac,length_cons->H!,length_nil->L!,mem_cons->Y',mem_cons_of_mem->tac,mem_cons_self->kad,nil_append->N',nodup_cons->yac,push_toArray->Uab,size_toArray->Φ
open Nat renaming le_refl->x?,le_trans->P',reduceAdd->N!,reduceSub->T'
set_option linter.all false
namespace Go.Proofs
open Go.RowKit Go.Shelf
variable {n₀ B Bk:Nat}{A W':a39}{kk:Int}{β:Type}
attribute [local go_sem] Oper.semAt_some
namespace Led
structure P4 where
 d:Int
 m:Int
 k:Int
 c:Int
variable {p:P4}
def P4.v(p:P4):Value:=.agg #[e! b! p.d,e! b! p.m,e! b! p.k,e! b! p.c]
def uF(p:P4):Int:=if p.k=1 then p.c else if p.k=2 then wrap64 (-p.c)else if p.k=3 then wrap64 (-p.c)else 0
set_option maxRecDepth 100000 in
set_option maxHeartbeats 2000000 in
theorem UJ(F:Fence) (n:Nat) (h5:F.fn 141) (hro:F.round=q6) (a:Option Addr) (len cap:Nat) (k:Int) (w:a39) :
 CallsIn F n al 141 #[.slice a len cap,e! b! k] w λe w'=>e=.returned (.func (.func 212) #[] #[.pointer (M ⟨w.heap.size,0,q6⟩),.pointer (M ⟨w.heap.size+1,0,q6⟩)])/\w'=(w.alloc (.cells #[.slice a len cap] 44)).alloc (.cells #[e! b! k] 3):=by
 refine callsIn_of_wp Tryz.func141 rfl h5 ?_ hro;simp only[Tryz.ntmps141,Φ,H!,L!,N!,T',Eab,Fab,Uab,Iab,N',G!]
 gi_wp2
 go_ret
 exact⟨rfl,rfl⟩
set_option maxRecDepth 100000 in
set_option maxHeartbeats 2000000 in
theorem AQ(F:Fence) (n:Nat) (h5:F.fn 143) (hro:F.round=q6) (p:P4) (w:a39) :
 CallsIn F n al 143 #[p.v] w λe w'=>e=.returned (e! b! (uF p))/\w'=w.alloc (.cells #[e! b! p.d,e! b! p.m,e! b! p.k,e! b! p.c] 98):=by
 refine callsIn_of_wp Tryz.func143 rfl h5 ?_ hro;simp only[Tryz.ntmps143,Φ,H!,L!,N!,T',Eab,Fab,Uab,Iab,N',G!,P4.v]
 gi_wp2
 all_goals (go_ret;refine⟨?_,rfl⟩)
 all_goals simp_all[uF]
def OkL(n₀:Nat) (W:a39) (a:Option Addr) (zs:List P4):Prop:=
 zs=[]\/∃b off,a=M ⟨b,off,q6⟩/\b<n₀/\∀j (h:j<zs.length),W.cell? ⟨b,off+j*4,q6⟩=M (e! b! zs[j].d)/\W.cell? ⟨b,off+j*4+1,q6⟩=M (e! b! zs[j].m)/\W.cell? ⟨b,off+j*4+2,q6⟩=M (e! b! zs[j].k)/\W.cell? ⟨b,off+j*4+3,q6⟩=M (e! b! zs[j].c)
theorem OkL.below{B:a39}(h:Below n₀ A B) {a:Option Addr}{zs:List P4}:OkL n₀ A a zs->OkL n₀ B a zs
 |.inl e=>.inl e
 |.inr ⟨b,off,e,hb,hc⟩=>.inr ⟨b,off,e,hb,λj hj=>⟨(h.cell (p:=⟨b,off+j*4,q6⟩) hb).trans (hc j hj).1,(h.cell (p:=⟨b,off+j*4+1,q6⟩) hb).trans (hc j hj).2.1,(h.cell (p:=⟨b,off+j*4+2,q6⟩) hb).trans (hc j hj).2.2.1,(h.cell (p:=⟨b,off+j*4+3,q6⟩) hb).trans (hc j hj).2.2.2⟩⟩
theorem aQ1{W:a39}{a:Addr}{v:Value}(o:Obj) (h:W.cell? a=M v):(W.alloc o).cell? a=M v:=cell_kept h (World.grownBy_alloc W o q6) (λr e=>by cases e)
def SR(n₀ Bk:Nat) (kk:Int) (W W':a39):Prop:=Below n₀ W W'/\(Boxed W Bk 3 (e! b! kk)->Boxed W' Bk 3 (e! b! kk))
def SR.t{B C:a39}(h:SR n₀ Bk kk A B) (k:SR n₀ Bk kk B C):SR n₀ Bk kk A C:=⟨h.1.trans k.1,λx=>k.2 (h.2 x)⟩
theorem SR.b{w:a39}(hn:n₀<=w.heap.size) (W:a39) (l:Nat) (o o':Obj) (hl:w.heap.size<=l) (ho:W.heap[l]?=M o) (hc:o.isCells=false) (hw:o.isWalk=false):SR n₀ Bk kk W (W.putObj l o'):=
 ⟨belowK_b hn W l o o' hl ho hc hw,λh=>h.kept (grownBy_putObj' W l o') (λe=>by cases e;rw[show W.heap[Bk]?=_ from h]at ho;cases ho;cases hc)⟩
theorem SR.refl{n₀ Bk:Nat}{kk:Int}(W:a39):SR n₀ Bk kk W W:=⟨Below.refl _ _,id⟩
def Pz(W:a39) (B:Nat) (p:P4):Prop:=W.heap[B]?=M (.cells #[e! b! p.d,e! b! p.m,e! b! p.k,e! b! p.c] 98 (0,0))
def Pz.new(W:a39) (p:P4):Pz (W.alloc (.cells #[e! b! p.d,e! b! p.m,e! b! p.k,e! b! p.c] 98)) W.heap.size p:=World.alloc_heap_new W _
theorem Pz.lt{W:a39}(h:Pz W B p):B<W.heap.size:=(Lab.1 h).1
def Pz.kept{W:a39}{row:Option Nat}(h:Pz W B p) (hg:W.grownBy W' row) (hne:M B≠row):Pz W' B p:=(hg.block B h.lt hne).trans h
theorem Pz.c0{W:a39}(h:Pz W B p):W.cell? ⟨B,0,q6⟩=M (e! b! p.d):=by simp[World.cell?,show W.heap[B]?=_ from h]
theorem Pz.c1{W:a39}(h:Pz W B p):W.cell? ⟨B,1,q6⟩=M (e! b! p.m):=by simp[World.cell?,show W.heap[B]?=_ from h]
theorem Pz.c2{W:a39}(h:Pz W B p):W.cell? ⟨B,2,q6⟩=M (e! b! p.k):=by simp[World.cell?,show W.heap[B]?=_ from h]
theorem Pz.c3{W:a39}(h:Pz W B p):W.cell? ⟨B,3,q6⟩=M (e! b! p.c):=by simp[World.cell?,show W.heap[B]?=_ from h]
theorem ON(B:Nat) (p:P4):Own (λ(_:β) W=>Pz W B p):=λs X Y row hs hg hrow=>
 hs.kept hg (λe'=>by obtain⟨o,ho,hc⟩:=hrow B e'.symm;rw[show X.heap[B]?=_ from hs]at ho;cases ho;cases hc)
def y5(k:Int) (zs:List P4):List P4:=zs.filter λp=>p.k==k
set_option maxRecDepth 100000 in
set_option maxHeartbeats 4000000 in
theorem XY(F:Fence) (n:Nat) (h7:F.fn 212) (hro:F.round=q6) (hn:1<=n) (l Bs Bk n₀ b off len cap:Nat) (kk:Int) (zs:List P4) (W:a39) (hl:zs.length=len) (hreach:len*32<=140737488351232) (hb:b<n₀) (hn₀:n₀<=W.heap.size) (j8 Jx:List P4->a39->Prop)
 (hJ:∀s W1 (o:Obj),j8 s W1->j8 s (W1.alloc o))
 (hY:∀pre x W,j8 pre W->pre.length<len->YieldAt F (n-1) al l #[P4.v x] W λe W'=>
  (e=.returned (.bool true)/\j8 (pre++[x]) W'/\SR n₀ Bk kk W W')\/(e=.returned (.bool false)/\Jx (pre++[x]) W'))
 (hBs:W.cell? ⟨Bs,0,q6⟩=M (.slice (M ⟨b,off,q6⟩) len cap)) (hBk:Boxed W Bk 3 (e! b! kk)) (hc:∀j (h:j<zs.length),W.cell? ⟨b,off+j*4,q6⟩=M (e! b! zs[j].d)/\W.cell? ⟨b,off+j*4+1,q6⟩=M (e! b! zs[j].m)/\W.cell? ⟨b,off+j*4+2,q6⟩=M (e! b! zs[j].k)/\W.cell? ⟨b,off+j*4+3,q6⟩=M (e! b! zs[j].c)) (h0:j8 [] W) :
 CallsIn F n al 212 #[.func (.yield l) #[] #[],.pointer (M ⟨Bs,0,q6⟩),.pointer (M ⟨Bk,0,q6⟩)] W λe W'=>(∃v,e=.returned v)/\
  ((∃ys,ys=y5 kk zs/\j8 ys W')\/(∃pre,True/\Jx pre W')):=by
 refine callsIn_of_wp Tryz.func212 rfl h7 ?_ hro;simp only[Tryz.ntmps212,Φ,H!,L!,N!,T',Eab,Fab,Uab,Iab,N',G!]
 gi_wp2
 gi_loopw [8] (λi wr=>∃k:Nat,k<=len/\i=e! b! k/\j8 (y5 kk (zs.take k)) wr/\Below n₀ W wr/\Boxed wr Bk 3 (e! b! kk))
  (λi _=>len-(intOf i).toNat)
 case atStart=>exact⟨0,Nat.zero_le _,rfl,h0,Below.refl _ _,hBk⟩
 case round=>
  obtain⟨k,hk,rfl,hJs,hnx,hbk⟩:=hrel;have hkc:wr.cell? ⟨Bk,0,q6⟩=M (e! b! kk):=hbk.cell;by_cases hlt:k<len
  .obtain⟨c0,c1,c2,c3⟩:=hc k U
   replace c0:=(hnx.cell (p:=⟨b,off+k*4,q6⟩) hb).trans c0
   replace c1:=(hnx.cell (p:=⟨b,off+k*4+1,q6⟩) hb).trans c1
   replace c2:=(hnx.cell (p:=⟨b,off+k*4+2,q6⟩) hb).trans c2
   replace c3:=(hnx.cell (p:=⟨b,off+k*4+3,q6⟩) hb).trans c3
   have hk2:(wr.alloc (.cells #[e! b! zs[k].d,e! b! zs[k].m,e! b! zs[k].k,e! b! zs[k].c] 98)).cell? ⟨Bk,0,q6⟩=M (e! b! kk):=aQ1 _ hkc;have hBl:Below n₀ wr (wr.alloc (.cells #[e! b! zs[k].d,e! b! zs[k].m,e! b! zs[k].k,e! b! zs[k].c] 98)):=(Below.refl n₀ wr).alloc (P' hn₀ hnx.size) _;have hJ2:j8 (y5 kk (zs.take k)) (wr.alloc (.cells #[e! b! zs[k].d,e! b! zs[k].m,e! b! zs[k].k,e! b! zs[k].c] 98)):=hJ _ _ _ hJs;have htk:y5 kk (zs.take (k+1))=y5 kk (zs.take k)++(if zs[k].k==kk then [zs[k]]else []):=by
    rw[List.take_add_one,List.getElem?_eq_getElem U];simp only[y5,List.filter_append,Option.toList_some,List.filter_cons,List.filter_nil]
   by_cases he:zs[k].k=kk
   .have he':(zs[k].k==kk)=true:=by simpa using he
    rw[J he']at htk;obtain⟨fn,tmps,assign,body,hy,hR⟩:=hY _ zs[k] _ hJ2 (Nat.lt_of_le_of_lt (List.length_filter_le _ _) aaH);simp only[P4.v]at hy;clear he
    gi_wp2
    refine hR.mono ?_;rintro e W3 (⟨rfl,hJ3,hk3⟩|⟨rfl,hJx3⟩)
    .gi_wp2
     go_roundw
     case rel=>exact⟨k+1,U,l5,by rw[htk];exact hJ3,(hnx.trans hBl).trans hk3.1,hk3.2 (hbk.alloc _)⟩
     case measure=>simp[intOf];omega
    .gi_wp2
     refine bodyPost_ret (results_none rfl _ _ _) rfl ?_;exact⟨⟨_,rfl⟩,.inr ⟨_,trivial,hJx3⟩⟩
   .have he':(zs[k].k==kk)=false:=by simpa using he
    rw[he',p5 l5,List.append_nil]at htk
    gi_wp2
    refine⟨λ_ h=>(by cases h),?_⟩
    gi_wp2
    exact⟨⟨k+1,U,l5,by rw[htk];exact hJ2,hnx.trans hBl,hbk.alloc _⟩,by simp[intOf];omega⟩
  .obtain rfl:k=len:=U
   gi_wp2
   go_end0
   exact⟨⟨_,rfl⟩,.inl ⟨_,rfl,by rw[←hl,List.take_length]at hJs;exact hJs⟩⟩
set_option maxRecDepth 100000 in
set_option maxHeartbeats 1000000 in
theorem iO(F:Fence) (n:Nat) (h7:F.fn 212) (hro:F.round=q6) (l Bs Bk:Nat) (a:Option Addr) (cap:Nat) (j8:List P4->a39->Prop) (W:a39) (hBs:W.cell? ⟨Bs,0,q6⟩=M (.slice a 0 cap)) (h0:j8 [] W) :
 CallsIn F n al 212 #[.func (.yield l) #[] #[],.pointer (M ⟨Bs,0,q6⟩),.pointer (M ⟨Bk,0,q6⟩)] W λe W'=>(∃v,e=.returned v)/\j8 [] W':=by
 refine callsIn_of_wp Tryz.func212 rfl h7 ?_ hro;simp only[Tryz.ntmps212,Φ,H!,L!,N!,T',Eab,Fab,Uab,Iab,N',G!]
 gi_wp2
 gi_loopw [8] (λi wr=>i=e! b! 0/\j8 [] wr) (λ_ _=>0)
 case atStart=>exact⟨rfl,h0⟩
 case round=>
  obtain⟨rfl,hJs⟩:=hrel
  gi_wp2
  go_end0
  exact⟨⟨_,rfl⟩,hJs⟩
theorem jD(F:Fence) (n:Nat) (h7:F.fn 212) (hro:F.round=q6) (hn:1<=n) (Bs Bk n₀:Nat) (a:Option Addr) (cap:Nat) (kk:Int) (zs:List P4) (hreach:zs.length*32<=140737488351232) (w:a39) (hBs:Bs<w.heap.size) (hn₀:n₀<=w.heap.size)
 (hc:w.cell? ⟨Bs,0,q6⟩=M (.slice a zs.length cap)) (hck:Boxed w Bk 3 (e! b! kk)) (hI:OkL n₀ w a zs) :
 SeqStopsK F n al 212 #[.pointer (M ⟨Bs,0,q6⟩),.pointer (M ⟨Bk,0,q6⟩)] (λx:P4=>#[P4.v x]) (SR n₀ Bk kk) (λys=>ys=y5 kk zs) (λ_=>True) zs.length w:=λl j8 Jx W hW hJ _ hY h0=>by
 have hc':=(hW.cell (p:=⟨Bs,0,q6⟩) hBs).trans hc;have hck':Boxed W Bk 3 (e! b! kk):=(hW.block Bk hck.lt).trans hck;rcases hI.below (hW.mono hn₀)with rfl|⟨b,off,rfl,hb,hcs⟩
 .exact(iO F n h7 hro l Bs Bk a cap j8 W hc' h0).mono λe W' ⟨he,hj⟩=>⟨he,.inl ⟨_,rfl,hj⟩⟩
 .refine(XY F n h7 hro hn l Bs Bk n₀ b off zs.length cap kk zs W rfl hreach hb (P' hn₀ hW.size) j8 Jx (λs W1 o h=>hJ _ _ _ q6 h (World.grownBy_alloc _ _ q6) (λr e=>by cases e)) hY hc' hck' hcs h0)
def wP(m:Int) (s:Int) (p:P4):Int:=if p.m==m then wrap64 (s+p.c)else s
set_option maxRecDepth 100000 in
set_option maxHeartbeats 4000000 in
theorem n6(F:Fence) (n:Nat) (h3:F.fn 104) (h4:F.fn 141) (h5:F.fn 212) (hro:F.round=q6) (hn:6<=n) (a:Option Addr) (len cap:Nat) (m:Int) (zs:List P4) (hl:zs.length=len) (hreach:zs.length*32<=140737488351232) (w:a39) (hI:OkL w.heap.size w a zs) :
 CallsIn F n al 104 #[.slice a len cap,e! b! m] w λe W'=>e=.returned (e! b! ((y5 4 zs).foldl (wP m) 0))/\Below w.heap.size w W':=by
 have h1:1<=n:=U
 subst hl;refine callsIn_of_wp_marks Tryz.func104 rfl h3 ?_ hro;simp only[Tryz.ntmps104,Φ,H!,L!,N!,T',Eab,Fab,Uab,Iab,N',G!]
 gi_wp2_with (gi_at_call 141;refine(UJ F (n-1) h4 hro _ _ _ _ _).mono ?_;rintro e w' ⟨rfl,rfl⟩)
 have bM:=(((Boxed.new w 3 (e! b! m)).alloc (.cells #[e! b! 0] 3)).alloc (.cells #[.slice a zs.length cap] 44)).alloc (.cells #[e! b! 4] 3);have bS:=((Boxed.new (w.alloc (.cells #[e! b! m] 3)) 3 (e! b! 0)).alloc (.cells #[.slice a zs.length cap] 44)).alloc (.cells #[e! b! 4] 3);have bA:=(Boxed.new ((w.alloc (.cells #[e! b! m] 3)).alloc (.cells #[e! b! 0] 3)) 44 (.slice a zs.length cap)).alloc (.cells #[e! b! 4] 3);have bK:=Boxed.new (((w.alloc (.cells #[e! b! m] 3)).alloc (.cells #[e! b! 0] 3)).alloc (.cells #[.slice a zs.length cap] 44)) 3 (e! b! 4);simp only[World.size_alloc]at bS bA bK;have hB0:Below w.heap.size w ((((w.alloc (.cells #[e! b! m] 3)).alloc (.cells #[e! b! 0] 3)).alloc (.cells #[.slice a zs.length cap] 44)).alloc (.cells #[e! b! 4] 3)):=((((Below.refl _ w).alloc (x? _) _).alloc l5 _).alloc aaH _).alloc aaH _;have hsz:((((w.alloc (.cells #[e! b! m] 3)).alloc (.cells #[e! b! 0] 3)).alloc (.cells #[.slice a zs.length cap] 44)).alloc (.cells #[e! b! 4] 3)).heap.size=w.heap.size+4:=l5
 obtain⟨W0,hW0⟩:∃W0,(((w.alloc (.cells #[e! b! m] 3)).alloc (.cells #[e! b! 0] 3)).alloc (.cells #[.slice a zs.length cap] 44)).alloc (.cells #[e! b! 4] 3)=W0:=⟨_,rfl⟩;rw[hW0]at bM bS bA bK hB0 hsz⊢;clear hW0;refine wpIn_rangeFunc_ownH hro h1 (gf:=212) (lb:=#[.pointer (M ⟨w.heap.size+1+1,0,q6⟩),.pointer (M ⟨w.heap.size+1+1+1,0,q6⟩)]) rfl h5 (enters_of Tryz.func212 U? rfl)
  (jD F (n-1) h5 hro U (w.heap.size+1+1) (w.heap.size+1+1+1) w.heap.size a cap 4 zs hreach W0 U U bA.cell bK (hI.below hB0)) SR.t (SR.b U) (Below.refl _ _) (λ_=>rfl)
  (λpre W=>(Boxed W (w.heap.size+1) 3 (e! b! (pre.foldl (wP m) 0))/\Boxed W w.heap.size 3 (e! b! m))/\Below w.heap.size w W)
  (λ_ _ _=>False)
  (OwnFrom.and (OwnFrom.and (Own.from (boxed_own _ _ _) _) (Own.from (boxed_own _ _ _) _)) (ownFrom_below (x? _) U))
  (λ_ _ _ _ _ hs _ _=>hs)
  ⟨⟨bS,bM⟩,hB0⟩
  (λx a' W=>∃Bx,w.heap.size+1<Bx/\Pz W Bx x/\a'={ tmps:=#[.slice a zs.length cap,e! b! m,undef,.pointer (M ⟨w.heap.size,0,q6⟩),e! b! 0,.pointer (M ⟨w.heap.size+1,0,q6⟩),.pointer (M ⟨Bx,0,q6⟩),.slice a zs.length cap,.func (.func 212) #[] #[.pointer (M ⟨w.heap.size+1+1,0,q6⟩),.pointer (M ⟨w.heap.size+1+1+1,0,q6⟩)],P4.v x,undef,undef,undef,undef,undef,undef,undef,undef,undef],defers:=[] })
  (λx a' _ X Y row hs hg hr=>by obtain⟨Bx,h1,h2,h3⟩:=hs;exact⟨Bx,h1,ON Bx x () X Y row h2 hg (λr e=>(hr r e).2),h3⟩)
  ?assign ?body ?done ?stop
 case assign=>
  rintro l pre x W K ⟨⟨bS1,bM1⟩,hB1⟩ hK;simp only[P4.v]
  gi_wp2
  exact hK _ _ ((KeepsOthers.alloc _ _).from _) ⟨(Below.refl _ W).alloc hB1.size _,λh=>h.alloc _⟩ ⟨⟨bS1.alloc _,bM1.alloc _⟩,hB1.alloc hB1.size _⟩ ⟨W.heap.size,bS1.lt,Pz.new W x,rfl⟩
 case body=>
  rintro l pre x a' W hl ⟨r,hr⟩ ⟨⟨bS1,bM1⟩,hB1⟩ ⟨Bx,hBx,bX,rfl⟩ hlt;have cM:=bM1.cell;have cS:=bS1.cell;have fS:=bS1.frozen;have c1:=bX.c1;have c3:=bX.c3
  gi_wp2
  .have hx:(x.m==m)=true:=by assumption
   exact⟨(KeepsOthers.setCell _ _ _).from _,⟨(Below.refl _ W).setCell (p:=⟨w.heap.size+1,0,q6⟩) l5 _,λh=>h.other U _⟩,
    ⟨⟨by rw[Sab,Z',jac,wP,J hx];exact bS1.set _,bM1.other U _⟩,hB1.setCell (p:=⟨w.heap.size+1,0,q6⟩) l5 _⟩⟩
  .have hx:(x.m==m)=false:=by assumption
   exact⟨KeepsFrom.refl _ _,SR.refl _,⟨⟨by rw[Sab,Z',jac,wP,p5 (by rw[hx];exact sae)];exact bS1,bM1⟩,hB1⟩⟩
 case done=>
  rintro D ys W hD rfl ⟨⟨bS1,bM1⟩,hB1⟩ hK;have cS:=bS1.cell
  gi_wp2
  refine⟨l5,.inl ⟨_,_,rfl,run_takeDeferred hK,?_⟩⟩;exact⟨_,results_tmp rfl _ _ _,rfl,hB1.trans (belowK_b (w:=w) (x? _) W D _ _ U hK rfl rfl)⟩
 case stop=>
  rintro D c pre W _ _ h _;exact h.elim
def iW(m:Int) (s:Int) (p:P4):Int:=if p.m==m then wrap64 (s+uF p)else s
def YJ(m:Int) (zs:List P4) (ks:List Int):Int:=ks.foldl (λs k=>(y5 k zs).foldl (iW m) s) 0
def bh0(D:Nat):Deferred:={ target:=.collected D,args:=#[] }
def MK(ds:List Nat) (W:a39):Prop:=∀D∈ds,W.heap[D]?=M (.deferred (M []))
theorem MK.lt{ds:List Nat}{W:a39}(h:MK ds W):∀D∈ds,D<W.heap.size:=λD hD=>(Lab.1 (h D hD)).1
theorem MK.own(ds:List Nat) (hB:∀D∈ds,D<B) :OwnFrom B (λ(_:β) W=>MK ds W):=λs X Y row hs hg hr D hD=>
 (hg.block D (hs.lt D hD) (λe=>by have:=(hr D e.symm).1;have:=hB D hD;omega)).trans (hs D hD)
def MK.others{ds:List Nat}{W:a39}(h:MK ds W) (k:KeepsOthers W W'):MK ds W':=λD hD=>k.same D _ (h D hD) rfl
theorem ao2(W:a39) (j k:Int) (h:(j=0/\k=1)\/(j=1/\k=2)\/(j=2/\k=3)):Sem.run al (Instr.index 191 (.agg #[e! b! 1,e! b! 2,e! b! 3]) (e! b! j)) W=.ok (e! b! k) W:=by
 rcases h with⟨rfl,rfl⟩|⟨rfl,rfl⟩|⟨rfl,rfl⟩<;>simp[Instr.index,go_sem]
theorem cD{F:Fence}{n:Nat}{P:Program}{fn:Func}{tmps:Array Value}{R:Ending->a39->Prop}(w:a39):∀(ds:List Nat) (W:a39),ds.Nodup->(∀D∈ds,w.heap.size<=D)->MK ds W->
 (∀W',Below w.heap.size W W'->LeavesInM F n P fn tmps R [] .returning W')->LeavesInM F n P fn tmps R (ds.map bh0) .returning W
 |[],W,_,_,_,h=>h W (Below.refl _ _)
 |D::ds,W,hnd,hds,hmk,h=>by
  have hD:=hmk D (kad ..);have hB:Below w.heap.size W (W.putObj D (.deferred q6)):=belowK_b (w:=w) (x? _) W D _ _ (hds D (kad ..)) hD rfl rfl;obtain⟨h1,h2⟩:=yac.1 hnd;refine⟨l5,.inl ⟨D,W.putObj D (.deferred q6),rfl,run_takeDeferred hD,cD w ds _ h2 (λD' h'=>hds D' (tac _ h')) (λD' h'=>?_) (λW' hW'=>h W' (hB.trans hW'))⟩⟩;exact(World.putObj_heap_other (λe=>h1 (by first|exact e▸h'|exact e.symm▸h'))).trans (hmk D' (tac _ h'))
set_option maxRecDepth 100000 in
set_option maxHeartbeats 8000000 in
theorem jU(F:Fence) (n:Nat) (h3:F.fn 103) (h2:F.fn 143) (h4:F.fn 141) (h5:F.fn 212) (hro:F.round=q6) (hn:6<=n) (a:Option Addr) (len cap:Nat) (m:Int) (zs:List P4) (hl:zs.length=len) (hreach:zs.length*32<=140737488351232) (w:a39) (hI:OkL w.heap.size w a zs) :
 CallsIn F n al 103 #[.slice a len cap,e! b! m] w λe W'=>e=.returned (e! b! (YJ m zs [1,2,3]))/\Below w.heap.size w W':=by
 have h1:1<=n:=U
 subst hl;refine callsIn_of_wp_marks Tryz.func103 rfl h3 ?_ hro;simp only[Tryz.ntmps103,Φ,H!,L!,N!,T',Eab,Fab,Uab,Iab,N',G!]
 gi_wp2
 have bM:=(Boxed.new w 3 (e! b! m)).alloc (.cells #[e! b! 0] 3);have bS:=Boxed.new (w.alloc (.cells #[e! b! m] 3)) 3 (e! b! 0);simp only[World.size_alloc]at bS;have hB0:Below w.heap.size w ((w.alloc (.cells #[e! b! m] 3)).alloc (.cells #[e! b! 0] 3)):=((Below.refl _ w).alloc (x? _) _).alloc l5 _;obtain⟨W0,hW0⟩:∃W0,(w.alloc (.cells #[e! b! m] 3)).alloc (.cells #[e! b! 0] 3)=W0:=⟨_,rfl⟩;rw[hW0]at bM bS hB0⊢;clear hW0;refine wpIn_loop (λa' W=>∃(i:Nat) (u7 u8 u11 u12 u13 u14 u15 u16 u25:Value) (ds:List Nat),i<=3/\a'={ tmps:=#[.slice a zs.length cap,e! b! m,undef,.pointer (M ⟨w.heap.size,0,q6⟩),e! b! 0,.pointer (M ⟨w.heap.size+1,0,q6⟩),undef,u7,u8,.agg #[e! b! 1,e! b! 2,e! b! 3],e! b! i,u11,u12,u13,u14,u15,u16,undef,undef,undef,undef,undef,undef,undef,undef,u25,undef],defers:=ds.map bh0 }/\
  ds.Nodup/\(∀D∈ds,w.heap.size<=D)/\MK ds W/\Boxed W (w.heap.size+1) 3 (e! b! (YJ m zs (([1,2,3]:List Int).take i)))/\Boxed W w.heap.size 3 (e! b! m)/\Below w.heap.size w W)
  (λa' _=>3-(intOf (a'.tmps.getD 10 undef)).toNat) ?start ?round
 case start=>exact⟨0,_,_,_,_,_,_,_,_,_,[],U,rfl,l5,l5,λD h=>by simp at h,bS,bM,hB0⟩
 case round=>
  rintro a' W ⟨i,u7,u8,u11,u12,u13,u14,u15,u16,u25,ds,hi,rfl,hnd,hds,hmk,bS1,bM1,hB1⟩;by_cases h3:i=3
  .subst h3;have cS:=bS1.cell
   gi_wp2
   exact cD w ds W hnd hds hmk λW' hW'=>⟨_,results_tmp rfl _ _ _,rfl,hB1.trans hW'⟩
  .have hlt3:(i:Int)<3:=U
   have cM:=bM1.cell;have hix:=ao2 W i ((i:Int)+1) U
   gi_wp2_with (gi_at_call 141;refine(UJ F (n-1) h4 hro _ _ _ _ _).mono ?_;rintro e w' ⟨rfl,rfl⟩)
   have bA:=(Boxed.new W 44 (.slice a zs.length cap)).alloc (.cells #[e! b! ((i:Int)+1)] 3);have bK:=Boxed.new (W.alloc (.cells #[.slice a zs.length cap] 44)) 3 (e! b! ((i:Int)+1));have bM2:=(bM1.alloc (.cells #[.slice a zs.length cap] 44)).alloc (.cells #[e! b! ((i:Int)+1)] 3);have bS2:=(bS1.alloc (.cells #[.slice a zs.length cap] 44)).alloc (.cells #[e! b! ((i:Int)+1)] 3);have hmk2:=(hmk.others (KeepsOthers.alloc W (.cells #[.slice a zs.length cap] 44))).others (KeepsOthers.alloc _ (.cells #[e! b! ((i:Int)+1)] 3));have hmlt:=hmk2.lt;simp only[World.size_alloc]at bA bK;have hsW:=hB1.size;have hBs:=bS1.lt;have hB2:Below w.heap.size w ((W.alloc (.cells #[.slice a zs.length cap] 44)).alloc (.cells #[e! b! ((i:Int)+1)] 3)):=(hB1.alloc hsW _).alloc aaH _;have hsz:((W.alloc (.cells #[.slice a zs.length cap] 44)).alloc (.cells #[e! b! ((i:Int)+1)] 3)).heap.size=W.heap.size+2:=l5
   obtain⟨W0,hW0⟩:∃W0,(W.alloc (.cells #[.slice a zs.length cap] 44)).alloc (.cells #[e! b! ((i:Int)+1)] 3)=W0:=⟨_,rfl⟩;rw[hW0]at bM2 bS2 bA bK hB2 hsz hmk2 hmlt⊢;clear hW0;refine wpIn_rangeFunc_ownH hro h1 (gf:=212) (lb:=#[.pointer (M ⟨W.heap.size,0,q6⟩),.pointer (M ⟨W.heap.size+1,0,q6⟩)]) rfl h5 (enters_of Tryz.func212 U? rfl)
    (jD F (n-1) h5 hro U W.heap.size (W.heap.size+1) w.heap.size a cap ((i:Int)+1) zs hreach W0 U U bA.cell bK (hI.below hB2)) SR.t (SR.b U) (Below.refl _ _) (λ_=>rfl)
    (λpre X=>((Boxed X (w.heap.size+1) 3 (e! b! (pre.foldl (iW m) (YJ m zs (([1,2,3]:List Int).take i))))/\Boxed X w.heap.size 3 (e! b! m))/\MK ds X)/\Below w.heap.size w X)
    (λ_ _ _=>False)
    (OwnFrom.and (OwnFrom.and (OwnFrom.and (Own.from (boxed_own _ _ _) _) (Own.from (boxed_own _ _ _) _)) (MK.own ds hmlt)) (ownFrom_below (x? _) U))
    (λ_ _ _ _ _ hs _ _=>hs)
    ⟨⟨⟨bS2,bM2⟩,hmk2⟩,hB2⟩
    (λx a' X=>∃Bx,w.heap.size+1<Bx/\Pz X Bx x/\a'={ tmps:=#[.slice a zs.length cap,e! b! m,undef,.pointer (M ⟨w.heap.size,0,q6⟩),e! b! 0,.pointer (M ⟨w.heap.size+1,0,q6⟩),undef,e! b! ((i:Int)+1),.pointer (M ⟨Bx,0,q6⟩),.agg #[e! b! 1,e! b! 2,e! b! 3],e! b! i,.bool true,e! b! ((i:Int)+1),.slice a zs.length cap,e! b! ((i:Int)+1),.func (.func 212) #[] #[.pointer (M ⟨W.heap.size,0,q6⟩),.pointer (M ⟨W.heap.size+1,0,q6⟩)],P4.v x,undef,undef,undef,undef,undef,undef,undef,undef,u25,undef],defers:=[] })
    (λx a' _ X Y row hs hg hr=>by obtain⟨Bx,h1,h2,h3⟩:=hs;exact⟨Bx,h1,ON Bx x () X Y row h2 hg (λr e=>(hr r e).2),h3⟩)
    ?assign ?body ?done ?stop
   case assign=>
    rintro l pre x X K ⟨⟨⟨bS3,bM3⟩,hmk3⟩,hB3⟩ hK;simp only[P4.v]
    gi_wp2
    exact hK _ _ ((KeepsOthers.alloc _ _).from _) ⟨(Below.refl _ X).alloc hB3.size _,λh=>h.alloc _⟩ ⟨⟨⟨bS3.alloc _,bM3.alloc _⟩,hmk3.others (KeepsOthers.alloc _ _)⟩,hB3.alloc hB3.size _⟩ ⟨X.heap.size,bS3.lt,Pz.new X x,rfl⟩
   case body=>
    rintro l pre x a' X hl ⟨r,hr⟩ ⟨⟨⟨bS3,bM3⟩,hmk3⟩,hB3⟩ ⟨Bx,hBx,bX,rfl⟩ hlt;have cM:=bM3.cell;have cS:=bS3.cell;have fS:=bS3.frozen;have c0:=bX.c0;have c1:=bX.c1;have c2:=bX.c2;have c3:=bX.c3;have h1':1<=n-1-1:=U
    have hmx:Tryz.prog.follows .mixedOrders=true:=U?
    gi_wp2
    .have hx:(x.m==m)=true:=by assumption
     have bS4:Boxed (X.alloc (.cells #[e! b! x.d,e! b! x.m,e! b! x.k,e! b! x.c] 98)) (w.heap.size+1) 3 _:=bS3.alloc _;have cS4:=bS4.cell;have fS4:=bS4.frozen
     gi_region_with_o (gi_at_call 143;refine(CallsIn.inRound l (AQ F (n-1-1-1) h2 hro x _)).mono ?_;rintro e w' ⟨rfl,rfl⟩)
     all_goals gi_wp2
     all_goals (try go_bits)
     all_goals
      have hk:∀v,KeepsOthers X ((X.alloc (.cells #[e! b! x.d,e! b! x.m,e! b! x.k,e! b! x.c] 98)).setCell ⟨w.heap.size+1,0,q6⟩ v).drew:=λv=>((KeepsOthers.alloc _ _).trans (KeepsOthers.setCell _ _ _)).trans (KeepsOthers.drew _);exact⟨(hk _).from _,⟨(((Below.refl _ X).alloc hB3.size _).setCell (p:=⟨w.heap.size+1,0,q6⟩) l5 _).drew,λh=>(h.alloc _).other U _⟩,
       ⟨⟨⟨by rw[Sab,Z',jac,iW,J hx];exact bS4.set _,(bM3.alloc _).other U _⟩,hmk3.others (hk _)⟩,((hB3.alloc hB3.size _).setCell (p:=⟨w.heap.size+1,0,q6⟩) l5 _).drew⟩⟩
    .have hx:(x.m==m)=false:=by assumption
     exact⟨KeepsFrom.refl _ _,SR.refl _,⟨⟨⟨by rw[Sab,Z',jac,iW,p5 (by rw[hx];exact sae)];exact bS3,bM3⟩,hmk3⟩,hB3⟩⟩
   case done=>
    rintro D ys X hD rfl ⟨⟨⟨bS3,bM3⟩,hmk3⟩,hB3⟩ hK
    gi_wp2
    refine⟨⟨i+1,_,_,_,_,_,_,_,_,_,D::ds,U,rfl,yac.2 ⟨λh=>?_,hnd⟩,λD' h'=>?_,λD' h'=>?_,?_,bM3,hB3⟩,by simp[intOf];omega⟩
    .have:=hmlt D h;omega
    .rcases Y'.1 h' with rfl|h'
     .omega
     .exact hds D' h'
    .rcases Y'.1 h' with rfl|h'
     .exact hK
     .exact hmk3 D' h'
    .have h012:i=0\/i=1\/i=2:=U
     rcases h012 with rfl|rfl|rfl<;>exact bS3
   case stop=>
    rintro D c pre X _ _ h _;exact h.elim
end Led
end Go.Proofs
namespace Go.Tm
open Go.RowKit
theorem XX{G:Gh}{w w':a39}{m:List Ent}(hi:Inv G w m) (hB:Below w.heap.size w w'):Inv G w' m/\Step G w m G w' m:=by
 have hle:Le G w G w':=⟨λ_ h=>h,λb h=>hB.block b (hi.F b h),x? _,λi _=>.inl ⟨rfl,rfl,rfl,rfl,rfl⟩⟩;refine⟨⟨hi.n,λb h=>Nat.lt_of_lt_of_le (hi.F b h) hB.size,λi e hm=>?_,hi.apart,λg d hd=>VRel.mono hle (hi.gl g d hd)⟩,⟨hle,hB.os,hB.tape,hB.output,hB.size,λb h _=>hB.block b h,λb _ h=>.inl h,λb _ h=>h⟩⟩
 cases e with
 |gone=>trivial
 |live S Ta l=>exact Zo.mono hle (hi.ent i _ hm) ⟨rfl,rfl,rfl,rfl,rfl⟩ (λb h=>hB.block b (Zo.lt (hi.ent i _ hm) rfl h).1) (λ_ _ _ h=>h)
 |mp es=>exact Zo.mono hle (hi.ent i _ hm) ⟨rfl,rfl,rfl,rfl,rfl⟩ (λb h=>hB.block b (Zo.lt (hi.ent i _ hm) rfl h).1) (λ_ _ _ h=>h)
theorem uJ{P:Program}{k:Nat}{ds:List D}{v:Value}(hE:I! P k) (h:∀(G:Gh) (w:a39) (vs:List Value),(∀b,G.F b->b<w.heap.size)->VsRel G w ds vs->Calls P k vs.toArray w λe w'=>e=.returned v/\Below w.heap.size w w'):e? P k ds (.v v):=by
 refine λm=>⟨hE,λG w vs hv hi=>(h G w vs hi.F hv).mono ?_⟩;rintro e w' ⟨rfl,hB⟩;obtain⟨g1,g2⟩:=XX hi hB;exact⟨_,_,_,G,rfl,⟨rfl,rfl⟩,J',g1,g2⟩
end Go.Tm
namespace Go.Proofs.Dev
open Go Go.Tm Go.Proofs.Led
variable {t0:List ic}{t1:Int}
def Gz(x:ic):P4:=⟨x.z,x.q,x.a,x.ad⟩
theorem sR{G:Gh}{w:a39}{b:Nat}:∀{l:List ic}{off:Nat},Va G w b 4 (l.map ab) off->∀j (h:j<(l.map Gz).length),w.cell? ⟨b,off+j*4,q6⟩=M (e! b! (l.map Gz)[j].d)/\w.cell? ⟨b,off+j*4+1,q6⟩=M (e! b! (l.map Gz)[j].m)/\w.cell? ⟨b,off+j*4+2,q6⟩=M (e! b! (l.map Gz)[j].k)/\w.cell? ⟨b,off+j*4+3,q6⟩=M (e! b! (l.map Gz)[j].c)
 |[],_,_,j,h=>absurd h l5
 |x::l,off,hr,j,h=>by
  simp only[List.map_cons,Va]at hr;obtain⟨⟨u,h1,h2,h3⟩,h4⟩:=hr;simp only[ab,VRel,VsRel]at h1;obtain⟨cs,rfl,⟨_,_,rfl,rfl,_,_,rfl,rfl,_,_,rfl,rfl,_,_,rfl,rfl,rfl⟩,-⟩:=h1
  cases j with
  |zero=>
   have g:=λ(j:Nat) c hc=>(h3 j c hc).2;refine⟨?_,?_,?_,?_⟩
   .simpa [Gz] using g 0 (e! b! x.z) rfl
   .simpa [Gz] using g 1 (e! b! x.q) rfl
   .simpa [Gz] using g 2 (e! b! x.a) rfl
   .simpa [Gz] using g 3 (e! b! x.ad) rfl
  |succ j=>
   have:=sR h4 j (by simpa using h);rw[show off+(j+1)*4=off+4+j*4 by omega];simpa using this
theorem YY{G:Gh}{w:a39}{l:List ic}{u:Value}(hF:∀b,G.F b->b<w.heap.size) (h:VRel G w (Ha l) u):∃a cap,u=.slice a (l.map Gz).length cap/\OkL w.heap.size w a (l.map Gz):=by
 simp only[Ha,VRel]at h;obtain⟨a,n,cap,rfl,rfl,h1,h2⟩:=h;refine⟨a,cap,l5,?_⟩;rcases h2 with h2|⟨b,off,rfl,hb,hr⟩
 .exact .inl (by simpa using h2)
 .exact .inr ⟨b,off,rfl,hF b hb,sR hr⟩
theorem aG(hs:t0.length*32<=140737488351232):e? al 103 [Ha t0,da t1] (da (YJ t1 (t0.map Gz) [1,2,3])):=by
 refine uJ ⟨_,Tryz.func103,U?,rfl⟩ λG w vs hF hv=>?_;simp only[VsRel,da,VRel]at hv;obtain⟨u,r,rfl,h1,u2,r2,rfl,rfl,rfl⟩:=hv;obtain⟨a,cap,rfl,h2⟩:=YY hF h1;exact(callsIn_wide (n:=6)).1 (jU Fence.wide 6 trivial trivial trivial trivial rfl U a _ cap t1 (t0.map Gz) rfl (by simpa using hs) w h2)
theorem nI(hs:t0.length*32<=140737488351232):e? al 104 [Ha t0,da t1] (da ((y5 4 (t0.map Gz)).foldl (wP t1) 0)):=by
 refine uJ ⟨_,Tryz.func104,U?,rfl⟩ λG w vs hF hv=>?_;simp only[VsRel,da,VRel]at hv;obtain⟨u,r,rfl,h1,u2,r2,rfl,rfl,rfl⟩:=hv;obtain⟨a,cap,rfl,h2⟩:=YY hF h1;exact(callsIn_wide (n:=6)).1 (n6 Fence.wide 6 trivial trivial trivial rfl U a _ cap t1 (t0.map Gz) rfl (by simpa using hs) w h2)
open Go Go.Tm Go.Proofs.Led Go.RowKit
theorem fP(k:Int) (l:List ic):y5 k (l.map Gz)=(l.filter λp=>p.a==k).map Gz:=by
 unfold y5;rw[List.filter_map];rfl
theorem fJ(n:Int):wrap64 n=aa b! n:=by
 rw[wrap_i64];unfold wrap64;first|rfl|omega
theorem GH(p:ic):uF (Gz p)=ND p:=by
 unfold uF ND;simp only[Gz,fJ]
theorem eZ(m:Int) (l:List ic) (ks:List Int):YJ m (l.map Gz) ks=uO m l ks:=by
 unfold YJ uO;congr 1;funext s k;rw[fP,nae];congr 1;funext s p;unfold iW;rw[GH,fJ];rfl
theorem aa0(m:Int) (l:List ic):(y5 4 (l.map Gz)).foldl (wP m) 0=(l.filter λp=>p.a==4).foldl (λs p=>if p.q==m then aa b! (s+p.ad)else s) 0:=by
 rw[fP,nae];congr 1;funext s p;unfold wP;rw[fJ];rfl
theorem Yz{t0 t1 r}(h:Pg t0 t1=M r):e? al 103 [Ha t0,da t1] (da r):=by
 unfold Pg at h;split at h
 .rename_i hl;injection h with h;have:=aG (t0:=t0) (t1:=t1) U;rw[eZ,h]at this;exact this
 .cases h
theorem lC{t0 t1 r}(h:Qj t0 t1=M r):e? al 104 [Ha t0,da t1] (da r):=by
 unfold Qj at h;split at h
 .rename_i hl;injection h with h;have:=nI (t0:=t0) (t1:=t1) U;rw[aa0,h]at this;exact this
 .cases h
instance {t0 t1 r}:o! (Pg t0 t1=M r) (e? al 103 [Ha t0,da t1] (da r)):=⟨Yz⟩
instance {t0 t1 r}:o! (Qj t0 t1=M r) (e? al 104 [Ha t0,da t1] (da r)):=⟨lC⟩
end Go.Proofs.Dev
namespace Go.Proofs
open Go.RowKit Go.Shelf
variable {B:Nat}{f t:Int}
attribute [local go_sem] Oper.semAt_some
namespace Led
set_option maxRecDepth 100000 in
set_option maxHeartbeats 2000000 in
theorem av9(F:Fence) (n:Nat) (h5:F.fn 213) (hro:F.round=q6) (f t:Int) (h:0<=f/\f<=t/\t<=109573) (w:a39) :
 CallsIn F n al 213 #[.agg #[e! b! f,e! b! t]] w λe w'=>e=.returned (.bool true)/\w'=w.alloc (.cells #[e! b! f,e! b! t] 59):=by
 refine callsIn_of_wp Tryz.func213 rfl h5 ?_ hro;simp only[Tryz.ntmps213,Φ,H!,L!,N!,T',Eab,Fab,Uab,Iab,N',G!];obtain⟨h1,h2,h3⟩:=h
 gi_wp2
 go_ret
 exact⟨rfl,rfl⟩
set_option maxRecDepth 100000 in
set_option maxHeartbeats 2000000 in
theorem cU(F:Fence) (n:Nat) (h4:F.fn 142) (h5:F.fn 213) (hro:F.round=q6) (hn:1<=n) (f t d:Int) (h:0<=f/\f<=t/\t<=109573) (w:a39) :
 CallsIn F n al 142 #[.agg #[e! b! f,e! b! t],e! b! d] w λe w'=>e=.returned (.bool (s5 (f<=d)&&s5 (d<t)))/\w'=(w.alloc (.cells #[e! b! f,e! b! t] 59)).alloc (.cells #[e! b! f,e! b! t] 59):=by
 refine callsIn_of_wp Tryz.func142 rfl h4 ?_ hro;simp only[Tryz.ntmps142,Φ,H!,L!,N!,T',Eab,Fab,Uab,Iab,N',G!]
 gi_wp2_with (gi_at_call 213;refine(av9 F (n-1) h5 hro _ _ h _).mono ?_;rintro e w' ⟨rfl,rfl⟩)
 .rename_i hx
  go_ret
  exact⟨by rw[s6 hx,Bool.true_and];rfl,rfl⟩
 .rename_i hx
  go_ret
  exact⟨by rw[u4 (show¬f<=d by omega),Bool.false_and];rfl,rfl⟩
def zU(f t:Int) (s:Int) (p:P4):Int:=if(s5 (f<=p.d)&&s5 (p.d<t))=true then wrap64 (s+uF p)else s
def rJ(f t:Int) (zs:List P4) (ks:List Int):Int:=ks.foldl (λs k=>(y5 k zs).foldl (zU f t) s) 0
def Vt(W:a39) (B:Nat) (f t:Int):Prop:=W.heap[B]?=M (.cells #[e! b! f,e! b! t] 59 (0,0))
def Vt.new(W:a39) (f t:Int):Vt (W.alloc (.cells #[e! b! f,e! b! t] 59)) W.heap.size f t:=World.alloc_heap_new W _
theorem Vt.lt{W:a39}(h:Vt W B f t):B<W.heap.size:=(Lab.1 h).1
def Vt.kept{W W':a39}{row:Option Nat}(h:Vt W B f t) (hg:W.grownBy W' row) (hne:M B≠row):Vt W' B f t:=(hg.block B h.lt hne).trans h
theorem Vt.alloc{W:a39}{B:Nat}{f t:Int}(h:Vt W B f t) (o:Obj):Vt (W.alloc o) B f t:=h.kept (World.grownBy_alloc W o q6) l5
theorem Vt.other{W:a39}{B':Nat}(h:Vt W B f t) (hne:B≠B') (u:Value):Vt (W.setCell ⟨B',0,q6⟩ u) B f t:=h.kept (grownBy_setCell' W B' u) (λe=>hne (by cases e;rfl))
theorem Vt.c0{W:a39}(h:Vt W B f t):W.cell? ⟨B,0,q6⟩=M (e! b! f):=by simp[World.cell?,show W.heap[B]?=_ from h]
theorem Vt.c1{W:a39}(h:Vt W B f t):W.cell? ⟨B,1,q6⟩=M (e! b! t):=by simp[World.cell?,show W.heap[B]?=_ from h]
theorem r8{β:Type}(B:Nat) (f t:Int):Own (λ(_:β) W=>Vt W B f t):=λs X Y row hs hg hrow=>
 hs.kept hg (λe'=>by obtain⟨o,ho,hc⟩:=hrow B e'.symm;rw[show X.heap[B]?=_ from hs]at ho;cases ho;cases hc)
set_option maxRecDepth 100000 in
set_option maxHeartbeats 8000000 in
theorem aT4(F:Fence) (n:Nat) (h3:F.fn 74) (h2:F.fn 143) (h4:F.fn 141) (h5:F.fn 212) (h6:F.fn 142) (h7:F.fn 213) (hro:F.round=q6) (hn:6<=n) (a:Option Addr) (len cap:Nat) (f t:Int) (hft:0<=f/\f<=t/\t<=109573) (zs:List P4) (hl:zs.length=len) (hreach:zs.length*32<=140737488351232) (w:a39) (hI:OkL w.heap.size w a zs) :
 CallsIn F n al 74 #[.slice a len cap,.agg #[e! b! f,e! b! t]] w λe W'=>e=.returned (e! b! (rJ f t zs [1,2,3]))/\Below w.heap.size w W':=by
 have h1:1<=n:=U
 subst hl;refine callsIn_of_wp_marks Tryz.func74 rfl h3 ?_ hro;simp only[Tryz.ntmps74,Φ,H!,L!,N!,T',Eab,Fab,Uab,Iab,N',G!]
 gi_wp2
 have bM:=(Vt.new w f t).alloc (.cells #[e! b! 0] 3);have bS:=Boxed.new (w.alloc (.cells #[e! b! f,e! b! t] 59)) 3 (e! b! 0);simp only[World.size_alloc]at bS;have hB0:Below w.heap.size w ((w.alloc (.cells #[e! b! f,e! b! t] 59)).alloc (.cells #[e! b! 0] 3)):=((Below.refl _ w).alloc (x? _) _).alloc l5 _;obtain⟨W0,hW0⟩:∃W0,(w.alloc (.cells #[e! b! f,e! b! t] 59)).alloc (.cells #[e! b! 0] 3)=W0:=⟨_,rfl⟩;rw[hW0]at bM bS hB0⊢;clear hW0;refine wpIn_loop (λa' W=>∃(i:Nat) (u7 u8 u11 u12 u13 u14 u15 u16 u25:Value) (ds:List Nat),i<=3/\a'={ tmps:=#[.slice a zs.length cap,.agg #[e! b! f,e! b! t],undef,.pointer (M ⟨w.heap.size,0,q6⟩),e! b! 0,.pointer (M ⟨w.heap.size+1,0,q6⟩),undef,u7,u8,.agg #[e! b! 1,e! b! 2,e! b! 3],e! b! i,u11,u12,u13,u14,u15,u16,undef,undef,undef,undef,undef,undef,undef,undef,u25,undef],defers:=ds.map bh0 }/\
  ds.Nodup/\(∀D∈ds,w.heap.size<=D)/\MK ds W/\Boxed W (w.heap.size+1) 3 (e! b! (rJ f t zs (([1,2,3]:List Int).take i)))/\Vt W w.heap.size f t/\Below w.heap.size w W)
  (λa' _=>3-(intOf (a'.tmps.getD 10 undef)).toNat) ?start ?round
 case start=>exact⟨0,_,_,_,_,_,_,_,_,_,[],U,rfl,l5,l5,λD h=>by simp at h,bS,bM,hB0⟩
 case round=>
  rintro a' W ⟨i,u7,u8,u11,u12,u13,u14,u15,u16,u25,ds,hi,rfl,hnd,hds,hmk,bS1,bM1,hB1⟩;by_cases h3:i=3
  .subst h3;have cS:=bS1.cell
   gi_wp2
   exact cD w ds W hnd hds hmk λW' hW'=>⟨_,results_tmp rfl _ _ _,rfl,hB1.trans hW'⟩
  .have hlt3:(i:Int)<3:=U
   have cM:=bM1.c0;have cM1:=bM1.c1;have hix:=ao2 W i ((i:Int)+1) U
   gi_wp2_with (gi_at_call 141;refine(UJ F (n-1) h4 hro _ _ _ _ _).mono ?_;rintro e w' ⟨rfl,rfl⟩)
   have bA:=(Boxed.new W 44 (.slice a zs.length cap)).alloc (.cells #[e! b! ((i:Int)+1)] 3);have bK:=Boxed.new (W.alloc (.cells #[.slice a zs.length cap] 44)) 3 (e! b! ((i:Int)+1));have bM2:=(bM1.alloc (.cells #[.slice a zs.length cap] 44)).alloc (.cells #[e! b! ((i:Int)+1)] 3);have bS2:=(bS1.alloc (.cells #[.slice a zs.length cap] 44)).alloc (.cells #[e! b! ((i:Int)+1)] 3);have hmk2:=(hmk.others (KeepsOthers.alloc W (.cells #[.slice a zs.length cap] 44))).others (KeepsOthers.alloc _ (.cells #[e! b! ((i:Int)+1)] 3));have hmlt:=hmk2.lt;simp only[World.size_alloc]at bA bK;have hsW:=hB1.size;have hBs:=bS1.lt;have hB2:Below w.heap.size w ((W.alloc (.cells #[.slice a zs.length cap] 44)).alloc (.cells #[e! b! ((i:Int)+1)] 3)):=(hB1.alloc hsW _).alloc aaH _;have hsz:((W.alloc (.cells #[.slice a zs.length cap] 44)).alloc (.cells #[e! b! ((i:Int)+1)] 3)).heap.size=W.heap.size+2:=l5
   obtain⟨W0,hW0⟩:∃W0,(W.alloc (.cells #[.slice a zs.length cap] 44)).alloc (.cells #[e! b! ((i:Int)+1)] 3)=W0:=⟨_,rfl⟩;rw[hW0]at bM2 bS2 bA bK hB2 hsz hmk2 hmlt⊢;clear hW0;refine wpIn_rangeFunc_ownH hro h1 (gf:=212) (lb:=#[.pointer (M ⟨W.heap.size,0,q6⟩),.pointer (M ⟨W.heap.size+1,0,q6⟩)]) rfl h5 (enters_of Tryz.func212 U? rfl)
    (jD F (n-1) h5 hro U W.heap.size (W.heap.size+1) w.heap.size a cap ((i:Int)+1) zs hreach W0 U U bA.cell bK (hI.below hB2)) SR.t (SR.b U) (Below.refl _ _) (λ_=>rfl)
    (λpre X=>((Boxed X (w.heap.size+1) 3 (e! b! (pre.foldl (zU f t) (rJ f t zs (([1,2,3]:List Int).take i))))/\Vt X w.heap.size f t)/\MK ds X)/\Below w.heap.size w X)
    (λ_ _ _=>False)
    (OwnFrom.and (OwnFrom.and (OwnFrom.and (Own.from (boxed_own _ _ _) _) (Own.from (r8 _ _ _) _)) (MK.own ds hmlt)) (ownFrom_below (x? _) U))
    (λ_ _ _ _ _ hs _ _=>hs)
    ⟨⟨⟨bS2,bM2⟩,hmk2⟩,hB2⟩
    (λx a' X=>∃Bx,w.heap.size+1<Bx/\Pz X Bx x/\a'={ tmps:=#[.slice a zs.length cap,.agg #[e! b! f,e! b! t],undef,.pointer (M ⟨w.heap.size,0,q6⟩),e! b! 0,.pointer (M ⟨w.heap.size+1,0,q6⟩),undef,e! b! ((i:Int)+1),.pointer (M ⟨Bx,0,q6⟩),.agg #[e! b! 1,e! b! 2,e! b! 3],e! b! i,.bool true,e! b! ((i:Int)+1),.slice a zs.length cap,e! b! ((i:Int)+1),.func (.func 212) #[] #[.pointer (M ⟨W.heap.size,0,q6⟩),.pointer (M ⟨W.heap.size+1,0,q6⟩)],P4.v x,undef,undef,undef,undef,undef,undef,undef,undef,u25,undef],defers:=[] })
    (λx a' _ X Y row hs hg hr=>by obtain⟨Bx,h1,h2,h3⟩:=hs;exact⟨Bx,h1,ON Bx x () X Y row h2 hg (λr e=>(hr r e).2),h3⟩)
    ?assign ?body ?done ?stop
   case assign=>
    rintro l pre x X K ⟨⟨⟨bS3,bM3⟩,hmk3⟩,hB3⟩ hK;simp only[P4.v]
    gi_wp2
    exact hK _ _ ((KeepsOthers.alloc _ _).from _) ⟨(Below.refl _ X).alloc hB3.size _,λh=>h.alloc _⟩ ⟨⟨⟨bS3.alloc _,bM3.alloc _⟩,hmk3.others (KeepsOthers.alloc _ _)⟩,hB3.alloc hB3.size _⟩ ⟨X.heap.size,bS3.lt,Pz.new X x,rfl⟩
   case body=>
    rintro l pre x a' X hl ⟨r,hr⟩ ⟨⟨⟨bS3,bM3⟩,hmk3⟩,hB3⟩ ⟨Bx,hBx,bX,rfl⟩ hlt;have cM:=bM3.c0;have cM1:=bM3.c1;have cS:=bS3.cell;have fS:=bS3.frozen;have c0:=bX.c0;have c1:=bX.c1;have c2:=bX.c2;have c3:=bX.c3;have h1':1<=n-1-1:=U
    have hmx:Tryz.prog.follows .mixedOrders=true:=U?
    have hk0:KeepsOthers X ((X.alloc (.cells #[e! b! f,e! b! t] 59)).alloc (.cells #[e! b! f,e! b! t] 59)):=(KeepsOthers.alloc _ _).trans (KeepsOthers.alloc _ _);have bS5:=(bS3.alloc (.cells #[e! b! f,e! b! t] 59)).alloc (.cells #[e! b! f,e! b! t] 59);have bM5:=(bM3.alloc (.cells #[e! b! f,e! b! t] 59)).alloc (.cells #[e! b! f,e! b! t] 59);have bX5:=Pz.kept (bX.kept (World.grownBy_alloc X (.cells #[e! b! f,e! b! t] 59) q6) l5) (World.grownBy_alloc _ (.cells #[e! b! f,e! b! t] 59) q6) l5;have hmk5:=hmk3.others hk0;have hX1:=hB3.size;have hB5:=(hB3.alloc hX1 (.cells #[e! b! f,e! b! t] 59)).alloc aaH (.cells #[e! b! f,e! b! t] 59);have hkp0:SR w.heap.size (W.heap.size+1) ((i:Int)+1) X ((X.alloc (.cells #[e! b! f,e! b! t] 59)).alloc (.cells #[e! b! f,e! b! t] 59)):=⟨((Below.refl _ X).alloc hX1 _).alloc aaH _,λh=>(h.alloc _).alloc _⟩
    gi_wp2_with (gi_at_call 142;refine(CallsIn.inRound l (cU F (n-1-1-1) h6 h7 hro U f t x.d hft X)).mono ?_;rintro e w' ⟨rfl,rfl⟩)
    .have hx:f<=x.d/\x.d<t:=by assumption
     obtain⟨X2,hX2⟩:∃X2,(X.alloc (.cells #[e! b! f,e! b! t] 59)).alloc (.cells #[e! b! f,e! b! t] 59)=X2:=⟨_,rfl⟩;rw[hX2]at hk0 bS5 bM5 bX5 hmk5 hB5 hkp0⊢;clear cM cM1 cS fS c0 c1 c2 c3 hr;have c0:=bX5.c0;have c1:=bX5.c1;have c2:=bX5.c2;have c3:=bX5.c3;have cS:=bS5.cell;have fS:=bS5.frozen;have bS4:Boxed (X2.alloc (.cells #[e! b! x.d,e! b! x.m,e! b! x.k,e! b! x.c] 98)) (w.heap.size+1) 3 _:=bS5.alloc _;have cS4:=bS4.cell;have fS4:=bS4.frozen
     gi_region_with_o (gi_at_call 143;refine(CallsIn.inRound l (AQ F (n-1-1-1) h2 hro x _)).mono ?_;rintro e w' ⟨rfl,rfl⟩)
     all_goals gi_wp2
     all_goals (try go_bits)
     all_goals
      have hk:∀v,KeepsOthers X2 ((X2.alloc (.cells #[e! b! x.d,e! b! x.m,e! b! x.k,e! b! x.c] 98)).setCell ⟨w.heap.size+1,0,q6⟩ v).drew:=λv=>((KeepsOthers.alloc _ _).trans (KeepsOthers.setCell _ _ _)).trans (KeepsOthers.drew _);exact⟨(hk0.trans (hk _)).from _,hkp0.t ⟨(((Below.refl _ X2).alloc hB5.size _).setCell (p:=⟨w.heap.size+1,0,q6⟩) l5 _).drew,λh=>(h.alloc _).other U _⟩,
       ⟨⟨⟨by rw[Sab,Z',jac,zU,J (by simp[hx])];exact bS4.set _,(bM5.alloc _).other U _⟩,hmk5.others (hk _)⟩,((hB5.alloc hB5.size _).setCell (p:=⟨w.heap.size+1,0,q6⟩) l5 _).drew⟩⟩
    .have hx:x.d<f\/t<=x.d:=by assumption
     exact⟨hk0.from _,hkp0,⟨⟨⟨by rw[Sab,Z',jac,zU,p5 aaH];exact bS5,bM5⟩,hmk5⟩,hB5⟩⟩
   case done=>
    rintro D ys X hD rfl ⟨⟨⟨bS3,bM3⟩,hmk3⟩,hB3⟩ hK
    gi_wp2
    refine⟨⟨i+1,_,_,_,_,_,_,_,_,_,D::ds,U,rfl,yac.2 ⟨λh=>?_,hnd⟩,λD' h'=>?_,λD' h'=>?_,?_,bM3,hB3⟩,by simp[intOf];omega⟩
    .have:=hmlt D h;omega
    .rcases Y'.1 h' with rfl|h'
     .omega
     .exact hds D' h'
    .rcases Y'.1 h' with rfl|h'
     .exact hK
     .exact hmk3 D' h'
    .have h012:i=0\/i=1\/i=2:=U
     rcases h012 with rfl|rfl|rfl<;>exact bS3
   case stop=>
    rintro D c pre X _ _ h _;exact h.elim
end Led
end Go.Proofs
namespace Go.Proofs.Dev
open Go Go.Tm Go.Proofs.Led Go.RowKit
theorem yU(f t:Int) (l:List ic) (ks:List Int):rJ f t (l.map Gz) ks=DU f t l ks:=by
 unfold rJ DU;congr 1;funext s k;rw[fP,nae];congr 1;funext s p;unfold zU;rw[GH,fJ];simp only[Bool.and_eq_true,w2];rfl
theorem EL{t0:List ic}{t1:hO}(hs:t0.length*32<=140737488351232) (hr:0<=t1.j/\t1.j<=t1.To/\t1.To<=109573):e? al 74 [Ha t0,Xl t1] (da (rJ t1.j t1.To (t0.map Gz) [1,2,3])):=by
 refine uJ ⟨_,Tryz.func74,U?,rfl⟩ λG w vs hF hv=>?_;simp only[VsRel,Xl,VRel]at hv;obtain⟨u,r,rfl,h1,u2,r2,rfl,⟨a1,rfl,⟨v1,r3,rfl,rfl,v2,r4,rfl,rfl,rfl⟩,-⟩,rfl⟩:=hv;obtain⟨a,cap,rfl,h2⟩:=YY hF h1;exact(callsIn_wide (n:=6)).1 (aT4 Fence.wide 6 trivial trivial trivial trivial trivial trivial rfl U a _ cap t1.j t1.To hr (t0.map Gz) rfl (by simpa using hs) w h2)
theorem QN{t0 t1 r}(h:iv t0 t1=M r):e? al 74 [Ha t0,Xl t1] (da r):=by
 unfold iv at h;split at h
 .rename_i hl;injection h with h;have:=EL (t0:=t0) (t1:=t1) U hl.2;rw[yU,h]at this;exact this
 .cases h
instance {t0 t1 r}:o! (iv t0 t1=M r) (e? al 74 [Ha t0,Xl t1] (da r)):=⟨QN⟩
end Go.Proofs.Dev
