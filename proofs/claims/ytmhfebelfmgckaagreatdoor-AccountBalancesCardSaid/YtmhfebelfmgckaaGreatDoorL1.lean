/-
  Contracts by hand: the conditions stand in each.
-/
import Derived.RangeFuncNested
import Derived.RangeFuncBound
import Derived.RangeFuncCalls
import Derived.RangeFuncLeaves
import Derived.Shelf.Abstract
import Derived.Shelf.RegionOpen
import Derived.WalkKit
import Derived.OwnWalkIn
import Derived.TacticsInMore
import Derived.LoopNIn
import Derived.LoopIn
import Derived.Test.YtmhfebelfmgckaaGreatDoorK
import Derived.Test.YtmhfebelfmgckaaGreatDoorPE
open Go renaming World->a42
open Option renaming some->M,none->s5
open Go.IntKind renaming i64->b!
open Go.Value renaming int->e!
open Go.Proofs.Tryz renaming prog->al
open Array renaming getElem?_eq_some_iff->jac,replicate_succ->Bac,replicate_zero->Cac
open Bool renaming false_ne_true->Fae
open List renaming append_toArray->Jac,cons_append->G?,foldl_append->Gac,foldl_cons->Γ,foldl_map->Aae,foldl_nil->rad,length_cons->G!,length_nil->M!,mem_cons->Z',mem_cons_of_mem->Dac,mem_cons_self->yad,nil_append->O!,nodup_cons->Tac,push_toArray->Uac,size_toArray->Qab
open Nat renaming le_refl->x?,le_trans->N?,reduceAdd->M?,reduceSub->U?
set_option linter.all false
namespace Go.Proofs
open Go.RowKit Go.Shelf
variable {n₀ B Bk:Nat}{A W':a42}{kk:Int}{β:Type}
attribute [local go_sem] Oper.semAt_some
namespace Led
structure P4 where
 d:Int
 m:Int
 k:Int
 c:Int
variable {p:P4}
def P4.v(p:P4):Value:=.agg #[e! b! p.d,e! b! p.m,e! b! p.k,e! b! p.c]
def jI(p:P4):Int:=if p.k=1 then p.c else if p.k=2 then wrap64 (-p.c)else if p.k=3 then wrap64 (-p.c)else 0
set_option maxRecDepth 100000 in
set_option maxHeartbeats 2000000 in
theorem YR(F:Fence) (n:Nat) (h5:F.fn 141) (hro:F.round=s5) (a:Option Addr) (len cap:Nat) (k:Int) (w:a42) :
 CallsIn F n al 141 #[.slice a len cap,e! b! k] w λe w'=>e=.returned (.func (.func 212) #[] #[.pointer (M ⟨w.heap.size,0,s5⟩),.pointer (M ⟨w.heap.size+1,0,s5⟩)])/\w'=(w.alloc (.cells #[.slice a len cap] 44)).alloc (.cells #[e! b! k] 3):=by
 refine callsIn_of_wp Tryz.func141 rfl h5 ?_ hro;simp only[Tryz.ntmps141,Qab,G!,M!,M?,U?,Bac,Cac,Uac,Jac,O!,G?]
 gi_wp2
 go_ret
 exact⟨rfl,rfl⟩
set_option maxRecDepth 100000 in
set_option maxHeartbeats 2000000 in
theorem O6(F:Fence) (n:Nat) (h5:F.fn 143) (hro:F.round=s5) (p:P4) (w:a42) :
 CallsIn F n al 143 #[p.v] w λe w'=>e=.returned (e! b! (jI p))/\w'=w.alloc (.cells #[e! b! p.d,e! b! p.m,e! b! p.k,e! b! p.c] 98):=by
 refine callsIn_of_wp Tryz.func143 rfl h5 ?_ hro;simp only[Tryz.ntmps143,Qab,G!,M!,M?,U?,Bac,Cac,Uac,Jac,O!,G?,P4.v]
 gi_wp2
 all_goals (go_ret;refine⟨?_,rfl⟩)
 all_goals simp_all[jI]
def OkL(n₀:Nat) (W:a42) (a:Option Addr) (zs:List P4):Prop:=
 zs=[]\/∃b off,a=M ⟨b,off,s5⟩/\b<n₀/\∀j (h:j<zs.length),W.cell? ⟨b,off+j*4,s5⟩=M (e! b! zs[j].d)/\W.cell? ⟨b,off+j*4+1,s5⟩=M (e! b! zs[j].m)/\W.cell? ⟨b,off+j*4+2,s5⟩=M (e! b! zs[j].k)/\W.cell? ⟨b,off+j*4+3,s5⟩=M (e! b! zs[j].c)
theorem OkL.below{B:a42}(h:Below n₀ A B) {a:Option Addr}{zs:List P4}:OkL n₀ A a zs->OkL n₀ B a zs
 |.inl e=>.inl e
 |.inr ⟨b,off,e,hb,hc⟩=>.inr ⟨b,off,e,hb,λj hj=>⟨(h.cell (p:=⟨b,off+j*4,s5⟩) hb).trans (hc j hj).1,(h.cell (p:=⟨b,off+j*4+1,s5⟩) hb).trans (hc j hj).2.1,(h.cell (p:=⟨b,off+j*4+2,s5⟩) hb).trans (hc j hj).2.2.1,(h.cell (p:=⟨b,off+j*4+3,s5⟩) hb).trans (hc j hj).2.2.2⟩⟩
theorem aQ6{W:a42}{a:Addr}{v:Value}(o:Obj) (h:W.cell? a=M v):(W.alloc o).cell? a=M v:=cell_kept h (World.grownBy_alloc W o s5) (λr e=>by cases e)
def SX(n₀ Bk:Nat) (kk:Int) (W W':a42):Prop:=Below n₀ W W'/\(Boxed W Bk 3 (e! b! kk)->Boxed W' Bk 3 (e! b! kk))
def SX.t{B C:a42}(h:SX n₀ Bk kk A B) (k:SX n₀ Bk kk B C):SX n₀ Bk kk A C:=⟨h.1.trans k.1,λx=>k.2 (h.2 x)⟩
theorem SX.b{w:a42}(hn:n₀<=w.heap.size) (W:a42) (l:Nat) (o o':Obj) (hl:w.heap.size<=l) (ho:W.heap[l]?=M o) (hc:o.isCells=false) (hw:o.isWalk=false):SX n₀ Bk kk W (W.putObj l o'):=
 ⟨belowK_b hn W l o o' hl ho hc hw,λh=>h.kept (grownBy_putObj' W l o') (λe=>by cases e;rw[show W.heap[Bk]?=_ from h]at ho;cases ho;cases hc)⟩
theorem SX.refl{n₀ Bk:Nat}{kk:Int}(W:a42):SX n₀ Bk kk W W:=⟨Below.refl _ _,id⟩
def iC(W:a42) (B:Nat) (p:P4):Prop:=W.heap[B]?=M (.cells #[e! b! p.d,e! b! p.m,e! b! p.k,e! b! p.c] 98 (0,0))
def iC.new(W:a42) (p:P4):iC (W.alloc (.cells #[e! b! p.d,e! b! p.m,e! b! p.k,e! b! p.c] 98)) W.heap.size p:=World.alloc_heap_new W _
theorem iC.lt{W:a42}(h:iC W B p):B<W.heap.size:=(jac.1 h).1
def iC.kept{W:a42}{row:Option Nat}(h:iC W B p) (hg:W.grownBy W' row) (hne:M B≠row):iC W' B p:=(hg.block B h.lt hne).trans h
theorem iC.c0{W:a42}(h:iC W B p):W.cell? ⟨B,0,s5⟩=M (e! b! p.d):=by simp[World.cell?,show W.heap[B]?=_ from h]
theorem iC.c1{W:a42}(h:iC W B p):W.cell? ⟨B,1,s5⟩=M (e! b! p.m):=by simp[World.cell?,show W.heap[B]?=_ from h]
theorem iC.c2{W:a42}(h:iC W B p):W.cell? ⟨B,2,s5⟩=M (e! b! p.k):=by simp[World.cell?,show W.heap[B]?=_ from h]
theorem iC.c3{W:a42}(h:iC W B p):W.cell? ⟨B,3,s5⟩=M (e! b! p.c):=by simp[World.cell?,show W.heap[B]?=_ from h]
theorem VV(B:Nat) (p:P4):Own (λ(_:β) W=>iC W B p):=λs X Y row hs hg hrow=>
 hs.kept hg (λe'=>by obtain⟨o,ho,hc⟩:=hrow B e'.symm;rw[show X.heap[B]?=_ from hs]at ho;cases ho;cases hc)
def sel(k:Int) (zs:List P4):List P4:=zs.filter λp=>p.k==k
set_option maxRecDepth 100000 in
set_option maxHeartbeats 4000000 in
theorem yZ(F:Fence) (n:Nat) (h7:F.fn 212) (hro:F.round=s5) (hn:1<=n) (l Bs Bk n₀ b off len cap:Nat) (kk:Int) (zs:List P4) (W:a42) (hl:zs.length=len) (hreach:len*32<=140737488351232) (hb:b<n₀) (hn₀:n₀<=W.heap.size) (j9 Jx:List P4->a42->Prop)
 (hJ:∀s W1 (o:Obj),j9 s W1->j9 s (W1.alloc o))
 (hY:∀pre x W,j9 pre W->pre.length<len->YieldAt F (n-1) al l #[P4.v x] W λe W'=>
  (e=.returned (.bool true)/\j9 (pre++[x]) W'/\SX n₀ Bk kk W W')\/(e=.returned (.bool false)/\Jx (pre++[x]) W'))
 (hBs:W.cell? ⟨Bs,0,s5⟩=M (.slice (M ⟨b,off,s5⟩) len cap)) (hBk:Boxed W Bk 3 (e! b! kk)) (hc:∀j (h:j<zs.length),W.cell? ⟨b,off+j*4,s5⟩=M (e! b! zs[j].d)/\W.cell? ⟨b,off+j*4+1,s5⟩=M (e! b! zs[j].m)/\W.cell? ⟨b,off+j*4+2,s5⟩=M (e! b! zs[j].k)/\W.cell? ⟨b,off+j*4+3,s5⟩=M (e! b! zs[j].c)) (h0:j9 [] W) :
 CallsIn F n al 212 #[.func (.yield l) #[] #[],.pointer (M ⟨Bs,0,s5⟩),.pointer (M ⟨Bk,0,s5⟩)] W λe W'=>(∃v,e=.returned v)/\
  ((∃ys,ys=sel kk zs/\j9 ys W')\/(∃pre,True/\Jx pre W')):=by
 refine callsIn_of_wp Tryz.func212 rfl h7 ?_ hro;simp only[Tryz.ntmps212,Qab,G!,M!,M?,U?,Bac,Cac,Uac,Jac,O!,G?]
 gi_wp2
 gi_loopw [8] (λi wr=>∃k:Nat,k<=len/\i=e! b! k/\j9 (sel kk (zs.take k)) wr/\Below n₀ W wr/\Boxed wr Bk 3 (e! b! kk))
  (λi _=>len-(intOf i).toNat)
 case atStart=>exact⟨0,Nat.zero_le _,rfl,h0,Below.refl _ _,hBk⟩
 case round=>
  obtain⟨k,hk,rfl,hJs,hnx,hbk⟩:=hrel;have hkc:wr.cell? ⟨Bk,0,s5⟩=M (e! b! kk):=hbk.cell;by_cases hlt:k<len
  .obtain⟨c0,c1,c2,c3⟩:=hc k U
   replace c0:=(hnx.cell (p:=⟨b,off+k*4,s5⟩) hb).trans c0
   replace c1:=(hnx.cell (p:=⟨b,off+k*4+1,s5⟩) hb).trans c1
   replace c2:=(hnx.cell (p:=⟨b,off+k*4+2,s5⟩) hb).trans c2
   replace c3:=(hnx.cell (p:=⟨b,off+k*4+3,s5⟩) hb).trans c3
   have hk2:(wr.alloc (.cells #[e! b! zs[k].d,e! b! zs[k].m,e! b! zs[k].k,e! b! zs[k].c] 98)).cell? ⟨Bk,0,s5⟩=M (e! b! kk):=aQ6 _ hkc;have hBl:Below n₀ wr (wr.alloc (.cells #[e! b! zs[k].d,e! b! zs[k].m,e! b! zs[k].k,e! b! zs[k].c] 98)):=(Below.refl n₀ wr).alloc (N? hn₀ hnx.size) _;have hJ2:j9 (sel kk (zs.take k)) (wr.alloc (.cells #[e! b! zs[k].d,e! b! zs[k].m,e! b! zs[k].k,e! b! zs[k].c] 98)):=hJ _ _ _ hJs;have htk:sel kk (zs.take (k+1))=sel kk (zs.take k)++(if zs[k].k==kk then [zs[k]]else []):=by
    rw[List.take_add_one,List.getElem?_eq_getElem U];simp only[sel,List.filter_append,Option.toList_some,List.filter_cons,List.filter_nil]
   by_cases he:zs[k].k=kk
   .have he':(zs[k].k==kk)=true:=by simpa using he
    rw[J he']at htk;obtain⟨fn,tmps,assign,body,hy,hR⟩:=hY _ zs[k] _ hJ2 (Nat.lt_of_le_of_lt (List.length_filter_le _ _) a13);simp only[P4.v]at hy;clear he
    gi_wp2
    refine hR.mono ?_;rintro e W3 (⟨rfl,hJ3,hk3⟩|⟨rfl,hJx3⟩)
    .gi_wp2
     go_roundw
     case rel=>exact⟨k+1,U,o0,by rw[htk];exact hJ3,(hnx.trans hBl).trans hk3.1,hk3.2 (hbk.alloc _)⟩
     case measure=>simp[intOf];omega
    .gi_wp2
     refine bodyPost_ret (results_none rfl _ _ _) rfl ?_;exact⟨⟨_,rfl⟩,.inr ⟨_,trivial,hJx3⟩⟩
   .have he':(zs[k].k==kk)=false:=by simpa using he
    rw[he',p6 o0,List.append_nil]at htk
    gi_wp2
    refine⟨λ_ h=>(by cases h),?_⟩
    gi_wp2
    exact⟨⟨k+1,U,o0,by rw[htk];exact hJ2,hnx.trans hBl,hbk.alloc _⟩,by simp[intOf];omega⟩
  .obtain rfl:k=len:=U
   gi_wp2
   go_end0
   exact⟨⟨_,rfl⟩,.inl ⟨_,rfl,by rw[←hl,List.take_length]at hJs;exact hJs⟩⟩
set_option maxRecDepth 100000 in
set_option maxHeartbeats 1000000 in
theorem NO(F:Fence) (n:Nat) (h7:F.fn 212) (hro:F.round=s5) (l Bs Bk:Nat) (a:Option Addr) (cap:Nat) (j9:List P4->a42->Prop) (W:a42) (hBs:W.cell? ⟨Bs,0,s5⟩=M (.slice a 0 cap)) (h0:j9 [] W) :
 CallsIn F n al 212 #[.func (.yield l) #[] #[],.pointer (M ⟨Bs,0,s5⟩),.pointer (M ⟨Bk,0,s5⟩)] W λe W'=>(∃v,e=.returned v)/\j9 [] W':=by
 refine callsIn_of_wp Tryz.func212 rfl h7 ?_ hro;simp only[Tryz.ntmps212,Qab,G!,M!,M?,U?,Bac,Cac,Uac,Jac,O!,G?]
 gi_wp2
 gi_loopw [8] (λi wr=>i=e! b! 0/\j9 [] wr) (λ_ _=>0)
 case atStart=>exact⟨rfl,h0⟩
 case round=>
  obtain⟨rfl,hJs⟩:=hrel
  gi_wp2
  go_end0
  exact⟨⟨_,rfl⟩,hJs⟩
theorem aJ(F:Fence) (n:Nat) (h7:F.fn 212) (hro:F.round=s5) (hn:1<=n) (Bs Bk n₀:Nat) (a:Option Addr) (cap:Nat) (kk:Int) (zs:List P4) (hreach:zs.length*32<=140737488351232) (w:a42) (hBs:Bs<w.heap.size) (hn₀:n₀<=w.heap.size)
 (hc:w.cell? ⟨Bs,0,s5⟩=M (.slice a zs.length cap)) (hck:Boxed w Bk 3 (e! b! kk)) (hI:OkL n₀ w a zs) :
 SeqStopsK F n al 212 #[.pointer (M ⟨Bs,0,s5⟩),.pointer (M ⟨Bk,0,s5⟩)] (λx:P4=>#[P4.v x]) (SX n₀ Bk kk) (λys=>ys=sel kk zs) (λ_=>True) zs.length w:=λl j9 Jx W hW hJ _ hY h0=>by
 have hc':=(hW.cell (p:=⟨Bs,0,s5⟩) hBs).trans hc;have hck':Boxed W Bk 3 (e! b! kk):=(hW.block Bk hck.lt).trans hck;rcases hI.below (hW.mono hn₀)with rfl|⟨b,off,rfl,hb,hcs⟩
 .exact(NO F n h7 hro l Bs Bk a cap j9 W hc' h0).mono λe W' ⟨he,hj⟩=>⟨he,.inl ⟨_,rfl,hj⟩⟩
 .refine(yZ F n h7 hro hn l Bs Bk n₀ b off zs.length cap kk zs W rfl hreach hb (N? hn₀ hW.size) j9 Jx (λs W1 o h=>hJ _ _ _ s5 h (World.grownBy_alloc _ _ s5) (λr e=>by cases e)) hY hc' hck' hcs h0)
def cQ(m:Int) (s:Int) (p:P4):Int:=if p.m==m then wrap64 (s+p.c)else s
set_option maxRecDepth 100000 in
set_option maxHeartbeats 4000000 in
theorem L6(F:Fence) (n:Nat) (h3:F.fn 104) (h4:F.fn 141) (h5:F.fn 212) (hro:F.round=s5) (hn:6<=n) (a:Option Addr) (len cap:Nat) (m:Int) (zs:List P4) (hl:zs.length=len) (hreach:zs.length*32<=140737488351232) (w:a42) (hI:OkL w.heap.size w a zs) :
 CallsIn F n al 104 #[.slice a len cap,e! b! m] w λe W'=>e=.returned (e! b! ((sel 4 zs).foldl (cQ m) 0))/\Below w.heap.size w W':=by
 have h1:1<=n:=U
 subst hl;refine callsIn_of_wp_marks Tryz.func104 rfl h3 ?_ hro;simp only[Tryz.ntmps104,Qab,G!,M!,M?,U?,Bac,Cac,Uac,Jac,O!,G?]
 gi_wp2_with (gi_at_call 141;refine(YR F (n-1) h4 hro _ _ _ _ _).mono ?_;rintro e w' ⟨rfl,rfl⟩)
 have bM:=(((Boxed.new w 3 (e! b! m)).alloc (.cells #[e! b! 0] 3)).alloc (.cells #[.slice a zs.length cap] 44)).alloc (.cells #[e! b! 4] 3);have bS:=((Boxed.new (w.alloc (.cells #[e! b! m] 3)) 3 (e! b! 0)).alloc (.cells #[.slice a zs.length cap] 44)).alloc (.cells #[e! b! 4] 3);have bA:=(Boxed.new ((w.alloc (.cells #[e! b! m] 3)).alloc (.cells #[e! b! 0] 3)) 44 (.slice a zs.length cap)).alloc (.cells #[e! b! 4] 3);have bK:=Boxed.new (((w.alloc (.cells #[e! b! m] 3)).alloc (.cells #[e! b! 0] 3)).alloc (.cells #[.slice a zs.length cap] 44)) 3 (e! b! 4);simp only[World.size_alloc]at bS bA bK;have hB0:Below w.heap.size w ((((w.alloc (.cells #[e! b! m] 3)).alloc (.cells #[e! b! 0] 3)).alloc (.cells #[.slice a zs.length cap] 44)).alloc (.cells #[e! b! 4] 3)):=((((Below.refl _ w).alloc (x? _) _).alloc o0 _).alloc a13 _).alloc a13 _;have hsz:((((w.alloc (.cells #[e! b! m] 3)).alloc (.cells #[e! b! 0] 3)).alloc (.cells #[.slice a zs.length cap] 44)).alloc (.cells #[e! b! 4] 3)).heap.size=w.heap.size+4:=o0
 obtain⟨W0,hW0⟩:∃W0,(((w.alloc (.cells #[e! b! m] 3)).alloc (.cells #[e! b! 0] 3)).alloc (.cells #[.slice a zs.length cap] 44)).alloc (.cells #[e! b! 4] 3)=W0:=⟨_,rfl⟩;rw[hW0]at bM bS bA bK hB0 hsz⊢;clear hW0;refine wpIn_rangeFunc_ownH hro h1 (gf:=212) (lb:=#[.pointer (M ⟨w.heap.size+1+1,0,s5⟩),.pointer (M ⟨w.heap.size+1+1+1,0,s5⟩)]) rfl h5 (enters_of Tryz.func212 Θ rfl)
  (aJ F (n-1) h5 hro U (w.heap.size+1+1) (w.heap.size+1+1+1) w.heap.size a cap 4 zs hreach W0 U U bA.cell bK (hI.below hB0)) SX.t (SX.b U) (Below.refl _ _) (λ_=>rfl)
  (λpre W=>(Boxed W (w.heap.size+1) 3 (e! b! (pre.foldl (cQ m) 0))/\Boxed W w.heap.size 3 (e! b! m))/\Below w.heap.size w W)
  (λ_ _ _=>False)
  (OwnFrom.and (OwnFrom.and (Own.from (boxed_own _ _ _) _) (Own.from (boxed_own _ _ _) _)) (ownFrom_below (x? _) U))
  (λ_ _ _ _ _ hs _ _=>hs)
  ⟨⟨bS,bM⟩,hB0⟩
  (λx a' W=>∃Bx,w.heap.size+1<Bx/\iC W Bx x/\a'={ tmps:=#[.slice a zs.length cap,e! b! m,undef,.pointer (M ⟨w.heap.size,0,s5⟩),e! b! 0,.pointer (M ⟨w.heap.size+1,0,s5⟩),.pointer (M ⟨Bx,0,s5⟩),.slice a zs.length cap,.func (.func 212) #[] #[.pointer (M ⟨w.heap.size+1+1,0,s5⟩),.pointer (M ⟨w.heap.size+1+1+1,0,s5⟩)],P4.v x,undef,undef,undef,undef,undef,undef,undef,undef,undef],defers:=[] })
  (λx a' _ X Y row hs hg hr=>by obtain⟨Bx,h1,h2,h3⟩:=hs;exact⟨Bx,h1,VV Bx x () X Y row h2 hg (λr e=>(hr r e).2),h3⟩)
  ?assign ?body ?done ?stop
 case assign=>
  rintro l pre x W K ⟨⟨bS1,bM1⟩,hB1⟩ hK;simp only[P4.v]
  gi_wp2
  exact hK _ _ ((KeepsOthers.alloc _ _).from _) ⟨(Below.refl _ W).alloc hB1.size _,λh=>h.alloc _⟩ ⟨⟨bS1.alloc _,bM1.alloc _⟩,hB1.alloc hB1.size _⟩ ⟨W.heap.size,bS1.lt,iC.new W x,rfl⟩
 case body=>
  rintro l pre x a' W hl ⟨r,hr⟩ ⟨⟨bS1,bM1⟩,hB1⟩ ⟨Bx,hBx,bX,rfl⟩ hlt;have cM:=bM1.cell;have cS:=bS1.cell;have fS:=bS1.frozen;have c1:=bX.c1;have c3:=bX.c3
  gi_wp2
  .have hx:(x.m==m)=true:=by assumption
   exact⟨(KeepsOthers.setCell _ _ _).from _,⟨(Below.refl _ W).setCell (p:=⟨w.heap.size+1,0,s5⟩) o0 _,λh=>h.other U _⟩,
    ⟨⟨by rw[Gac,Γ,rad,cQ,J hx];exact bS1.set _,bM1.other U _⟩,hB1.setCell (p:=⟨w.heap.size+1,0,s5⟩) o0 _⟩⟩
  .have hx:(x.m==m)=false:=by assumption
   exact⟨KeepsFrom.refl _ _,SX.refl _,⟨⟨by rw[Gac,Γ,rad,cQ,p6 (by rw[hx];exact Fae)];exact bS1,bM1⟩,hB1⟩⟩
 case done=>
  rintro D ys W hD rfl ⟨⟨bS1,bM1⟩,hB1⟩ hK;have cS:=bS1.cell
  gi_wp2
  refine⟨o0,.inl ⟨_,_,rfl,run_takeDeferred hK,?_⟩⟩;exact⟨_,results_tmp rfl _ _ _,rfl,hB1.trans (belowK_b (w:=w) (x? _) W D _ _ U hK rfl rfl)⟩
 case stop=>
  rintro D c pre W _ _ h _;exact h.elim
def KW(m:Int) (s:Int) (p:P4):Int:=if p.m==m then wrap64 (s+jI p)else s
def FK(m:Int) (zs:List P4) (ks:List Int):Int:=ks.foldl (λs k=>(sel k zs).foldl (KW m) s) 0
def bB0(D:Nat):Deferred:={ target:=.collected D,args:=#[] }
def MK(ds:List Nat) (W:a42):Prop:=∀D∈ds,W.heap[D]?=M (.deferred (M []))
theorem MK.lt{ds:List Nat}{W:a42}(h:MK ds W):∀D∈ds,D<W.heap.size:=λD hD=>(jac.1 (h D hD)).1
theorem MK.own(ds:List Nat) (hB:∀D∈ds,D<B) :OwnFrom B (λ(_:β) W=>MK ds W):=λs X Y row hs hg hr D hD=>
 (hg.block D (hs.lt D hD) (λe=>by have:=(hr D e.symm).1;have:=hB D hD;omega)).trans (hs D hD)
def MK.others{ds:List Nat}{W:a42}(h:MK ds W) (k:KeepsOthers W W'):MK ds W':=λD hD=>k.same D _ (h D hD) rfl
theorem bl6(W:a42) (j k:Int) (h:(j=0/\k=1)\/(j=1/\k=2)\/(j=2/\k=3)):Sem.run al (Instr.index 191 (.agg #[e! b! 1,e! b! 2,e! b! 3]) (e! b! j)) W=.ok (e! b! k) W:=by
 rcases h with⟨rfl,rfl⟩|⟨rfl,rfl⟩|⟨rfl,rfl⟩<;>simp[Instr.index,go_sem]
theorem QI{F:Fence}{n:Nat}{P:Program}{fn:Func}{tmps:Array Value}{R:Ending->a42->Prop}(w:a42):∀(ds:List Nat) (W:a42),ds.Nodup->(∀D∈ds,w.heap.size<=D)->MK ds W->
 (∀W',Below w.heap.size W W'->LeavesInM F n P fn tmps R [] .returning W')->LeavesInM F n P fn tmps R (ds.map bB0) .returning W
 |[],W,_,_,_,h=>h W (Below.refl _ _)
 |D::ds,W,hnd,hds,hmk,h=>by
  have hD:=hmk D (yad ..);have hB:Below w.heap.size W (W.putObj D (.deferred s5)):=belowK_b (w:=w) (x? _) W D _ _ (hds D (yad ..)) hD rfl rfl;obtain⟨h1,h2⟩:=Tac.1 hnd;refine⟨o0,.inl ⟨D,W.putObj D (.deferred s5),rfl,run_takeDeferred hD,QI w ds _ h2 (λD' h'=>hds D' (Dac _ h')) (λD' h'=>?_) (λW' hW'=>h W' (hB.trans hW'))⟩⟩;exact(World.putObj_heap_other (λe=>h1 (by first|exact e▸h'|exact e.symm▸h'))).trans (hmk D' (Dac _ h'))
set_option maxRecDepth 100000 in
set_option maxHeartbeats 8000000 in
theorem NU(F:Fence) (n:Nat) (h3:F.fn 103) (h2:F.fn 143) (h4:F.fn 141) (h5:F.fn 212) (hro:F.round=s5) (hn:6<=n) (a:Option Addr) (len cap:Nat) (m:Int) (zs:List P4) (hl:zs.length=len) (hreach:zs.length*32<=140737488351232) (w:a42) (hI:OkL w.heap.size w a zs) :
 CallsIn F n al 103 #[.slice a len cap,e! b! m] w λe W'=>e=.returned (e! b! (FK m zs [1,2,3]))/\Below w.heap.size w W':=by
 have h1:1<=n:=U
 subst hl;refine callsIn_of_wp_marks Tryz.func103 rfl h3 ?_ hro;simp only[Tryz.ntmps103,Qab,G!,M!,M?,U?,Bac,Cac,Uac,Jac,O!,G?]
 gi_wp2
 have bM:=(Boxed.new w 3 (e! b! m)).alloc (.cells #[e! b! 0] 3);have bS:=Boxed.new (w.alloc (.cells #[e! b! m] 3)) 3 (e! b! 0);simp only[World.size_alloc]at bS;have hB0:Below w.heap.size w ((w.alloc (.cells #[e! b! m] 3)).alloc (.cells #[e! b! 0] 3)):=((Below.refl _ w).alloc (x? _) _).alloc o0 _;obtain⟨W0,hW0⟩:∃W0,(w.alloc (.cells #[e! b! m] 3)).alloc (.cells #[e! b! 0] 3)=W0:=⟨_,rfl⟩;rw[hW0]at bM bS hB0⊢;clear hW0;refine wpIn_loop (λa' W=>∃(i:Nat) (u7 u8 u11 u12 u13 u14 u15 u16 u25:Value) (ds:List Nat),i<=3/\a'={ tmps:=#[.slice a zs.length cap,e! b! m,undef,.pointer (M ⟨w.heap.size,0,s5⟩),e! b! 0,.pointer (M ⟨w.heap.size+1,0,s5⟩),undef,u7,u8,.agg #[e! b! 1,e! b! 2,e! b! 3],e! b! i,u11,u12,u13,u14,u15,u16,undef,undef,undef,undef,undef,undef,undef,undef,u25,undef],defers:=ds.map bB0 }/\
  ds.Nodup/\(∀D∈ds,w.heap.size<=D)/\MK ds W/\Boxed W (w.heap.size+1) 3 (e! b! (FK m zs (([1,2,3]:List Int).take i)))/\Boxed W w.heap.size 3 (e! b! m)/\Below w.heap.size w W)
  (λa' _=>3-(intOf (a'.tmps.getD 10 undef)).toNat) ?start ?round
 case start=>exact⟨0,_,_,_,_,_,_,_,_,_,[],U,rfl,o0,o0,λD h=>by simp at h,bS,bM,hB0⟩
 case round=>
  rintro a' W ⟨i,u7,u8,u11,u12,u13,u14,u15,u16,u25,ds,hi,rfl,hnd,hds,hmk,bS1,bM1,hB1⟩;by_cases h3:i=3
  .subst h3;have cS:=bS1.cell
   gi_wp2
   exact QI w ds W hnd hds hmk λW' hW'=>⟨_,results_tmp rfl _ _ _,rfl,hB1.trans hW'⟩
  .have hlt3:(i:Int)<3:=U
   have cM:=bM1.cell;have hix:=bl6 W i ((i:Int)+1) U
   gi_wp2_with (gi_at_call 141;refine(YR F (n-1) h4 hro _ _ _ _ _).mono ?_;rintro e w' ⟨rfl,rfl⟩)
   have bA:=(Boxed.new W 44 (.slice a zs.length cap)).alloc (.cells #[e! b! ((i:Int)+1)] 3);have bK:=Boxed.new (W.alloc (.cells #[.slice a zs.length cap] 44)) 3 (e! b! ((i:Int)+1));have bM2:=(bM1.alloc (.cells #[.slice a zs.length cap] 44)).alloc (.cells #[e! b! ((i:Int)+1)] 3);have bS2:=(bS1.alloc (.cells #[.slice a zs.length cap] 44)).alloc (.cells #[e! b! ((i:Int)+1)] 3);have hmk2:=(hmk.others (KeepsOthers.alloc W (.cells #[.slice a zs.length cap] 44))).others (KeepsOthers.alloc _ (.cells #[e! b! ((i:Int)+1)] 3));have hmlt:=hmk2.lt;simp only[World.size_alloc]at bA bK;have hsW:=hB1.size;have hBs:=bS1.lt;have hB2:Below w.heap.size w ((W.alloc (.cells #[.slice a zs.length cap] 44)).alloc (.cells #[e! b! ((i:Int)+1)] 3)):=(hB1.alloc hsW _).alloc a13 _;have hsz:((W.alloc (.cells #[.slice a zs.length cap] 44)).alloc (.cells #[e! b! ((i:Int)+1)] 3)).heap.size=W.heap.size+2:=o0
   obtain⟨W0,hW0⟩:∃W0,(W.alloc (.cells #[.slice a zs.length cap] 44)).alloc (.cells #[e! b! ((i:Int)+1)] 3)=W0:=⟨_,rfl⟩;rw[hW0]at bM2 bS2 bA bK hB2 hsz hmk2 hmlt⊢;clear hW0;refine wpIn_rangeFunc_ownH hro h1 (gf:=212) (lb:=#[.pointer (M ⟨W.heap.size,0,s5⟩),.pointer (M ⟨W.heap.size+1,0,s5⟩)]) rfl h5 (enters_of Tryz.func212 Θ rfl)
    (aJ F (n-1) h5 hro U W.heap.size (W.heap.size+1) w.heap.size a cap ((i:Int)+1) zs hreach W0 U U bA.cell bK (hI.below hB2)) SX.t (SX.b U) (Below.refl _ _) (λ_=>rfl)
    (λpre X=>((Boxed X (w.heap.size+1) 3 (e! b! (pre.foldl (KW m) (FK m zs (([1,2,3]:List Int).take i))))/\Boxed X w.heap.size 3 (e! b! m))/\MK ds X)/\Below w.heap.size w X)
    (λ_ _ _=>False)
    (OwnFrom.and (OwnFrom.and (OwnFrom.and (Own.from (boxed_own _ _ _) _) (Own.from (boxed_own _ _ _) _)) (MK.own ds hmlt)) (ownFrom_below (x? _) U))
    (λ_ _ _ _ _ hs _ _=>hs)
    ⟨⟨⟨bS2,bM2⟩,hmk2⟩,hB2⟩
    (λx a' X=>∃Bx,w.heap.size+1<Bx/\iC X Bx x/\a'={ tmps:=#[.slice a zs.length cap,e! b! m,undef,.pointer (M ⟨w.heap.size,0,s5⟩),e! b! 0,.pointer (M ⟨w.heap.size+1,0,s5⟩),undef,e! b! ((i:Int)+1),.pointer (M ⟨Bx,0,s5⟩),.agg #[e! b! 1,e! b! 2,e! b! 3],e! b! i,.bool true,e! b! ((i:Int)+1),.slice a zs.length cap,e! b! ((i:Int)+1),.func (.func 212) #[] #[.pointer (M ⟨W.heap.size,0,s5⟩),.pointer (M ⟨W.heap.size+1,0,s5⟩)],P4.v x,undef,undef,undef,undef,undef,undef,undef,undef,u25,undef],defers:=[] })
    (λx a' _ X Y row hs hg hr=>by obtain⟨Bx,h1,h2,h3⟩:=hs;exact⟨Bx,h1,VV Bx x () X Y row h2 hg (λr e=>(hr r e).2),h3⟩)
    ?assign ?body ?done ?stop
   case assign=>
    rintro l pre x X K ⟨⟨⟨bS3,bM3⟩,hmk3⟩,hB3⟩ hK;simp only[P4.v]
    gi_wp2
    exact hK _ _ ((KeepsOthers.alloc _ _).from _) ⟨(Below.refl _ X).alloc hB3.size _,λh=>h.alloc _⟩ ⟨⟨⟨bS3.alloc _,bM3.alloc _⟩,hmk3.others (KeepsOthers.alloc _ _)⟩,hB3.alloc hB3.size _⟩ ⟨X.heap.size,bS3.lt,iC.new X x,rfl⟩
   case body=>
    rintro l pre x a' X hl ⟨r,hr⟩ ⟨⟨⟨bS3,bM3⟩,hmk3⟩,hB3⟩ ⟨Bx,hBx,bX,rfl⟩ hlt;have cM:=bM3.cell;have cS:=bS3.cell;have fS:=bS3.frozen;have c0:=bX.c0;have c1:=bX.c1;have c2:=bX.c2;have c3:=bX.c3;have h1':1<=n-1-1:=U
    have hmx:Tryz.prog.follows .mixedOrders=true:=Θ
    gi_wp2
    .have hx:(x.m==m)=true:=by assumption
     have bS4:Boxed (X.alloc (.cells #[e! b! x.d,e! b! x.m,e! b! x.k,e! b! x.c] 98)) (w.heap.size+1) 3 _:=bS3.alloc _;have cS4:=bS4.cell;have fS4:=bS4.frozen
     gi_region_with_o (gi_at_call 143;refine(CallsIn.inRound l (O6 F (n-1-1-1) h2 hro x _)).mono ?_;rintro e w' ⟨rfl,rfl⟩)
     all_goals gi_wp2
     all_goals (try go_bits)
     all_goals
      have hk:∀v,KeepsOthers X ((X.alloc (.cells #[e! b! x.d,e! b! x.m,e! b! x.k,e! b! x.c] 98)).setCell ⟨w.heap.size+1,0,s5⟩ v).drew:=λv=>((KeepsOthers.alloc _ _).trans (KeepsOthers.setCell _ _ _)).trans (KeepsOthers.drew _);exact⟨(hk _).from _,⟨(((Below.refl _ X).alloc hB3.size _).setCell (p:=⟨w.heap.size+1,0,s5⟩) o0 _).drew,λh=>(h.alloc _).other U _⟩,
       ⟨⟨⟨by rw[Gac,Γ,rad,KW,J hx];exact bS4.set _,(bM3.alloc _).other U _⟩,hmk3.others (hk _)⟩,((hB3.alloc hB3.size _).setCell (p:=⟨w.heap.size+1,0,s5⟩) o0 _).drew⟩⟩
    .have hx:(x.m==m)=false:=by assumption
     exact⟨KeepsFrom.refl _ _,SX.refl _,⟨⟨⟨by rw[Gac,Γ,rad,KW,p6 (by rw[hx];exact Fae)];exact bS3,bM3⟩,hmk3⟩,hB3⟩⟩
   case done=>
    rintro D ys X hD rfl ⟨⟨⟨bS3,bM3⟩,hmk3⟩,hB3⟩ hK
    gi_wp2
    refine⟨⟨i+1,_,_,_,_,_,_,_,_,_,D::ds,U,rfl,Tac.2 ⟨λh=>?_,hnd⟩,λD' h'=>?_,λD' h'=>?_,?_,bM3,hB3⟩,by simp[intOf];omega⟩
    .have:=hmlt D h;omega
    .rcases Z'.1 h' with rfl|h'
     .omega
     .exact hds D' h'
    .rcases Z'.1 h' with rfl|h'
     .exact hK
     .exact hmk3 D' h'
    .have h012:i=0\/i=1\/i=2:=U
     rcases h012 with rfl|rfl|rfl<;>exact bS3
   case stop=>
    rintro D c pre X _ _ h _;exact h.elim
end Led
end Go.Proofs
namespace Go.Tm
open Go.RowKit
theorem AY{G:Gh}{w w':a42}{m:List Ent}(hi:Inv G w m) (hB:Below w.heap.size w w'):Inv G w' m/\Step G w m G w' m:=by
 have hle:Le G w G w':=⟨λ_ h=>h,λb h=>hB.block b (hi.F b h),x? _,λi _=>.inl ⟨rfl,rfl,rfl,rfl,rfl⟩⟩;refine⟨⟨hi.n,λb h=>Nat.lt_of_lt_of_le (hi.F b h) hB.size,λi e hm=>?_,hi.apart,λg d hd=>VRel.mono hle (hi.gl g d hd)⟩,⟨hle,hB.os,hB.tape,hB.output,hB.size,λb h _=>hB.block b h,λb _ h=>.inl h,λb _ h=>h⟩⟩
 cases e with
 |gone=>trivial
 |live S Va l=>exact qp.mono hle (hi.ent i _ hm) ⟨rfl,rfl,rfl,rfl,rfl⟩ (λb h=>hB.block b (qp.lt (hi.ent i _ hm) rfl h).1) (λ_ _ _ h=>h)
 |mp es=>exact qp.mono hle (hi.ent i _ hm) ⟨rfl,rfl,rfl,rfl,rfl⟩ (λb h=>hB.block b (qp.lt (hi.ent i _ hm) rfl h).1) (λ_ _ _ h=>h)
theorem aK{P:Program}{k:Nat}{ds:List D}{v:Value}(hE:I' P k) (h:∀(G:Gh) (w:a42) (vs:List Value),(∀b,G.F b->b<w.heap.size)->VsRel G w ds vs->Calls P k vs.toArray w λe w'=>e=.returned v/\Below w.heap.size w w'):e? P k ds (.v v):=by
 refine λm=>⟨hE,λG w vs hv hi=>(h G w vs hi.F hv).mono ?_⟩;rintro e w' ⟨rfl,hB⟩;obtain⟨g1,g2⟩:=AY hi hB;exact⟨_,_,_,G,rfl,⟨rfl,rfl⟩,I?,g1,g2⟩
end Go.Tm
namespace Go.Proofs.Dev
open Go Go.Tm Go.Proofs.Led
variable {t0:List hO}{t1:Int}
def Sz(x:hO):P4:=⟨x.z,x.j,x.a,x.ae⟩
theorem ZR{G:Gh}{w:a42}{b:Nat}:∀{l:List hO}{off:Nat},Xa G w b 4 (l.map fb) off->∀j (h:j<(l.map Sz).length),w.cell? ⟨b,off+j*4,s5⟩=M (e! b! (l.map Sz)[j].d)/\w.cell? ⟨b,off+j*4+1,s5⟩=M (e! b! (l.map Sz)[j].m)/\w.cell? ⟨b,off+j*4+2,s5⟩=M (e! b! (l.map Sz)[j].k)/\w.cell? ⟨b,off+j*4+3,s5⟩=M (e! b! (l.map Sz)[j].c)
 |[],_,_,j,h=>absurd h o0
 |x::l,off,hr,j,h=>by
  simp only[List.map_cons,Xa]at hr;obtain⟨⟨u,h1,h2,h3⟩,h4⟩:=hr;simp only[fb,VRel,VsRel]at h1;obtain⟨cs,rfl,⟨_,_,rfl,rfl,_,_,rfl,rfl,_,_,rfl,rfl,_,_,rfl,rfl,rfl⟩,-⟩:=h1
  cases j with
  |zero=>
   have g:=λ(j:Nat) c hc=>(h3 j c hc).2;refine⟨?_,?_,?_,?_⟩
   .simpa [Sz] using g 0 (e! b! x.z) rfl
   .simpa [Sz] using g 1 (e! b! x.j) rfl
   .simpa [Sz] using g 2 (e! b! x.a) rfl
   .simpa [Sz] using g 3 (e! b! x.ae) rfl
  |succ j=>
   have:=ZR h4 j (by simpa using h);rw[show off+(j+1)*4=off+4+j*4 by omega];simpa using this
theorem zZ{G:Gh}{w:a42}{l:List hO}{u:Value}(hF:∀b,G.F b->b<w.heap.size) (h:VRel G w (Ga l) u):∃a cap,u=.slice a (l.map Sz).length cap/\OkL w.heap.size w a (l.map Sz):=by
 simp only[Ga,VRel]at h;obtain⟨a,n,cap,rfl,rfl,h1,h2⟩:=h;refine⟨a,cap,o0,?_⟩;rcases h2 with h2|⟨b,off,rfl,hb,hr⟩
 .exact .inl (by simpa using h2)
 .exact .inr ⟨b,off,rfl,hF b hb,ZR hr⟩
theorem AG(hs:t0.length*32<=140737488351232):e? al 103 [Ga t0,da t1] (da (FK t1 (t0.map Sz) [1,2,3])):=by
 refine aK ⟨_,Tryz.func103,Θ,rfl⟩ λG w vs hF hv=>?_;simp only[VsRel,da,VRel]at hv;obtain⟨u,r,rfl,h1,u2,r2,rfl,rfl,rfl⟩:=hv;obtain⟨a,cap,rfl,h2⟩:=zZ hF h1;exact(callsIn_wide (n:=6)).1 (NU Fence.wide 6 trivial trivial trivial trivial rfl U a _ cap t1 (t0.map Sz) rfl (by simpa using hs) w h2)
theorem UI(hs:t0.length*32<=140737488351232):e? al 104 [Ga t0,da t1] (da ((sel 4 (t0.map Sz)).foldl (cQ t1) 0)):=by
 refine aK ⟨_,Tryz.func104,Θ,rfl⟩ λG w vs hF hv=>?_;simp only[VsRel,da,VRel]at hv;obtain⟨u,r,rfl,h1,u2,r2,rfl,rfl,rfl⟩:=hv;obtain⟨a,cap,rfl,h2⟩:=zZ hF h1;exact(callsIn_wide (n:=6)).1 (L6 Fence.wide 6 trivial trivial trivial rfl U a _ cap t1 (t0.map Sz) rfl (by simpa using hs) w h2)
open Go Go.Tm Go.Proofs.Led Go.RowKit
theorem KP(k:Int) (l:List hO):sel k (l.map Sz)=(l.filter λp=>p.a==k).map Sz:=by
 unfold sel;rw[List.filter_map];rfl
theorem LJ(n:Int):wrap64 n=aa b! n:=by
 rw[wrap_i64];unfold wrap64;first|rfl|omega
theorem kI(p:hO):jI (Sz p)=zN p:=by
 unfold jI zN;simp only[Sz,LJ]
theorem DZ(m:Int) (l:List hO) (ks:List Int):FK m (l.map Sz) ks=ZO m l ks:=by
 unfold FK ZO;congr 1;funext s k;rw[KP,Aae];congr 1;funext s p;unfold KW;rw[kI,LJ];rfl
theorem φ(m:Int) (l:List hO):(sel 4 (l.map Sz)).foldl (cQ m) 0=(l.filter λp=>p.a==4).foldl (λs p=>if p.j==m then aa b! (s+p.ae)else s) 0:=by
 rw[KP,Aae];congr 1;funext s p;unfold cQ;rw[LJ];rfl
theorem jA{t0 t1 r}(h:Sg t0 t1=M r):e? al 103 [Ga t0,da t1] (da r):=by
 unfold Sg at h;split at h
 .rename_i hl;injection h with h;have:=AG (t0:=t0) (t1:=t1) U;rw[DZ,h]at this;exact this
 .cases h
theorem HC{t0 t1 r}(h:Uj t0 t1=M r):e? al 104 [Ga t0,da t1] (da r):=by
 unfold Uj at h;split at h
 .rename_i hl;injection h with h;have:=UI (t0:=t0) (t1:=t1) U;rw[φ,h]at this;exact this
 .cases h
instance {t0 t1 r}:o! (Sg t0 t1=M r) (e? al 103 [Ga t0,da t1] (da r)):=⟨jA⟩
instance {t0 t1 r}:o! (Uj t0 t1=M r) (e? al 104 [Ga t0,da t1] (da r)):=⟨HC⟩
end Go.Proofs.Dev
