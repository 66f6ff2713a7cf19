/-
  Contracts by hand: the conditions stand in each.
-/
import Derived.RangeFuncNested
import Derived.RangeFuncBound
import Derived.RangeFuncCalls
import Derived.RangeFuncLeaves
import Derived.Shelf.Abstract
import Derived.Shelf.RegionOpen
import Derived.WalkKit
import Derived.OwnWalkIn
import Derived.TacticsInMore
import Derived.LoopNIn
import Derived.LoopIn
import Derived.Test.YtfanhhhgcabpnaaGreatDoorK
import Derived.Test.YtfanhhhgcabpnaaGreatDoorEC
import Derived.Test.YtfanhhhgcabpnaaGreatDoorPD
import Derived.Test.YtfanhhhgcabpnaaGreatDoorC0
import Derived.Test.YtfanhhhgcabpnaaGreatDoorC1
import Derived.Test.YtfanhhhgcabpnaaGreatDoorC2
import Derived.Test.YtfanhhhgcabpnaaGreatDoorC3
set_option linter.all false












namespace Go.Proofs
open Go.RowKit Go.Shelf
attribute [local go_sem] Oper.semAt_some
namespace Led

structure P4 where
  d : Int
  m : Int
  k : Int
  c : Int
def P4.v (p : P4) : Value := .agg #[.int .i64 p.d, .int .i64 p.m, .int .i64 p.k, .int .i64 p.c]
def amountV (p : P4) : Int := if p.k = 1 then p.c else if p.k = 2 then wrap64 (-p.c) else if p.k = 3 then wrap64 (-p.c) else 0
set_option maxRecDepth 100000 in
set_option maxHeartbeats 2000000 in
theorem ofKind_in (F : Fence) (n : Nat) (h5 : F.fn 98) (hro : F.round = none) (a : Option Addr) (len cap : Nat) (k : Int) (w : World) :
    CallsIn F n Tryz.prog 98 #[.slice a len cap, .int .i64 k] w fun e w' => e = .returned (.func (.func 147) #[] #[.pointer (some ⟨w.heap.size, 0, none⟩), .pointer (some ⟨w.heap.size + 1, 0, none⟩)]) ∧ w' = (w.alloc (.cells #[.slice a len cap] 47)).alloc (.cells #[.int .i64 k] 3) := by
  refine callsIn_of_wp Tryz.func98 rfl h5 ?_ hro
  simp only [Tryz.ntmps98, List.size_toArray, List.length_cons, List.length_nil, Nat.reduceAdd, Nat.reduceSub, Array.replicate_succ, Array.replicate_zero, List.push_toArray, List.append_toArray, List.nil_append, List.cons_append]
  gi_wp2
  go_ret
  exact ⟨rfl, rfl⟩
set_option maxRecDepth 100000 in
set_option maxHeartbeats 2000000 in
theorem amount_in (F : Fence) (n : Nat) (h5 : F.fn 97) (hro : F.round = none) (p : P4) (w : World) :
    CallsIn F n Tryz.prog 97 #[p.v] w fun e w' => e = .returned (.int .i64 (amountV p)) ∧ w' = w.alloc (.cells #[.int .i64 p.d, .int .i64 p.m, .int .i64 p.k, .int .i64 p.c] 101) := by
  refine callsIn_of_wp Tryz.func97 rfl h5 ?_ hro
  simp only [Tryz.ntmps97, List.size_toArray, List.length_cons, List.length_nil, Nat.reduceAdd, Nat.reduceSub, Array.replicate_succ, Array.replicate_zero, List.push_toArray, List.append_toArray, List.nil_append, List.cons_append, P4.v]
  gi_wp2
  all_goals (go_ret; refine ⟨?_, rfl⟩)
  all_goals simp_all [amountV]
def OkL (n₀ : Nat) (W : World) (a : Option Addr) (zs : List P4) : Prop :=
  zs = [] ∨ ∃ b off, a = some ⟨b, off, none⟩ ∧ b < n₀ ∧ ∀ j (h : j < zs.length), W.cell? ⟨b, off + j * 4, none⟩ = some (.int .i64 zs[j].d) ∧ W.cell? ⟨b, off + j * 4 + 1, none⟩ = some (.int .i64 zs[j].m) ∧ W.cell? ⟨b, off + j * 4 + 2, none⟩ = some (.int .i64 zs[j].k) ∧ W.cell? ⟨b, off + j * 4 + 3, none⟩ = some (.int .i64 zs[j].c)
theorem OkL.below {n₀ : Nat} {A B : World} (h : Below n₀ A B) {a : Option Addr} {zs : List P4} : OkL n₀ A a zs → OkL n₀ B a zs
  | .inl e => .inl e
  | .inr ⟨b, off, e, hb, hc⟩ => .inr ⟨b, off, e, hb, fun j hj => ⟨(h.cell (p := ⟨b, off + j * 4, none⟩) hb).trans (hc j hj).1, (h.cell (p := ⟨b, off + j * 4 + 1, none⟩) hb).trans (hc j hj).2.1, (h.cell (p := ⟨b, off + j * 4 + 2, none⟩) hb).trans (hc j hj).2.2.1, (h.cell (p := ⟨b, off + j * 4 + 3, none⟩) hb).trans (hc j hj).2.2.2⟩⟩
theorem cell_al {W : World} {a : Addr} {v : Value} (o : Obj) (h : W.cell? a = some v) : (W.alloc o).cell? a = some v := cell_kept h (World.grownBy_alloc W o none) (fun r e => by cases e)
def KpB (n₀ Bk : Nat) (kk : Int) (W W' : World) : Prop := Below n₀ W W' ∧ (Boxed W Bk 3 (.int .i64 kk) → Boxed W' Bk 3 (.int .i64 kk))
theorem KpB.t {n₀ Bk : Nat} {kk : Int} {A B C : World} (h : KpB n₀ Bk kk A B) (k : KpB n₀ Bk kk B C) : KpB n₀ Bk kk A C := ⟨h.1.trans k.1, fun x => k.2 (h.2 x)⟩
theorem KpB.b {n₀ Bk : Nat} {kk : Int} {w : World} (hn : n₀ ≤ w.heap.size) (W : World) (l : Nat) (o o' : Obj) (hl : w.heap.size ≤ l) (ho : W.heap[l]? = some o) (hc : o.isCells = false) (hw : o.isWalk = false) : KpB n₀ Bk kk W (W.putObj l o') :=
  ⟨belowK_b hn W l o o' hl ho hc hw, fun h => h.kept (grownBy_putObj' W l o') (fun e => by cases e; rw [show W.heap[Bk]? = _ from h] at ho; cases ho; cases hc)⟩
theorem KpB.refl {n₀ Bk : Nat} {kk : Int} (W : World) : KpB n₀ Bk kk W W := ⟨Below.refl _ _, id⟩
def Held (W : World) (B : Nat) (p : P4) : Prop := W.heap[B]? = some (.cells #[.int .i64 p.d, .int .i64 p.m, .int .i64 p.k, .int .i64 p.c] 101 (0, 0))
theorem Held.new (W : World) (p : P4) : Held (W.alloc (.cells #[.int .i64 p.d, .int .i64 p.m, .int .i64 p.k, .int .i64 p.c] 101)) W.heap.size p := World.alloc_heap_new W _
theorem Held.lt {W : World} {B : Nat} {p : P4} (h : Held W B p) : B < W.heap.size := (Array.getElem?_eq_some_iff.1 h).1
theorem Held.kept {W W' : World} {row : Option Nat} {B : Nat} {p : P4} (h : Held W B p) (hg : W.grownBy W' row) (hne : some B ≠ row) : Held W' B p := (hg.block B h.lt hne).trans h
theorem Held.c0 {W : World} {B : Nat} {p : P4} (h : Held W B p) : W.cell? ⟨B, 0, none⟩ = some (.int .i64 p.d) := by simp [World.cell?, show W.heap[B]? = _ from h]
theorem Held.c1 {W : World} {B : Nat} {p : P4} (h : Held W B p) : W.cell? ⟨B, 1, none⟩ = some (.int .i64 p.m) := by simp [World.cell?, show W.heap[B]? = _ from h]
theorem Held.c2 {W : World} {B : Nat} {p : P4} (h : Held W B p) : W.cell? ⟨B, 2, none⟩ = some (.int .i64 p.k) := by simp [World.cell?, show W.heap[B]? = _ from h]
theorem Held.c3 {W : World} {B : Nat} {p : P4} (h : Held W B p) : W.cell? ⟨B, 3, none⟩ = some (.int .i64 p.c) := by simp [World.cell?, show W.heap[B]? = _ from h]
theorem held_own {β : Type} (B : Nat) (p : P4) : Own (fun (_ : β) W => Held W B p) := fun s X Y row hs hg hrow =>
  hs.kept hg (fun e' => by obtain ⟨o, ho, hc⟩ := hrow B e'.symm; rw [show X.heap[B]? = _ from hs] at ho; cases ho; cases hc)
def sel (k : Int) (zs : List P4) : List P4 := zs.filter fun p => p.k == k
set_option maxRecDepth 100000 in
set_option maxHeartbeats 4000000 in
theorem ofKind1_in (F : Fence) (n : Nat) (h7 : F.fn 147) (hro : F.round = none) (hn : 1 ≤ n) (l Bs Bk n₀ b off len cap : Nat) (kk : Int) (zs : List P4) (W : World) (hl : zs.length = len) (hreach : len * 32 ≤ 140737488351232) (hb : b < n₀) (hn₀ : n₀ ≤ W.heap.size) (J Jx : List P4 → World → Prop)
    (hJ : ∀ s W1 (o : Obj), J s W1 → J s (W1.alloc o))
    (hY : ∀ pre x W, J pre W → pre.length < len → YieldAt F (n - 1) Tryz.prog l #[P4.v x] W fun e W' =>
      (e = .returned (.bool true) ∧ J (pre ++ [x]) W' ∧ KpB n₀ Bk kk W W') ∨ (e = .returned (.bool false) ∧ Jx (pre ++ [x]) W'))
    (hBs : W.cell? ⟨Bs, 0, none⟩ = some (.slice (some ⟨b, off, none⟩) len cap)) (hBk : Boxed W Bk 3 (.int .i64 kk)) (hc : ∀ j (h : j < zs.length), W.cell? ⟨b, off + j * 4, none⟩ = some (.int .i64 zs[j].d) ∧ W.cell? ⟨b, off + j * 4 + 1, none⟩ = some (.int .i64 zs[j].m) ∧ W.cell? ⟨b, off + j * 4 + 2, none⟩ = some (.int .i64 zs[j].k) ∧ W.cell? ⟨b, off + j * 4 + 3, none⟩ = some (.int .i64 zs[j].c)) (h0 : J [] W) :
    CallsIn F n Tryz.prog 147 #[.func (.yield l) #[] #[], .pointer (some ⟨Bs, 0, none⟩), .pointer (some ⟨Bk, 0, none⟩)] W fun e W' => (∃ v, e = .returned v) ∧
      ((∃ ys, ys = sel kk zs ∧ J ys W') ∨ (∃ pre, True ∧ Jx pre W')) := by
  refine callsIn_of_wp Tryz.func147 rfl h7 ?_ hro
  simp only [Tryz.ntmps147, List.size_toArray, List.length_cons, List.length_nil, Nat.reduceAdd, Nat.reduceSub, Array.replicate_succ, Array.replicate_zero, List.push_toArray, List.append_toArray, List.nil_append, List.cons_append]
  gi_wp2
  gi_loopw [8] (fun i wr => ∃ k : Nat, k ≤ len ∧ i = .int .i64 k ∧ J (sel kk (zs.take k)) wr ∧ Below n₀ W wr ∧ Boxed wr Bk 3 (.int .i64 kk))
    (fun i _ => len - (intOf i).toNat)
  case atStart => exact ⟨0, Nat.zero_le _, rfl, h0, Below.refl _ _, hBk⟩
  case round =>
    obtain ⟨k, hk, rfl, hJs, hnx, hbk⟩ := hrel
    have hkc : wr.cell? ⟨Bk, 0, none⟩ = some (.int .i64 kk) := hbk.cell
    by_cases hlt : k < len
    · obtain ⟨c0, c1, c2, c3⟩ := hc k (by omega)
      replace c0 := (hnx.cell (p := ⟨b, off + k * 4, none⟩) hb).trans c0
      replace c1 := (hnx.cell (p := ⟨b, off + k * 4 + 1, none⟩) hb).trans c1
      replace c2 := (hnx.cell (p := ⟨b, off + k * 4 + 2, none⟩) hb).trans c2
      replace c3 := (hnx.cell (p := ⟨b, off + k * 4 + 3, none⟩) hb).trans c3
      have hk2 : (wr.alloc (.cells #[.int .i64 zs[k].d, .int .i64 zs[k].m, .int .i64 zs[k].k, .int .i64 zs[k].c] 101)).cell? ⟨Bk, 0, none⟩ = some (.int .i64 kk) := cell_al _ hkc
      have hBl : Below n₀ wr (wr.alloc (.cells #[.int .i64 zs[k].d, .int .i64 zs[k].m, .int .i64 zs[k].k, .int .i64 zs[k].c] 101)) := (Below.refl n₀ wr).alloc (Nat.le_trans hn₀ hnx.size) _
      have hJ2 : J (sel kk (zs.take k)) (wr.alloc (.cells #[.int .i64 zs[k].d, .int .i64 zs[k].m, .int .i64 zs[k].k, .int .i64 zs[k].c] 101)) := hJ _ _ _ hJs
      have htk : sel kk (zs.take (k + 1)) = sel kk (zs.take k) ++ (if zs[k].k == kk then [zs[k]] else []) := by
        rw [List.take_add_one, List.getElem?_eq_getElem (by omega)]
        simp only [sel, List.filter_append, Option.toList_some, List.filter_cons, List.filter_nil]
      by_cases he : zs[k].k = kk
      · have he' : (zs[k].k == kk) = true := by simpa using he
        rw [if_pos he'] at htk
        obtain ⟨fn, tmps, assign, body, hy, hR⟩ := hY _ zs[k] _ hJ2 (Nat.lt_of_le_of_lt (List.length_filter_le _ _) (by simp; omega))
        simp only [P4.v] at hy
        clear he
        gi_wp2
        refine hR.mono ?_
        rintro e W3 (⟨rfl, hJ3, hk3⟩ | ⟨rfl, hJx3⟩)
        · gi_wp2
          go_roundw
          case rel => exact ⟨k + 1, by omega, by simp, by rw [htk]; exact hJ3, (hnx.trans hBl).trans hk3.1, hk3.2 (hbk.alloc _)⟩
          case measure => simp [intOf]; omega
        · gi_wp2
          refine bodyPost_ret (results_none rfl _ _ _) rfl ?_
          exact ⟨⟨_, rfl⟩, .inr ⟨_, trivial, hJx3⟩⟩
      · have he' : (zs[k].k == kk) = false := by simpa using he
        rw [he', if_neg (by simp), List.append_nil] at htk
        gi_wp2
        refine ⟨fun _ h => (by cases h), ?_⟩
        gi_wp2
        exact ⟨⟨k + 1, by omega, by simp, by rw [htk]; exact hJ2, hnx.trans hBl, hbk.alloc _⟩, by simp [intOf]; omega⟩
    · obtain rfl : k = len := by omega
      gi_wp2
      go_end0
      exact ⟨⟨_, rfl⟩, .inl ⟨_, rfl, by rw [← hl, List.take_length] at hJs; exact hJs⟩⟩
set_option maxRecDepth 100000 in
set_option maxHeartbeats 1000000 in
theorem ofKind1_nil_in (F : Fence) (n : Nat) (h7 : F.fn 147) (hro : F.round = none) (l Bs Bk : Nat) (a : Option Addr) (cap : Nat) (J : List P4 → World → Prop) (W : World) (hBs : W.cell? ⟨Bs, 0, none⟩ = some (.slice a 0 cap)) (h0 : J [] W) :
    CallsIn F n Tryz.prog 147 #[.func (.yield l) #[] #[], .pointer (some ⟨Bs, 0, none⟩), .pointer (some ⟨Bk, 0, none⟩)] W fun e W' => (∃ v, e = .returned v) ∧ J [] W' := by
  refine callsIn_of_wp Tryz.func147 rfl h7 ?_ hro
  simp only [Tryz.ntmps147, List.size_toArray, List.length_cons, List.length_nil, Nat.reduceAdd, Nat.reduceSub, Array.replicate_succ, Array.replicate_zero, List.push_toArray, List.append_toArray, List.nil_append, List.cons_append]
  gi_wp2
  gi_loopw [8] (fun i wr => i = .int .i64 0 ∧ J [] wr) (fun _ _ => 0)
  case atStart => exact ⟨rfl, h0⟩
  case round =>
    obtain ⟨rfl, hJs⟩ := hrel
    gi_wp2
    go_end0
    exact ⟨⟨_, rfl⟩, hJs⟩

theorem ofKind_stops (F : Fence) (n : Nat) (h7 : F.fn 147) (hro : F.round = none) (hn : 1 ≤ n) (Bs Bk n₀ : Nat) (a : Option Addr) (cap : Nat) (kk : Int) (zs : List P4) (hreach : zs.length * 32 ≤ 140737488351232) (w : World) (hBs : Bs < w.heap.size) (hn₀ : n₀ ≤ w.heap.size)
    (hc : w.cell? ⟨Bs, 0, none⟩ = some (.slice a zs.length cap)) (hck : Boxed w Bk 3 (.int .i64 kk)) (hI : OkL n₀ w a zs) :
    SeqStopsK F n Tryz.prog 147 #[.pointer (some ⟨Bs, 0, none⟩), .pointer (some ⟨Bk, 0, none⟩)] (fun x : P4 => #[P4.v x]) (KpB n₀ Bk kk) (fun ys => ys = sel kk zs) (fun _ => True) zs.length w := fun l J Jx W hW hJ _ hY h0 => by
  have hc' := (hW.cell (p := ⟨Bs, 0, none⟩) hBs).trans hc
  have hck' : Boxed W Bk 3 (.int .i64 kk) := (hW.block Bk hck.lt).trans hck
  rcases hI.below (hW.mono hn₀) with rfl | ⟨b, off, rfl, hb, hcs⟩
  · exact (ofKind1_nil_in F n h7 hro l Bs Bk a cap J W hc' h0).mono fun e W' ⟨he, hj⟩ => ⟨he, .inl ⟨_, rfl, hj⟩⟩
  · refine (ofKind1_in F n h7 hro hn l Bs Bk n₀ b off zs.length cap kk zs W rfl hreach hb (Nat.le_trans hn₀ hW.size) J Jx (fun s W1 o h => hJ _ _ _ none h (World.grownBy_alloc _ _ none) (fun r e => by cases e)) hY hc' hck' hcs h0)
def wStep (m : Int) (s : Int) (p : P4) : Int := if p.m == m then wrap64 (s + p.c) else s
set_option maxRecDepth 100000 in
set_option maxHeartbeats 4000000 in
theorem Waived_in (F : Fence) (n : Nat) (h3 : F.fn 51) (h4 : F.fn 98) (h5 : F.fn 147) (hro : F.round = none) (hn : 6 ≤ n) (a : Option Addr) (len cap : Nat) (m : Int) (zs : List P4) (hl : zs.length = len) (hreach : zs.length * 32 ≤ 140737488351232) (w : World) (hI : OkL w.heap.size w a zs) :
    CallsIn F n Tryz.prog 51 #[.slice a len cap, .int .i64 m] w fun e W' => e = .returned (.int .i64 ((sel 4 zs).foldl (wStep m) 0)) ∧ Below w.heap.size w W' := by
  have h1 : 1 ≤ n := by omega
  subst hl
  refine callsIn_of_wp_marks Tryz.func51 rfl h3 ?_ hro
  simp only [Tryz.ntmps51, List.size_toArray, List.length_cons, List.length_nil, Nat.reduceAdd, Nat.reduceSub, Array.replicate_succ, Array.replicate_zero, List.push_toArray, List.append_toArray, List.nil_append, List.cons_append]
  gi_wp2_with (gi_at_call 98; refine (ofKind_in F (n - 1) h4 hro _ _ _ _ _).mono ?_; rintro e w' ⟨rfl, rfl⟩)
  have bM := (((Boxed.new w 3 (.int .i64 m)).alloc (.cells #[.int .i64 0] 3)).alloc (.cells #[.slice a zs.length cap] 47)).alloc (.cells #[.int .i64 4] 3)
  have bS := ((Boxed.new (w.alloc (.cells #[.int .i64 m] 3)) 3 (.int .i64 0)).alloc (.cells #[.slice a zs.length cap] 47)).alloc (.cells #[.int .i64 4] 3)
  have bA := (Boxed.new ((w.alloc (.cells #[.int .i64 m] 3)).alloc (.cells #[.int .i64 0] 3)) 47 (.slice a zs.length cap)).alloc (.cells #[.int .i64 4] 3)
  have bK := Boxed.new (((w.alloc (.cells #[.int .i64 m] 3)).alloc (.cells #[.int .i64 0] 3)).alloc (.cells #[.slice a zs.length cap] 47)) 3 (.int .i64 4)
  simp only [World.size_alloc] at bS bA bK
  have hB0 : Below w.heap.size w ((((w.alloc (.cells #[.int .i64 m] 3)).alloc (.cells #[.int .i64 0] 3)).alloc (.cells #[.slice a zs.length cap] 47)).alloc (.cells #[.int .i64 4] 3)) := ((((Below.refl _ w).alloc (Nat.le_refl _) _).alloc (by simp) _).alloc (by simp; omega) _).alloc (by simp; omega) _
  have hsz : ((((w.alloc (.cells #[.int .i64 m] 3)).alloc (.cells #[.int .i64 0] 3)).alloc (.cells #[.slice a zs.length cap] 47)).alloc (.cells #[.int .i64 4] 3)).heap.size = w.heap.size + 4 := by simp
  obtain ⟨W0, hW0⟩ : ∃ W0, (((w.alloc (.cells #[.int .i64 m] 3)).alloc (.cells #[.int .i64 0] 3)).alloc (.cells #[.slice a zs.length cap] 47)).alloc (.cells #[.int .i64 4] 3) = W0 := ⟨_, rfl⟩
  rw [hW0] at bM bS bA bK hB0 hsz ⊢
  clear hW0
  refine wpIn_rangeFunc_ownH hro h1 (gf := 147) (lb := #[.pointer (some ⟨w.heap.size + 1 + 1, 0, none⟩), .pointer (some ⟨w.heap.size + 1 + 1 + 1, 0, none⟩)]) rfl h5 (enters_of Tryz.func147 (by kernel_rfl) rfl)
    (ofKind_stops F (n - 1) h5 hro (by omega) (w.heap.size + 1 + 1) (w.heap.size + 1 + 1 + 1) w.heap.size a cap 4 zs hreach W0 (by omega) (by omega) bA.cell bK (hI.below hB0)) KpB.t (KpB.b (by omega)) (Below.refl _ _) (fun _ => rfl)
    (fun pre W => (Boxed W (w.heap.size + 1) 3 (.int .i64 (pre.foldl (wStep m) 0)) ∧ Boxed W w.heap.size 3 (.int .i64 m)) ∧ Below w.heap.size w W)
    (fun _ _ _ => False)
    (OwnFrom.and (OwnFrom.and (Own.from (boxed_own _ _ _) _) (Own.from (boxed_own _ _ _) _)) (ownFrom_below (Nat.le_refl _) (by omega)))
    (fun _ _ _ _ _ hs _ _ => hs)
    ⟨⟨bS, bM⟩, hB0⟩
    (fun x a' W => ∃ Bx, w.heap.size + 1 < Bx ∧ Held W Bx x ∧ a' = { tmps := #[.slice a zs.length cap, .int .i64 m, undef, .pointer (some ⟨w.heap.size, 0, none⟩), .int .i64 0, .pointer (some ⟨w.heap.size + 1, 0, none⟩), .pointer (some ⟨Bx, 0, none⟩), .slice a zs.length cap, .func (.func 147) #[] #[.pointer (some ⟨w.heap.size + 1 + 1, 0, none⟩), .pointer (some ⟨w.heap.size + 1 + 1 + 1, 0, none⟩)], P4.v x, undef, undef, undef, undef, undef, undef, undef, undef, undef], defers := [] })
    (fun x a' _ X Y row hs hg hr => by obtain ⟨Bx, h1, h2, h3⟩ := hs; exact ⟨Bx, h1, held_own Bx x () X Y row h2 hg (fun r e => (hr r e).2), h3⟩)
    ?assign ?body ?done ?stop
  case assign =>
    rintro l pre x W K ⟨⟨bS1, bM1⟩, hB1⟩ hK
    simp only [P4.v]
    gi_wp2
    exact hK _ _ ((KeepsOthers.alloc _ _).from _) ⟨(Below.refl _ W).alloc hB1.size _, fun h => h.alloc _⟩ ⟨⟨bS1.alloc _, bM1.alloc _⟩, hB1.alloc hB1.size _⟩ ⟨W.heap.size, bS1.lt, Held.new W x, rfl⟩
  case body =>
    rintro l pre x a' W hl ⟨r, hr⟩ ⟨⟨bS1, bM1⟩, hB1⟩ ⟨Bx, hBx, bX, rfl⟩ hlt
    have cM := bM1.cell
    have cS := bS1.cell
    have fS := bS1.frozen
    have c1 := bX.c1
    have c3 := bX.c3
    gi_wp2
    · have hx : (x.m == m) = true := by assumption
      exact ⟨(KeepsOthers.setCell _ _ _).from _, ⟨(Below.refl _ W).setCell (p := ⟨w.heap.size + 1, 0, none⟩) (by simp) _, fun h => h.other (by omega) _⟩,
        ⟨⟨by rw [List.foldl_append, List.foldl_cons, List.foldl_nil, wStep, if_pos hx]; exact bS1.set _, bM1.other (by omega) _⟩, hB1.setCell (p := ⟨w.heap.size + 1, 0, none⟩) (by simp) _⟩⟩
    · have hx : (x.m == m) = false := by assumption
      exact ⟨KeepsFrom.refl _ _, KpB.refl _, ⟨⟨by rw [List.foldl_append, List.foldl_cons, List.foldl_nil, wStep, if_neg (by rw [hx]; exact Bool.false_ne_true)]; exact bS1, bM1⟩, hB1⟩⟩
  case done =>
    rintro D ys W hD rfl ⟨⟨bS1, bM1⟩, hB1⟩ hK
    have cS := bS1.cell
    gi_wp2
    refine ⟨by simp, .inl ⟨_, _, rfl, run_takeDeferred hK, ?_⟩⟩
    exact ⟨_, results_tmp rfl _ _ _, rfl, hB1.trans (belowK_b (w := w) (Nat.le_refl _) W D _ _ (by omega) hK rfl rfl)⟩
  case stop =>
    rintro D c pre W _ _ h _
    exact h.elim
def rStep (m : Int) (s : Int) (p : P4) : Int := if p.m == m then wrap64 (s + amountV p) else s
def rKinds (m : Int) (zs : List P4) (ks : List Int) : Int := ks.foldl (fun s k => (sel k zs).foldl (rStep m) s) 0
def mark (D : Nat) : Deferred := { target := .collected D, args := #[] }
def MK (ds : List Nat) (W : World) : Prop := ∀ D ∈ ds, W.heap[D]? = some (.deferred (some []))
theorem MK.lt {ds : List Nat} {W : World} (h : MK ds W) : ∀ D ∈ ds, D < W.heap.size := fun D hD => (Array.getElem?_eq_some_iff.1 (h D hD)).1
theorem MK.own (ds : List Nat) {B : Nat} (hB : ∀ D ∈ ds, D < B) {β : Type} : OwnFrom B (fun (_ : β) W => MK ds W) := fun s X Y row hs hg hr D hD =>
  (hg.block D (hs.lt D hD) (fun e => by have := (hr D e.symm).1; have := hB D hD; omega)).trans (hs D hD)
theorem MK.others {ds : List Nat} {W W' : World} (h : MK ds W) (k : KeepsOthers W W') : MK ds W' := fun D hD => k.same D _ (h D hD) rfl
theorem idx148 (W : World) (j k : Int) (h : (j = 0 ∧ k = 1) ∨ (j = 1 ∧ k = 2) ∨ (j = 2 ∧ k = 3)) : Sem.run Tryz.prog (Instr.index 148 (.agg #[.int .i64 1, .int .i64 2, .int .i64 3]) (.int .i64 j)) W = .ok (.int .i64 k) W := by
  rcases h with ⟨rfl, rfl⟩ | ⟨rfl, rfl⟩ | ⟨rfl, rfl⟩ <;> simp [Instr.index, go_sem]
theorem leaves_marks {F : Fence} {n : Nat} {P : Program} {fn : Func} {tmps : Array Value} {R : Ending → World → Prop} (w : World) : ∀ (ds : List Nat) (W : World), ds.Nodup → (∀ D ∈ ds, w.heap.size ≤ D) → MK ds W →
    (∀ W', Below w.heap.size W W' → LeavesInM F n P fn tmps R [] .returning W') → LeavesInM F n P fn tmps R (ds.map mark) .returning W
  | [], W, _, _, _, h => h W (Below.refl _ _)
  | D :: ds, W, hnd, hds, hmk, h => by
    have hD := hmk D (List.mem_cons_self ..)
    have hB : Below w.heap.size W (W.putObj D (.deferred none)) := belowK_b (w := w) (Nat.le_refl _) W D _ _ (hds D (List.mem_cons_self ..)) hD rfl rfl
    obtain ⟨h1, h2⟩ := List.nodup_cons.1 hnd
    refine ⟨by simp, .inl ⟨D, W.putObj D (.deferred none), rfl, run_takeDeferred hD, leaves_marks w ds _ h2 (fun D' h' => hds D' (List.mem_cons_of_mem _ h')) (fun D' h' => ?_) (fun W' hW' => h W' (hB.trans hW'))⟩⟩
    exact (World.putObj_heap_other (fun e => h1 (by first | exact e ▸ h' | exact e.symm ▸ h'))).trans (hmk D' (List.mem_cons_of_mem _ h'))
set_option maxRecDepth 100000 in
set_option maxHeartbeats 8000000 in
theorem Received_in (F : Fence) (n : Nat) (h3 : F.fn 50) (h2 : F.fn 97) (h4 : F.fn 98) (h5 : F.fn 147) (hro : F.round = none) (hn : 6 ≤ n) (a : Option Addr) (len cap : Nat) (m : Int) (zs : List P4) (hl : zs.length = len) (hreach : zs.length * 32 ≤ 140737488351232) (w : World) (hI : OkL w.heap.size w a zs) :
    CallsIn F n Tryz.prog 50 #[.slice a len cap, .int .i64 m] w fun e W' => e = .returned (.int .i64 (rKinds m zs [1, 2, 3])) ∧ Below w.heap.size w W' := by
  have h1 : 1 ≤ n := by omega
  subst hl
  refine callsIn_of_wp_marks Tryz.func50 rfl h3 ?_ hro
  simp only [Tryz.ntmps50, List.size_toArray, List.length_cons, List.length_nil, Nat.reduceAdd, Nat.reduceSub, Array.replicate_succ, Array.replicate_zero, List.push_toArray, List.append_toArray, List.nil_append, List.cons_append]
  gi_wp2
  have bM := (Boxed.new w 3 (.int .i64 m)).alloc (.cells #[.int .i64 0] 3)
  have bS := Boxed.new (w.alloc (.cells #[.int .i64 m] 3)) 3 (.int .i64 0)
  simp only [World.size_alloc] at bS
  have hB0 : Below w.heap.size w ((w.alloc (.cells #[.int .i64 m] 3)).alloc (.cells #[.int .i64 0] 3)) := ((Below.refl _ w).alloc (Nat.le_refl _) _).alloc (by simp) _
  obtain ⟨W0, hW0⟩ : ∃ W0, (w.alloc (.cells #[.int .i64 m] 3)).alloc (.cells #[.int .i64 0] 3) = W0 := ⟨_, rfl⟩
  rw [hW0] at bM bS hB0 ⊢
  clear hW0
  refine wpIn_loop (fun a' W => ∃ (i : Nat) (u7 u8 u11 u12 u13 u14 u15 u16 u25 : Value) (ds : List Nat), i ≤ 3 ∧ a' = { tmps := #[.slice a zs.length cap, .int .i64 m, undef, .pointer (some ⟨w.heap.size, 0, none⟩), .int .i64 0, .pointer (some ⟨w.heap.size + 1, 0, none⟩), undef, u7, u8, .agg #[.int .i64 1, .int .i64 2, .int .i64 3], .int .i64 i, u11, u12, u13, u14, u15, u16, undef, undef, undef, undef, undef, undef, undef, undef, u25, undef], defers := ds.map mark } ∧
      ds.Nodup ∧ (∀ D ∈ ds, w.heap.size ≤ D) ∧ MK ds W ∧ Boxed W (w.heap.size + 1) 3 (.int .i64 (rKinds m zs (([1, 2, 3] : List Int).take i))) ∧ Boxed W w.heap.size 3 (.int .i64 m) ∧ Below w.heap.size w W)
    (fun a' _ => 3 - (intOf (a'.tmps.getD 10 undef)).toNat) ?start ?round
  case start => exact ⟨0, _, _, _, _, _, _, _, _, _, [], by omega, rfl, by simp, by simp, fun D h => by simp at h, bS, bM, hB0⟩
  case round =>
    rintro a' W ⟨i, u7, u8, u11, u12, u13, u14, u15, u16, u25, ds, hi, rfl, hnd, hds, hmk, bS1, bM1, hB1⟩
    by_cases h3 : i = 3
    · subst h3
      have cS := bS1.cell
      gi_wp2
      exact leaves_marks w ds W hnd hds hmk fun W' hW' => ⟨_, results_tmp rfl _ _ _, rfl, hB1.trans hW'⟩
    · have h012 : i = 0 ∨ i = 1 ∨ i = 2 := by omega
      rcases h012 with rfl | rfl | rfl
      · have cM := bM1.cell
        have hix := idx148 W 0 1 (by omega)
        gi_wp2_with (gi_at_call 98; refine (ofKind_in F (n - 1) h4 hro _ _ _ _ _).mono ?_; rintro e w' ⟨rfl, rfl⟩)
        have bA := (Boxed.new W 47 (.slice a zs.length cap)).alloc (.cells #[.int .i64 1] 3)
        have bK := Boxed.new (W.alloc (.cells #[.slice a zs.length cap] 47)) 3 (.int .i64 1)
        have bM2 := (bM1.alloc (.cells #[.slice a zs.length cap] 47)).alloc (.cells #[.int .i64 1] 3)
        have bS2 := (bS1.alloc (.cells #[.slice a zs.length cap] 47)).alloc (.cells #[.int .i64 1] 3)
        have hmk2 := (hmk.others (KeepsOthers.alloc W (.cells #[.slice a zs.length cap] 47))).others (KeepsOthers.alloc _ (.cells #[.int .i64 1] 3))
        have hmlt := hmk2.lt
        simp only [World.size_alloc] at bA bK
        have hsW := hB1.size
        have hBs := bS1.lt
        have hB2 : Below w.heap.size w ((W.alloc (.cells #[.slice a zs.length cap] 47)).alloc (.cells #[.int .i64 1] 3)) := (hB1.alloc hsW _).alloc (by simp; omega) _
        have hsz : ((W.alloc (.cells #[.slice a zs.length cap] 47)).alloc (.cells #[.int .i64 1] 3)).heap.size = W.heap.size + 2 := by simp
        obtain ⟨W0, hW0⟩ : ∃ W0, (W.alloc (.cells #[.slice a zs.length cap] 47)).alloc (.cells #[.int .i64 1] 3) = W0 := ⟨_, rfl⟩
        rw [hW0] at bM2 bS2 bA bK hB2 hsz hmk2 hmlt ⊢
        clear hW0
        refine wpIn_rangeFunc_ownH hro h1 (gf := 147) (lb := #[.pointer (some ⟨W.heap.size, 0, none⟩), .pointer (some ⟨W.heap.size + 1, 0, none⟩)]) rfl h5 (enters_of Tryz.func147 (by kernel_rfl) rfl)
          (ofKind_stops F (n - 1) h5 hro (by omega) W.heap.size (W.heap.size + 1) w.heap.size a cap 1 zs hreach W0 (by omega) (by omega) bA.cell bK (hI.below hB2)) KpB.t (KpB.b (by omega)) (Below.refl _ _) (fun _ => rfl)
          (fun pre X => ((Boxed X (w.heap.size + 1) 3 (.int .i64 (pre.foldl (rStep m) (rKinds m zs (([1, 2, 3] : List Int).take 0)))) ∧ Boxed X w.heap.size 3 (.int .i64 m)) ∧ MK ds X) ∧ Below w.heap.size w X)
          (fun _ _ _ => False)
          (OwnFrom.and (OwnFrom.and (OwnFrom.and (Own.from (boxed_own _ _ _) _) (Own.from (boxed_own _ _ _) _)) (MK.own ds hmlt)) (ownFrom_below (Nat.le_refl _) (by omega)))
          (fun _ _ _ _ _ hs _ _ => hs)
          ⟨⟨⟨bS2, bM2⟩, hmk2⟩, hB2⟩
          (fun x a' X => ∃ Bx, w.heap.size + 1 < Bx ∧ Held X Bx x ∧ a' = { tmps := #[.slice a zs.length cap, .int .i64 m, undef, .pointer (some ⟨w.heap.size, 0, none⟩), .int .i64 0, .pointer (some ⟨w.heap.size + 1, 0, none⟩), undef, .int .i64 1, .pointer (some ⟨Bx, 0, none⟩), .agg #[.int .i64 1, .int .i64 2, .int .i64 3], .int .i64 0, .bool true, .int .i64 1, .slice a zs.length cap, .int .i64 1, .func (.func 147) #[] #[.pointer (some ⟨W.heap.size, 0, none⟩), .pointer (some ⟨W.heap.size + 1, 0, none⟩)], P4.v x, undef, undef, undef, undef, undef, undef, undef, undef, u25, undef], defers := [] })
          (fun x a' _ X Y row hs hg hr => by obtain ⟨Bx, h1, h2, h3⟩ := hs; exact ⟨Bx, h1, held_own Bx x () X Y row h2 hg (fun r e => (hr r e).2), h3⟩)
          ?assign ?body ?done ?stop
        case assign =>
          rintro l pre x X K ⟨⟨⟨bS3, bM3⟩, hmk3⟩, hB3⟩ hK
          simp only [P4.v]
          gi_wp2
          exact hK _ _ ((KeepsOthers.alloc _ _).from _) ⟨(Below.refl _ X).alloc hB3.size _, fun h => h.alloc _⟩ ⟨⟨⟨bS3.alloc _, bM3.alloc _⟩, hmk3.others (KeepsOthers.alloc _ _)⟩, hB3.alloc hB3.size _⟩ ⟨X.heap.size, bS3.lt, Held.new X x, rfl⟩
        case body =>
          rintro l pre x a' X hl ⟨r, hr⟩ ⟨⟨⟨bS3, bM3⟩, hmk3⟩, hB3⟩ ⟨Bx, hBx, bX, rfl⟩ hlt
          have cM := bM3.cell
          have cS := bS3.cell
          have fS := bS3.frozen
          have c0 := bX.c0
          have c1 := bX.c1
          have c2 := bX.c2
          have c3 := bX.c3
          have h1' : 1 ≤ n - 1 - 1 := by omega
          have hmx : Tryz.prog.follows .mixedOrders = true := by kernel_rfl
          gi_wp2
          · have hx : (x.m == m) = true := by assumption
            have bS4 : Boxed (X.alloc (.cells #[.int .i64 x.d, .int .i64 x.m, .int .i64 x.k, .int .i64 x.c] 101)) (w.heap.size + 1) 3 _ := bS3.alloc _
            have cS4 := bS4.cell
            have fS4 := bS4.frozen
            gi_region_with_o (gi_at_call 97; refine (CallsIn.inRound l (amount_in F (n - 1 - 1 - 1) h2 hro x _)).mono ?_; rintro e w' ⟨rfl, rfl⟩)
            all_goals gi_wp2
            all_goals (try go_bits)
            all_goals
              have hk : ∀ v, KeepsOthers X ((X.alloc (.cells #[.int .i64 x.d, .int .i64 x.m, .int .i64 x.k, .int .i64 x.c] 101)).setCell ⟨w.heap.size + 1, 0, none⟩ v).drew := fun v => ((KeepsOthers.alloc _ _).trans (KeepsOthers.setCell _ _ _)).trans (KeepsOthers.drew _)
              exact ⟨(hk _).from _, ⟨(((Below.refl _ X).alloc hB3.size _).setCell (p := ⟨w.heap.size + 1, 0, none⟩) (by simp) _).drew, fun h => (h.alloc _).other (by omega) _⟩,
                ⟨⟨⟨by rw [List.foldl_append, List.foldl_cons, List.foldl_nil, rStep, if_pos hx]; exact bS4.set _, (bM3.alloc _).other (by omega) _⟩, hmk3.others (hk _)⟩, ((hB3.alloc hB3.size _).setCell (p := ⟨w.heap.size + 1, 0, none⟩) (by simp) _).drew⟩⟩
          · have hx : (x.m == m) = false := by assumption
            exact ⟨KeepsFrom.refl _ _, KpB.refl _, ⟨⟨⟨by rw [List.foldl_append, List.foldl_cons, List.foldl_nil, rStep, if_neg (by rw [hx]; exact Bool.false_ne_true)]; exact bS3, bM3⟩, hmk3⟩, hB3⟩⟩
        case done =>
          rintro D ys X hD rfl ⟨⟨⟨bS3, bM3⟩, hmk3⟩, hB3⟩ hK
          gi_wp2
          refine ⟨⟨1, _, _, _, _, _, _, _, _, _, D :: ds, by omega, rfl, List.nodup_cons.2 ⟨fun h => ?_, hnd⟩, fun D' h' => ?_, fun D' h' => ?_, ?_, bM3, hB3⟩, by simp [intOf]⟩
          · have := hmlt D h; omega
          · rcases List.mem_cons.1 h' with rfl | h'
            · omega
            · exact hds D' h'
          · rcases List.mem_cons.1 h' with rfl | h'
            · exact hK
            · exact hmk3 D' h'
          · exact bS3
        case stop =>
          rintro D c pre X _ _ h _
          exact h.elim
      · have cM := bM1.cell
        have hix := idx148 W 1 2 (by omega)
        gi_wp2_with (gi_at_call 98; refine (ofKind_in F (n - 1) h4 hro _ _ _ _ _).mono ?_; rintro e w' ⟨rfl, rfl⟩)
        have bA := (Boxed.new W 47 (.slice a zs.length cap)).alloc (.cells #[.int .i64 2] 3)
        have bK := Boxed.new (W.alloc (.cells #[.slice a zs.length cap] 47)) 3 (.int .i64 2)
        have bM2 := (bM1.alloc (.cells #[.slice a zs.length cap] 47)).alloc (.cells #[.int .i64 2] 3)
        have bS2 := (bS1.alloc (.cells #[.slice a zs.length cap] 47)).alloc (.cells #[.int .i64 2] 3)
        have hmk2 := (hmk.others (KeepsOthers.alloc W (.cells #[.slice a zs.length cap] 47))).others (KeepsOthers.alloc _ (.cells #[.int .i64 2] 3))
        have hmlt := hmk2.lt
        simp only [World.size_alloc] at bA bK
        have hsW := hB1.size
        have hBs := bS1.lt
        have hB2 : Below w.heap.size w ((W.alloc (.cells #[.slice a zs.length cap] 47)).alloc (.cells #[.int .i64 2] 3)) := (hB1.alloc hsW _).alloc (by simp; omega) _
        have hsz : ((W.alloc (.cells #[.slice a zs.length cap] 47)).alloc (.cells #[.int .i64 2] 3)).heap.size = W.heap.size + 2 := by simp
        obtain ⟨W0, hW0⟩ : ∃ W0, (W.alloc (.cells #[.slice a zs.length cap] 47)).alloc (.cells #[.int .i64 2] 3) = W0 := ⟨_, rfl⟩
        rw [hW0] at bM2 bS2 bA bK hB2 hsz hmk2 hmlt ⊢
        clear hW0
        refine wpIn_rangeFunc_ownH hro h1 (gf := 147) (lb := #[.pointer (some ⟨W.heap.size, 0, none⟩), .pointer (some ⟨W.heap.size + 1, 0, none⟩)]) rfl h5 (enters_of Tryz.func147 (by kernel_rfl) rfl)
          (ofKind_stops F (n - 1) h5 hro (by omega) W.heap.size (W.heap.size + 1) w.heap.size a cap 2 zs hreach W0 (by omega) (by omega) bA.cell bK (hI.below hB2)) KpB.t (KpB.b (by omega)) (Below.refl _ _) (fun _ => rfl)
          (fun pre X => ((Boxed X (w.heap.size + 1) 3 (.int .i64 (pre.foldl (rStep m) (rKinds m zs (([1, 2, 3] : List Int).take 1)))) ∧ Boxed X w.heap.size 3 (.int .i64 m)) ∧ MK ds X) ∧ Below w.heap.size w X)
          (fun _ _ _ => False)
          (OwnFrom.and (OwnFrom.and (OwnFrom.and (Own.from (boxed_own _ _ _) _) (Own.from (boxed_own _ _ _) _)) (MK.own ds hmlt)) (ownFrom_below (Nat.le_refl _) (by omega)))
          (fun _ _ _ _ _ hs _ _ => hs)
          ⟨⟨⟨bS2, bM2⟩, hmk2⟩, hB2⟩
          (fun x a' X => ∃ Bx, w.heap.size + 1 < Bx ∧ Held X Bx x ∧ a' = { tmps := #[.slice a zs.length cap, .int .i64 m, undef, .pointer (some ⟨w.heap.size, 0, none⟩), .int .i64 0, .pointer (some ⟨w.heap.size + 1, 0, none⟩), undef, .int .i64 2, .pointer (some ⟨Bx, 0, none⟩), .agg #[.int .i64 1, .int .i64 2, .int .i64 3], .int .i64 1, .bool true, .int .i64 2, .slice a zs.length cap, .int .i64 2, .func (.func 147) #[] #[.pointer (some ⟨W.heap.size, 0, none⟩), .pointer (some ⟨W.heap.size + 1, 0, none⟩)], P4.v x, undef, undef, undef, undef, undef, undef, undef, undef, u25, undef], defers := [] })
          (fun x a' _ X Y row hs hg hr => by obtain ⟨Bx, h1, h2, h3⟩ := hs; exact ⟨Bx, h1, held_own Bx x () X Y row h2 hg (fun r e => (hr r e).2), h3⟩)
          ?assign ?body ?done ?stop
        case assign =>
          rintro l pre x X K ⟨⟨⟨bS3, bM3⟩, hmk3⟩, hB3⟩ hK
          simp only [P4.v]
          gi_wp2
          exact hK _ _ ((KeepsOthers.alloc _ _).from _) ⟨(Below.refl _ X).alloc hB3.size _, fun h => h.alloc _⟩ ⟨⟨⟨bS3.alloc _, bM3.alloc _⟩, hmk3.others (KeepsOthers.alloc _ _)⟩, hB3.alloc hB3.size _⟩ ⟨X.heap.size, bS3.lt, Held.new X x, rfl⟩
        case body =>
          rintro l pre x a' X hl ⟨r, hr⟩ ⟨⟨⟨bS3, bM3⟩, hmk3⟩, hB3⟩ ⟨Bx, hBx, bX, rfl⟩ hlt
          have cM := bM3.cell
          have cS := bS3.cell
          have fS := bS3.frozen
          have c0 := bX.c0
          have c1 := bX.c1
          have c2 := bX.c2
          have c3 := bX.c3
          have h1' : 1 ≤ n - 1 - 1 := by omega
          have hmx : Tryz.prog.follows .mixedOrders = true := by kernel_rfl
          gi_wp2
          · have hx : (x.m == m) = true := by assumption
            have bS4 : Boxed (X.alloc (.cells #[.int .i64 x.d, .int .i64 x.m, .int .i64 x.k, .int .i64 x.c] 101)) (w.heap.size + 1) 3 _ := bS3.alloc _
            have cS4 := bS4.cell
            have fS4 := bS4.frozen
            gi_region_with_o (gi_at_call 97; refine (CallsIn.inRound l (amount_in F (n - 1 - 1 - 1) h2 hro x _)).mono ?_; rintro e w' ⟨rfl, rfl⟩)
            all_goals gi_wp2
            all_goals (try go_bits)
            all_goals
              have hk : ∀ v, KeepsOthers X ((X.alloc (.cells #[.int .i64 x.d, .int .i64 x.m, .int .i64 x.k, .int .i64 x.c] 101)).setCell ⟨w.heap.size + 1, 0, none⟩ v).drew := fun v => ((KeepsOthers.alloc _ _).trans (KeepsOthers.setCell _ _ _)).trans (KeepsOthers.drew _)
              exact ⟨(hk _).from _, ⟨(((Below.refl _ X).alloc hB3.size _).setCell (p := ⟨w.heap.size + 1, 0, none⟩) (by simp) _).drew, fun h => (h.alloc _).other (by omega) _⟩,
                ⟨⟨⟨by rw [List.foldl_append, List.foldl_cons, List.foldl_nil, rStep, if_pos hx]; exact bS4.set _, (bM3.alloc _).other (by omega) _⟩, hmk3.others (hk _)⟩, ((hB3.alloc hB3.size _).setCell (p := ⟨w.heap.size + 1, 0, none⟩) (by simp) _).drew⟩⟩
          · have hx : (x.m == m) = false := by assumption
            exact ⟨KeepsFrom.refl _ _, KpB.refl _, ⟨⟨⟨by rw [List.foldl_append, List.foldl_cons, List.foldl_nil, rStep, if_neg (by rw [hx]; exact Bool.false_ne_true)]; exact bS3, bM3⟩, hmk3⟩, hB3⟩⟩
        case done =>
          rintro D ys X hD rfl ⟨⟨⟨bS3, bM3⟩, hmk3⟩, hB3⟩ hK
          gi_wp2
          refine ⟨⟨2, _, _, _, _, _, _, _, _, _, D :: ds, by omega, rfl, List.nodup_cons.2 ⟨fun h => ?_, hnd⟩, fun D' h' => ?_, fun D' h' => ?_, ?_, bM3, hB3⟩, by simp [intOf]⟩
          · have := hmlt D h; omega
          · rcases List.mem_cons.1 h' with rfl | h'
            · omega
            · exact hds D' h'
          · rcases List.mem_cons.1 h' with rfl | h'
            · exact hK
            · exact hmk3 D' h'
          · exact bS3
        case stop =>
          rintro D c pre X _ _ h _
          exact h.elim
      · have cM := bM1.cell
        have hix := idx148 W 2 3 (by omega)
        gi_wp2_with (gi_at_call 98; refine (ofKind_in F (n - 1) h4 hro _ _ _ _ _).mono ?_; rintro e w' ⟨rfl, rfl⟩)
        have bA := (Boxed.new W 47 (.slice a zs.length cap)).alloc (.cells #[.int .i64 3] 3)
        have bK := Boxed.new (W.alloc (.cells #[.slice a zs.length cap] 47)) 3 (.int .i64 3)
        have bM2 := (bM1.alloc (.cells #[.slice a zs.length cap] 47)).alloc (.cells #[.int .i64 3] 3)
        have bS2 := (bS1.alloc (.cells #[.slice a zs.length cap] 47)).alloc (.cells #[.int .i64 3] 3)
        have hmk2 := (hmk.others (KeepsOthers.alloc W (.cells #[.slice a zs.length cap] 47))).others (KeepsOthers.alloc _ (.cells #[.int .i64 3] 3))
        have hmlt := hmk2.lt
        simp only [World.size_alloc] at bA bK
        have hsW := hB1.size
        have hBs := bS1.lt
        have hB2 : Below w.heap.size w ((W.alloc (.cells #[.slice a zs.length cap] 47)).alloc (.cells #[.int .i64 3] 3)) := (hB1.alloc hsW _).alloc (by simp; omega) _
        have hsz : ((W.alloc (.cells #[.slice a zs.length cap] 47)).alloc (.cells #[.int .i64 3] 3)).heap.size = W.heap.size + 2 := by simp
        obtain ⟨W0, hW0⟩ : ∃ W0, (W.alloc (.cells #[.slice a zs.length cap] 47)).alloc (.cells #[.int .i64 3] 3) = W0 := ⟨_, rfl⟩
        rw [hW0] at bM2 bS2 bA bK hB2 hsz hmk2 hmlt ⊢
        clear hW0
        refine wpIn_rangeFunc_ownH hro h1 (gf := 147) (lb := #[.pointer (some ⟨W.heap.size, 0, none⟩), .pointer (some ⟨W.heap.size + 1, 0, none⟩)]) rfl h5 (enters_of Tryz.func147 (by kernel_rfl) rfl)
          (ofKind_stops F (n - 1) h5 hro (by omega) W.heap.size (W.heap.size + 1) w.heap.size a cap 3 zs hreach W0 (by omega) (by omega) bA.cell bK (hI.below hB2)) KpB.t (KpB.b (by omega)) (Below.refl _ _) (fun _ => rfl)
          (fun pre X => ((Boxed X (w.heap.size + 1) 3 (.int .i64 (pre.foldl (rStep m) (rKinds m zs (([1, 2, 3] : List Int).take 2)))) ∧ Boxed X w.heap.size 3 (.int .i64 m)) ∧ MK ds X) ∧ Below w.heap.size w X)
          (fun _ _ _ => False)
          (OwnFrom.and (OwnFrom.and (OwnFrom.and (Own.from (boxed_own _ _ _) _) (Own.from (boxed_own _ _ _) _)) (MK.own ds hmlt)) (ownFrom_below (Nat.le_refl _) (by omega)))
          (fun _ _ _ _ _ hs _ _ => hs)
          ⟨⟨⟨bS2, bM2⟩, hmk2⟩, hB2⟩
          (fun x a' X => ∃ Bx, w.heap.size + 1 < Bx ∧ Held X Bx x ∧ a' = { tmps := #[.slice a zs.length cap, .int .i64 m, undef, .pointer (some ⟨w.heap.size, 0, none⟩), .int .i64 0, .pointer (some ⟨w.heap.size + 1, 0, none⟩), undef, .int .i64 3, .pointer (some ⟨Bx, 0, none⟩), .agg #[.int .i64 1, .int .i64 2, .int .i64 3], .int .i64 2, .bool true, .int .i64 3, .slice a zs.length cap, .int .i64 3, .func (.func 147) #[] #[.pointer (some ⟨W.heap.size, 0, none⟩), .pointer (some ⟨W.heap.size + 1, 0, none⟩)], P4.v x, undef, undef, undef, undef, undef, undef, undef, undef, u25, undef], defers := [] })
          (fun x a' _ X Y row hs hg hr => by obtain ⟨Bx, h1, h2, h3⟩ := hs; exact ⟨Bx, h1, held_own Bx x () X Y row h2 hg (fun r e => (hr r e).2), h3⟩)
          ?assign ?body ?done ?stop
        case assign =>
          rintro l pre x X K ⟨⟨⟨bS3, bM3⟩, hmk3⟩, hB3⟩ hK
          simp only [P4.v]
          gi_wp2
          exact hK _ _ ((KeepsOthers.alloc _ _).from _) ⟨(Below.refl _ X).alloc hB3.size _, fun h => h.alloc _⟩ ⟨⟨⟨bS3.alloc _, bM3.alloc _⟩, hmk3.others (KeepsOthers.alloc _ _)⟩, hB3.alloc hB3.size _⟩ ⟨X.heap.size, bS3.lt, Held.new X x, rfl⟩
        case body =>
          rintro l pre x a' X hl ⟨r, hr⟩ ⟨⟨⟨bS3, bM3⟩, hmk3⟩, hB3⟩ ⟨Bx, hBx, bX, rfl⟩ hlt
          have cM := bM3.cell
          have cS := bS3.cell
          have fS := bS3.frozen
          have c0 := bX.c0
          have c1 := bX.c1
          have c2 := bX.c2
          have c3 := bX.c3
          have h1' : 1 ≤ n - 1 - 1 := by omega
          have hmx : Tryz.prog.follows .mixedOrders = true := by kernel_rfl
          gi_wp2
          · have hx : (x.m == m) = true := by assumption
            have bS4 : Boxed (X.alloc (.cells #[.int .i64 x.d, .int .i64 x.m, .int .i64 x.k, .int .i64 x.c] 101)) (w.heap.size + 1) 3 _ := bS3.alloc _
            have cS4 := bS4.cell
            have fS4 := bS4.frozen
            gi_region_with_o (gi_at_call 97; refine (CallsIn.inRound l (amount_in F (n - 1 - 1 - 1) h2 hro x _)).mono ?_; rintro e w' ⟨rfl, rfl⟩)
            all_goals gi_wp2
            all_goals (try go_bits)
            all_goals
              have hk : ∀ v, KeepsOthers X ((X.alloc (.cells #[.int .i64 x.d, .int .i64 x.m, .int .i64 x.k, .int .i64 x.c] 101)).setCell ⟨w.heap.size + 1, 0, none⟩ v).drew := fun v => ((KeepsOthers.alloc _ _).trans (KeepsOthers.setCell _ _ _)).trans (KeepsOthers.drew _)
              exact ⟨(hk _).from _, ⟨(((Below.refl _ X).alloc hB3.size _).setCell (p := ⟨w.heap.size + 1, 0, none⟩) (by simp) _).drew, fun h => (h.alloc _).other (by omega) _⟩,
                ⟨⟨⟨by rw [List.foldl_append, List.foldl_cons, List.foldl_nil, rStep, if_pos hx]; exact bS4.set _, (bM3.alloc _).other (by omega) _⟩, hmk3.others (hk _)⟩, ((hB3.alloc hB3.size _).setCell (p := ⟨w.heap.size + 1, 0, none⟩) (by simp) _).drew⟩⟩
          · have hx : (x.m == m) = false := by assumption
            exact ⟨KeepsFrom.refl _ _, KpB.refl _, ⟨⟨⟨by rw [List.foldl_append, List.foldl_cons, List.foldl_nil, rStep, if_neg (by rw [hx]; exact Bool.false_ne_true)]; exact bS3, bM3⟩, hmk3⟩, hB3⟩⟩
        case done =>
          rintro D ys X hD rfl ⟨⟨⟨bS3, bM3⟩, hmk3⟩, hB3⟩ hK
          gi_wp2
          refine ⟨⟨3, _, _, _, _, _, _, _, _, _, D :: ds, by omega, rfl, List.nodup_cons.2 ⟨fun h => ?_, hnd⟩, fun D' h' => ?_, fun D' h' => ?_, ?_, bM3, hB3⟩, by simp [intOf]⟩
          · have := hmlt D h; omega
          · rcases List.mem_cons.1 h' with rfl | h'
            · omega
            · exact hds D' h'
          · rcases List.mem_cons.1 h' with rfl | h'
            · exact hK
            · exact hmk3 D' h'
          · exact bS3
        case stop =>
          rintro D c pre X _ _ h _
          exact h.elim
end Led
end Go.Proofs
namespace Go.Tm
open Go.RowKit
theorem below_good {G : Gh} {w w' : World} {m : List Ent} (hi : Inv G w m) (hB : Below w.heap.size w w') : Inv G w' m ∧ Step G w m G w' m := by
  have hle : Le G w G w' := ⟨fun _ h => h, fun b h => hB.block b (hi.F b h), Nat.le_refl _, fun i _ => .inl ⟨rfl, rfl, rfl, rfl, rfl⟩⟩
  refine ⟨⟨hi.n, fun b h => Nat.lt_of_lt_of_le (hi.F b h) hB.size, fun i e hm => ?_, hi.apart, fun g d hd => VRel.mono hle (hi.gl g d hd)⟩, ⟨hle, hB.os, hB.tape, hB.output, hB.size, fun b h _ => hB.block b h, fun b _ h => .inl h, fun b _ h => h⟩⟩
  cases e with
  | gone => trivial
  | live S ver l => exact EntRel.mono hle (hi.ent i _ hm) ⟨rfl, rfl, rfl, rfl, rfl⟩ (fun b h => hB.block b (EntRel.lt (hi.ent i _ hm) rfl h).1) (fun _ _ _ h => h)
  | mp es => exact EntRel.mono hle (hi.ent i _ hm) ⟨rfl, rfl, rfl, rfl, rfl⟩ (fun b h => hB.block b (EntRel.lt (hi.ent i _ hm) rfl h).1) (fun _ _ _ h => h)

theorem den_below {P : Program} {k : Nat} {ds : List D} {v : Value} (hE : Enters P k) (h : ∀ (G : Gh) (w : World) (vs : List Value), (∀ b, G.F b → b < w.heap.size) → VsRel G w ds vs → Calls P k vs.toArray w fun e w' => e = .returned v ∧ Below w.heap.size w w') : Den P k ds (.v v) := by
  refine fun m => ⟨hE, fun G w vs hv hi => (h G w vs hi.F hv).mono ?_⟩
  rintro e w' ⟨rfl, hB⟩
  obtain ⟨g1, g2⟩ := below_good hi hB
  exact ⟨_, _, _, G, rfl, ⟨rfl, rfl⟩, by simp [VRel], g1, g2⟩
end Go.Tm
namespace Go.Proofs.Dev
open Go Go.Tm Go.Proofs.Led
def toP4 (x : GPosting) : P4 := ⟨x.Date, x.Month, x.Kind, x.Cents⟩
theorem okL_cells {G : Gh} {w : World} {b : Nat} : ∀ {l : List GPosting} {off : Nat}, RowAt G w b 4 (l.map e_GPosting) off → ∀ j (h : j < (l.map toP4).length), w.cell? ⟨b, off + j * 4, none⟩ = some (.int .i64 (l.map toP4)[j].d) ∧ w.cell? ⟨b, off + j * 4 + 1, none⟩ = some (.int .i64 (l.map toP4)[j].m) ∧ w.cell? ⟨b, off + j * 4 + 2, none⟩ = some (.int .i64 (l.map toP4)[j].k) ∧ w.cell? ⟨b, off + j * 4 + 3, none⟩ = some (.int .i64 (l.map toP4)[j].c)
  | [], _, _, j, h => absurd h (by simp)
  | x :: l, off, hr, j, h => by
    simp only [List.map_cons, RowAt] at hr
    obtain ⟨⟨u, h1, h2, h3⟩, h4⟩ := hr
    simp only [e_GPosting, VRel, VsRel] at h1
    obtain ⟨cs, rfl, ⟨_, _, rfl, rfl, _, _, rfl, rfl, _, _, rfl, rfl, _, _, rfl, rfl, rfl⟩, -⟩ := h1
    cases j with
    | zero =>
      have g := fun (j : Nat) c hc => (h3 j c hc).2
      refine ⟨?_, ?_, ?_, ?_⟩
      · simpa [toP4] using g 0 (.int .i64 x.Date) rfl
      · simpa [toP4] using g 1 (.int .i64 x.Month) rfl
      · simpa [toP4] using g 2 (.int .i64 x.Kind) rfl
      · simpa [toP4] using g 3 (.int .i64 x.Cents) rfl
    | succ j =>
      have := okL_cells h4 j (by simpa using h)
      rw [show off + (j + 1) * 4 = off + 4 + j * 4 by omega]
      simpa using this
theorem okL_of {G : Gh} {w : World} {l : List GPosting} {u : Value} (hF : ∀ b, G.F b → b < w.heap.size) (h : VRel G w (e_s_GPosting l) u) : ∃ a cap, u = .slice a (l.map toP4).length cap ∧ OkL w.heap.size w a (l.map toP4) := by
  simp only [e_s_GPosting, VRel] at h
  obtain ⟨a, n, cap, rfl, rfl, h1, h2⟩ := h
  refine ⟨a, cap, by simp, ?_⟩
  rcases h2 with h2 | ⟨b, off, rfl, hb, hr⟩
  · exact .inl (by simpa using h2)
  · exact .inr ⟨b, off, rfl, hF b hb, okL_cells hr⟩
theorem ledger_Received_den {t0 : List GPosting} {t1 : Int} (hs : t0.length * 32 ≤ 140737488351232) : Den Tryz.prog 50 [e_s_GPosting t0, e_i64 t1] (e_i64 (rKinds t1 (t0.map toP4) [1, 2, 3])) := by
  refine den_below ⟨_, Tryz.func50, by kernel_rfl, rfl⟩ fun G w vs hF hv => ?_
  simp only [VsRel, e_i64, VRel] at hv
  obtain ⟨u, r, rfl, h1, u2, r2, rfl, rfl, rfl⟩ := hv
  obtain ⟨a, cap, rfl, h2⟩ := okL_of hF h1
  exact (callsIn_wide (n := 6)).1 (Received_in Fence.wide 6 trivial trivial trivial trivial rfl (by omega) a _ cap t1 (t0.map toP4) rfl (by simpa using hs) w h2)
theorem ledger_Waived_den {t0 : List GPosting} {t1 : Int} (hs : t0.length * 32 ≤ 140737488351232) : Den Tryz.prog 51 [e_s_GPosting t0, e_i64 t1] (e_i64 ((sel 4 (t0.map toP4)).foldl (wStep t1) 0)) := by
  refine den_below ⟨_, Tryz.func51, by kernel_rfl, rfl⟩ fun G w vs hF hv => ?_
  simp only [VsRel, e_i64, VRel] at hv
  obtain ⟨u, r, rfl, h1, u2, r2, rfl, rfl, rfl⟩ := hv
  obtain ⟨a, cap, rfl, h2⟩ := okL_of hF h1
  exact (callsIn_wide (n := 6)).1 (Waived_in Fence.wide 6 trivial trivial trivial rfl (by omega) a _ cap t1 (t0.map toP4) rfl (by simpa using hs) w h2)

def noneD (ds : List D) : Option D :=
  match ds with
  | [.v (.slice none 0 0), .v (.int .i64 _)] => some (.v (.int .i64 0))
  | [.sl _ [], .v (.int .i64 _)] => some (.v (.int .i64 0))
  | _ => none
theorem noneD_inv {ds : List D} {d : D} (h : noneD ds = some d) : d = .v (.int .i64 0) ∧ ∀ G w vs, VsRel G w ds vs → ∃ a cap m, vs = [.slice a 0 cap, .int .i64 m] := by
  unfold noneD at h
  split at h
  · injection h with h
    refine ⟨h.symm, fun G w vs hv => ?_⟩
    simp only [VsRel, VRel] at hv
    obtain ⟨u, r, rfl, rfl, u2, r2, rfl, rfl, rfl⟩ := hv
    exact ⟨_, _, _, rfl⟩
  · injection h with h
    refine ⟨h.symm, fun G w vs hv => ?_⟩
    simp only [VsRel, VRel] at hv
    obtain ⟨u, r, rfl, ⟨a, n, c, rfl, hn, -, -⟩, u2, r2, rfl, rfl, rfl⟩ := hv
    subst hn
    exact ⟨_, _, _, rfl⟩
  · cases h
theorem said_Rec {ds : List D} {d : D} (h : noneD ds = some d) (m : List Ent) : CallT Tryz.prog 50 ds m fun d' m' => d' = d ∧ m' = m := by
  obtain ⟨rfl, h1⟩ := noneD_inv h
  refine den_below ⟨_, Tryz.func50, by kernel_rfl, rfl⟩ (fun G w vs hF hv => ?_) m
  obtain ⟨a, cap, m, rfl⟩ := h1 G w vs hv
  exact (callsIn_wide (n := 6)).1 (Received_in Fence.wide 6 trivial trivial trivial trivial rfl (by omega) a 0 cap m [] rfl (by simp) w (.inl rfl))
theorem said_Wai {ds : List D} {d : D} (h : noneD ds = some d) (m : List Ent) : CallT Tryz.prog 51 ds m fun d' m' => d' = d ∧ m' = m := by
  obtain ⟨rfl, h1⟩ := noneD_inv h
  refine den_below ⟨_, Tryz.func51, by kernel_rfl, rfl⟩ (fun G w vs hF hv => ?_) m
  obtain ⟨a, cap, m, rfl⟩ := h1 G w vs hv
  exact (callsIn_wide (n := 6)).1 (Waived_in Fence.wide 6 trivial trivial trivial rfl (by omega) a 0 cap m [] rfl (by simp) w (.inl rfl))
end Go.Proofs.Dev

/-
  The contract of ruling.StayedMonths, and its answer where there is no appeal.
-/


set_option maxHeartbeats 1000000
set_option maxRecDepth 10000
namespace Go.Proofs.Dev
open Go Go.Tm
noncomputable def stay0_L3 (t0 : (List GAppeal)) : ((List Int) × Int) → Option (Ex ((List Int) × Int) (List Int) Unit) := fun (s2, s3) =>
  if s3 < (t0.length : Int) then
    Option.bind (α := (List Int)) (
      (idx t0 s3).bind fun x5 =>
      Option.bind (α := Bool) (
        if ¬x5.State = 1 then
          some (x5.State != 2)
        else
        some false) fun j7 =>
      if j7 = true then
        some s2
      else
      if (max x5.From 0) < (min x5.To 3600) then
        (idx s2 (max x5.From 0)).bind fun x10 =>
        (put s2 (max x5.From 0) (wrapF .i64 (x10 + 1))).bind fun x11 =>
        (idx x11 (min x5.To 3600)).bind fun x12 =>
        (put x11 (min x5.To 3600) (wrapF .i64 (x12 - 1))).bind fun x13 =>
        some x13
      else
      some s2) fun j14 =>
    some (Ex.go (j14, (wrapF .i64 (s3 + 1))))
  else
  some (Ex.brk s2)
noncomputable def stay0_L2 (b17 : (List Int)) : ((List Int) × Int × Int) → Option (Ex ((List Int) × Int × Int) (List Int) Unit) := fun (s18, s19, s20) =>
  if s20 < 3600 then
    Option.bind (α := ((List Int) × Int)) (
      (idx b17 s20).bind fun x22 =>
      if 0 < (wrapF .i64 (s19 + x22)) then
        (app 8 s18 ([s20])).bind fun x24 =>
        some (x24, (wrapF .i64 (s19 + x22)))
      else
      some (s18, (wrapF .i64 (s19 + x22)))) fun (j25, j26) =>
    some (Ex.go (j25, j26, (wrapF .i64 (s20 + 1))))
  else
  some (Ex.brk s18)

noncomputable def stay0 (t0 : (List GAppeal)) : Option (List Int) :=
  (mks 8 0 3601 3601).bind fun x1 =>
  (loopO (stay0_L3 t0) (x1, 0)).bind fun y => match y with
  | .inr _ => none
  | .inl b17 =>
  (loopO (stay0_L2 b17) (([] : List Int), 0, 0)).bind fun y => match y with
  | .inr _ => none
  | .inl b30 =>
  some b30
theorem stay0_ok {t0 : (List GAppeal)} {r : (List Int)} (h : stay0 t0 = some r) : Den Tryz.prog 137 [e_s_GAppeal t0] (e_s_i64 r) := by
 refine dk 64 k137 ?_
 simp only [k137,Kf.of,zs,ze]
 unfold stay0 at h
 refine ss (rg ?_)
 try simp only [zz]
 refine ss (rg ?_)
 obtain ⟨x1,a1,h⟩:=bs h
 obtain ⟨f2,f3,f4,f5,f6⟩:=mks_f (e := e_i64) a1
 try simp only [zz] at f5 f6
 try simp only [zz,f2,f3,f4,f5,f6]
 refine ss (ss (rg ?_))
 try simp only [zz]
 obtain ⟨y7,h8,h⟩:=bs h
 refine lm h8 (fun q=>⟨ds 3 (.own 0 0::ds 8 (e_s_GAppeal t0::e_i64 (t0.length : Int)::e_i64 q.2::ds 50 [])),[.live 1 0 (q.1.map e_i64)]⟩) (fun b17=>⟨ds 3 (.own 0 0::ds 61 []),[.live 1 0 (b17.map e_i64)]⟩) (tz [ok 0]) ?_ ?_
 ·rintro ⟨s2, s3⟩ z9 h10 h11
  simp only [stay0_L3] at h10
  refine ss (rg ?_)
  try simp only [zz]
  refine ss (cd rfl ?_)
  try simp only [zz]
  refine gi h10 (fun c4 h10=>?_) fun c4 h10=>?_
  ·refine sk ?_
   try simp only [zz,c4]
   refine jm h10 (fun j14=>⟨ds 3 (.own 0 0::ds 8 (e_s_GAppeal t0::e_i64 (t0.length : Int)::e_i64 s3::ds 50 [])),[.live 1 0 (j14.map e_i64)]⟩) (fun z13 h12=>?_) fun j14 h12 h10=>?_
   ·refine bk (ss (rg ?_))
    obtain ⟨x5,f15,f16,h12⟩:=bI h12
    try simp only [zz,f15,f16]
    refine ss ?_
    refine jm h12 (fun j7=>⟨ds 3 (.own 0 0::.dead::.ref 1 0 0 0::ds 6 (e_s_GAppeal t0::e_i64 (t0.length : Int)::e_i64 s3::ds 10 (e_bool j7::ds 39 []))),[.live 1 0 (s2.map e_i64),.live 7 0 [e_GAppeal x5]]⟩) (fun z18 h17=>?_) fun j7 h17 h12=>?_
    ·refine rg ?_
     try simp only [zz]
     refine gi h17 (fun c6 h17=>?_) fun c6 h17=>?_
     ·have e19:=nT c6
      try simp only [zz,c6,e19]
      cases h17
      exact tz [ok 0,ok 1]
     have e20:=nD c6
     try simp only [zz,c6,e20]
     cases h17
     exact tz [ok 0,ok 1]
    refine cd rfl ?_
    try simp only [zz]
    refine gi h12 (fun c8 h12=>?_) fun c8 h12=>?_
    ·refine xt ?_
     try simp only [zz,c8]
     cases h12
     exact tz [ok 0]
    refine sk ?_
    try simp only [zz,c8]
    refine ss (dy hmix ?_)
    try simp only [zz,zy]
    refine ss (rg ?_)
    try simp only [zz]
    refine cd rfl ?_
    try simp only [zz]
    refine gi h12 (fun c9 h12=>?_) fun c9 h12=>?_
    ·refine ss (rg ?_)
     obtain ⟨x10,f22,f23,f24,h12⟩:=bO h12
     obtain ⟨x11,a25,h12⟩:=bs h12
     obtain ⟨f26,f27⟩:=put_f (e := e_i64) a25
     try simp only [zz] at f27
     try simp only [zz,f22,f23,f24,f26,f27]
     refine rg ?_
     obtain ⟨x12,f29,f30,f31,h12⟩:=bO h12
     obtain ⟨x13,a32,h12⟩:=bs h12
     obtain ⟨f33,f34⟩:=put_f (e := e_i64) a32
     try simp only [zz] at f34
     try simp only [zz,f29,f30,f31,f33,f34]
     cases h12
     exact tz [ok 0]
    refine sk ?_
    try simp only [zz,c9]
    cases h12
    exact tz [ok 0]
   refine rg ?_
   try simp only [zz]
   cases h10
   exact tz [ok 0]
  refine xt ?_
  try simp only [zz,c4]
  cases h10
  exact tz [ok 0]
 rintro b17 rfl
 dsimp only at h
 try simp only [zz]
 refine ss (rg ?_)
 try simp only [zz]
 refine ss (rg ?_)
 try simp only [zz]
 refine ss (ss (rg ?_))
 try simp only [zz]
 obtain ⟨y35,h36,h⟩:=bs h
 refine lm h36 (fun q=>⟨ds 3 (.own 0 0::ds 4 (.own 1 0::e_i64 q.2.1::ds 38 (e_i64 q.2.2::ds 16 []))),[.live 1 0 (b17.map e_i64),.live 1 0 (q.1.map e_i64)]⟩) (fun b30=>⟨ds 8 (.own 0 0::ds 56 []),[.live 1 0 (b30.map e_i64)]⟩) (tz [ok 0,on 1]) ?_ ?_
 ·rintro ⟨s18, s19, s20⟩ z37 h38 h39
  simp only [stay0_L2] at h38
  refine ss (rg ?_)
  try simp only [zz]
  refine ss (cd rfl ?_)
  try simp only [zz]
  refine gi h38 (fun c21 h38=>?_) fun c21 h38=>?_
  ·refine sk ?_
   try simp only [zz,c21]
   refine jm h38 (fun q=>⟨ds 3 (.own 0 0::ds 4 (.own 1 0::e_i64 q.2::ds 38 (e_i64 s20::ds 16 []))),[.live 1 0 (b17.map e_i64),.live 1 0 (q.1.map e_i64)]⟩) (fun z41 h40=>?_) fun z41 h40 h38=>?_
   ·refine bk (ss (rg ?_))
    try simp only [zz]
    refine ss (rg ?_)
    obtain ⟨x22,f43,f44,f45,h40⟩:=bO h40
    try simp only [zz,f43,f44,f45]
    refine ss (rg ?_)
    try simp only [zz]
    refine cd rfl ?_
    try simp only [zz]
    refine gi h40 (fun c23 h40=>?_) fun c23 h40=>?_
    ·refine rg ?_
     obtain ⟨x24,a46,h40⟩:=bs h40
     obtain ⟨f47,f48⟩:=app_f (e := e_i64) a46
     try simp only [zz] at f47 f48
     try simp only [zz,f47,f48]
     cases h40
     exact tz [ok 0,ov 1 1]
    refine sk ?_
    try simp only [zz,c23]
    cases h40
    exact tz [ok 0,ok 1]
   obtain ⟨j25, j26⟩:=z41
   dsimp only at h38
   refine rg ?_
   try simp only [zz]
   cases h38
   exact tz [ok 0,ok 1]
  refine xt ?_
  try simp only [zz,c21]
  cases h38
  exact tz [ok 1]
 rintro b30 rfl
 dsimp only at h
 try simp only [zz]
 refine ss (rg ?_)
 try simp only [zz]
 cases h
 exact rt ez

theorem stay_wid {n : Int} (h1 : -9223372036854775808 ≤ n) (h2 : n < 9223372036854775808) : wrapF .i64 n = n := by
  unfold wrapF wrapS
  simp only [cond_eq_ite, decide_eq_true_eq]
  split <;> omega
theorem stay_loop : ∀ k : Nat, k ≤ 3600 → loopO (stay0_L2 (List.replicate 3601 0)) (([] : List Int), 0, ((3600 - k : Nat) : Int)) = some (.inl [])
  | 0, _ => loopO_brk (by simp [stay0_L2])
  | k + 1, hk => by
    have hi : idx (List.replicate 3601 (0 : Int)) ((3600 - (k + 1) : Nat) : Int) = some 0 := by
      unfold idx
      rw [if_pos (by omega), Int.toNat_natCast, List.getElem?_replicate, if_pos (by omega)]
    rw [loopO_go (s' := (([] : List Int), 0, ((3600 - k : Nat) : Int))) ?_]
    · exact stay_loop k (by omega)
    · have h1 : ((3600 - (k + 1) : Nat) : Int) < 3600 := by omega
      have h2 : wrapF .i64 ((0 : Int) + 0) = 0 := stay_wid (by omega) (by omega)
      have h3 : wrapF .i64 (((3600 - (k + 1) : Nat) : Int) + 1) = ((3600 - k : Nat) : Int) := by rw [stay_wid (by omega) (by omega)]; omega
      simp only [stay0_L2, if_pos h1, hi, Option.bind_some, h2, if_neg (Int.lt_irrefl 0), h3]
theorem stay0_nil : stay0 [] = some [] := by
  unfold stay0
  have h1 : mks 8 (0 : Int) 3601 3601 = some (List.replicate 3601 0) := by
    unfold mks
    rw [if_pos (by decide)]
    rfl
  rw [h1, Option.bind_some, loopO_brk (b := List.replicate 3601 0) (by simp [stay0_L3])]
  have := stay_loop 3600 (Nat.le_refl _)
  simp only [Nat.sub_self, Int.natCast_zero] at this
  simp only [Option.bind_some, this]
def stayD (ds : List D) : Option D :=
  match ds with
  | [.v (.slice none 0 0)] => some (.sl 1 [])
  | [.sl _ []] => some (.sl 1 [])
  | _ => none
theorem said_Sty {ds : List D} {d : D} (h : stayD ds = some d) (m : List Ent) : CallT Tryz.prog 137 ds m fun d' m' => d' = d ∧ m' = m := by
  have key : CallT Tryz.prog 137 [.sl 7 []] m fun d' m' => d' = .sl 1 [] ∧ m' = m := stay0_ok (t0 := []) stay0_nil m
  unfold stayD at h
  split at h
  · injection h with h
    subst h
    refine ⟨key.1, fun G w vs hv hi => key.2 G w vs ?_ hi⟩
    simp only [VsRel, VRel] at hv ⊢
    obtain ⟨u, r, rfl, rfl, rfl⟩ := hv
    exact ⟨_, _, rfl, ⟨_, _, _, rfl, rfl, Nat.le_refl _, by simp⟩, rfl⟩
  · injection h with h
    subst h
    refine ⟨key.1, fun G w vs hv hi => key.2 G w vs ?_ hi⟩
    simpa only [VsRel, VRel, RowAt] using hv
  · cases h
end Go.Proofs.Dev

/-
  What ledger.Received and ledger.Waived answer, told as the plain functions of hand.txt.
-/


namespace Go.Proofs.Dev
open Go Go.Tm Go.Proofs.Led Go.RowKit
theorem sel_toP4 (k : Int) (l : List GPosting) : sel k (l.map toP4) = (l.filter fun p => p.Kind == k).map toP4 := by
  unfold sel
  rw [List.filter_map]
  rfl
theorem wrap64_F (n : Int) : wrap64 n = wrapF .i64 n := by
  rw [wrap_i64]; unfold wrap64; first | rfl | omega
theorem amountV_toP4 (p : GPosting) : amountV (toP4 p) = amtP p := by
  unfold amountV amtP; simp only [toP4, wrap64_F]
theorem rKinds_rec (m : Int) (l : List GPosting) (ks : List Int) : rKinds m (l.map toP4) ks = recK m l ks := by
  unfold rKinds recK
  congr 1
  funext s k
  rw [sel_toP4, List.foldl_map]
  congr 1
  funext s p
  unfold rStep
  rw [amountV_toP4, wrap64_F]; rfl
theorem wStep_wai (m : Int) (l : List GPosting) : (sel 4 (l.map toP4)).foldl (wStep m) 0 = (l.filter fun p => p.Kind == 4).foldl (fun s p => if p.Month == m then wrapF .i64 (s + p.Cents) else s) 0 := by
  rw [sel_toP4, List.foldl_map]
  congr 1
  funext s p
  unfold wStep
  rw [wrap64_F]; rfl
theorem ledger_Received_ok {t0 t1 r} (h:ledger_Received t0 t1=some r):Den Tryz.prog 50 [e_s_GPosting t0,e_i64 t1] (e_i64 r):=by
  unfold ledger_Received at h
  split at h
  · rename_i hl
    injection h with h
    have := ledger_Received_den (t0 := t0) (t1 := t1) (by omega)
    rw [rKinds_rec, h] at this
    exact this
  · cases h
theorem ledger_Waived_ok {t0 t1 r} (h:ledger_Waived t0 t1=some r):Den Tryz.prog 51 [e_s_GPosting t0,e_i64 t1] (e_i64 r):=by
  unfold ledger_Waived at h
  split at h
  · rename_i hl
    injection h with h
    have := ledger_Waived_den (t0 := t0) (t1 := t1) (by omega)
    rw [wStep_wai, h] at this
    exact this
  · cases h
instance {t0 t1 r}:Con (ledger_Received t0 t1=some r) (Den Tryz.prog 50 [e_s_GPosting t0,e_i64 t1] (e_i64 r)):=⟨ledger_Received_ok⟩
instance {t0 t1 r}:Con (ledger_Waived t0 t1=some r) (Den Tryz.prog 51 [e_s_GPosting t0,e_i64 t1] (e_i64 r)):=⟨ledger_Waived_ok⟩
end Go.Proofs.Dev
