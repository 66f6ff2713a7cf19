/-
  math/bits: the functions that the program calls, where the divisor has at most 32 bits.
-/
import Derived.Test.YtlfhdejlpnljbaaBase
set_option linter.unusedSimpArgs false
set_option linter.unusedVariables false
set_option maxHeartbeats 2000000
namespace Go.Proofs.Ytlfhdejlpnljbaa
open Go.Tm
set_option maxRecDepth 100000

def u64 (n : Nat) : D := .v (.int .u64 n)

theorem sh16 : (2 ^ min (Int.toNat 16) IntKind.u64.bits : Nat) = 65536 := rfl
theorem sh8 : (2 ^ min (Int.toNat 8) IntKind.u64.bits : Nat) = 256 := rfl
theorem sh32 : (2 ^ min (Int.toNat 32) IntKind.u64.bits : Nat) = 4294967296 := rfl

/-- n is the number of the bits of y. -/
def LenOf (y n : Nat) : Prop := 1 ≤ n ∧ 2 ^ (n - 1) ≤ y ∧ y < 2 ^ n

instance (y n : Nat) : Decidable (LenOf y n) := by unfold LenOf; infer_instance

def lenTab : ByteArray := ⟨#[0, 1, 2, 2, 3, 3, 3, 3, 4, 4, 4, 4, 4, 4, 4, 4, 5, 5, 5, 5, 5, 5, 5, 5, 5, 5, 5, 5, 5, 5, 5, 5, 6, 6, 6, 6, 6, 6, 6, 6, 6, 6, 6, 6, 6, 6, 6, 6, 6, 6, 6, 6, 6, 6, 6, 6, 6, 6, 6, 6, 6, 6, 6, 6, 7, 7, 7, 7, 7, 7, 7, 7, 7, 7, 7, 7, 7, 7, 7, 7, 7, 7, 7, 7, 7, 7, 7, 7, 7, 7, 7, 7, 7, 7, 7, 7, 7, 7, 7, 7, 7, 7, 7, 7, 7, 7, 7, 7, 7, 7, 7, 7, 7, 7, 7, 7, 7, 7, 7, 7, 7, 7, 7, 7, 7, 7, 7, 7, 8, 8, 8, 8, 8, 8, 8, 8, 8, 8, 8, 8, 8, 8, 8, 8, 8, 8, 8, 8, 8, 8, 8, 8, 8, 8, 8, 8, 8, 8, 8, 8, 8, 8, 8, 8, 8, 8, 8, 8, 8, 8, 8, 8, 8, 8, 8, 8, 8, 8, 8, 8, 8, 8, 8, 8, 8, 8, 8, 8, 8, 8, 8, 8, 8, 8, 8, 8, 8, 8, 8, 8, 8, 8, 8, 8, 8, 8, 8, 8, 8, 8, 8, 8, 8, 8, 8, 8, 8, 8, 8, 8, 8, 8, 8, 8, 8, 8, 8, 8, 8, 8, 8, 8, 8, 8, 8, 8, 8, 8, 8, 8, 8, 8, 8, 8, 8, 8, 8, 8, 8, 8, 8, 8, 8, 8, 8, 8]⟩
theorem tab_size : lenTab.size = 256 := rfl
theorem tab_all : ∀ x : Fin 256, 0 < x.val → LenOf x.val (lenTab.get! x.val).toNat := by decide +kernel
theorem tab_at (x : Nat) (h : x < lenTab.size) (h0 : 0 < x) : LenOf x (lenTab[x]'h).toNat := by
  have := tab_all ⟨x, h⟩ h0
  have e : lenTab.get! x = lenTab[x]'h := by
    show lenTab.data[x]! = lenTab.data[x]
    rw [getElem!_pos]
  rwa [e] at this

/-- The table's entry, with k bits ahead of it. -/
theorem tab_ev {x : Nat} (hx : x < 256) (h0 : 0 < x) {m : List Ent} {f : D → List Ent → Prop} (h : ∀ n : Nat, LenOf x n → n ≤ 8 → f (.v (.int .u8 n)) m) :
    andT (if h : 0 ≤ wrapF .u8 (x : Int) ∧ (wrapF .u8 (x : Int)).toNat < lenTab.size then some (D.v (.int .u8 ((lenTab[(wrapF .u8 (x : Int)).toNat]'h.2).toNat : Int)), m) else none) f := by
  have e : wrapF .u8 (x : Int) = (x : Int) := by simp only [wrapF]; omega
  simp only [e, Int.toNat_natCast]
  rw [dif_pos ⟨by omega, by rw [tab_size]; exact hx⟩]
  have hl := tab_at x (by rw [tab_size]; exact hx) h0
  refine h _ hl ?_
  have h2 := hl.2.1
  rcases Nat.lt_or_ge 8 (lenTab[x]'(by rw [tab_size]; exact hx)).toNat with h3 | h3
  · have := Nat.pow_le_pow_right (n := 2) (by decide) (show 8 ≤ (lenTab[x]'(by rw [tab_size]; exact hx)).toNat - 1 by omega)
    omega
  · exact h3

theorem LenOf.shift {y k n : Nat} (h : LenOf (y / 2 ^ k) n) : LenOf y (n + k) := by
  obtain ⟨h1, h2, h3⟩ := h
  refine ⟨by omega, ?_, ?_⟩
  · rw [show n + k - 1 = (n - 1) + k by omega, Nat.pow_add]
    exact Nat.le_trans (Nat.mul_le_mul_right _ h2) (Nat.div_mul_le_self ..)
  · rw [Nat.pow_add]
    exact (Nat.div_lt_iff_lt_mul (Nat.two_pow_pos k)).1 h3

theorem len56 (y : Nat) (h0 : 0 < y) (hy : y < 18446744073709551616) : CallT Try.prog 56 [u64 y] [] fun d m' => ∃ n : Nat, d = i64 n ∧ LenOf y n ∧ n ≤ 64 := by
  have tabE : (⟨#[0, 1, 2, 2, 3, 3, 3, 3, 4, 4, 4, 4, 4, 4, 4, 4, 5, 5, 5, 5, 5, 5, 5, 5, 5, 5, 5, 5, 5, 5, 5, 5, 6, 6, 6, 6, 6, 6, 6, 6, 6, 6, 6, 6, 6, 6, 6, 6, 6, 6, 6, 6, 6, 6, 6, 6, 6, 6, 6, 6, 6, 6, 6, 6, 7, 7, 7, 7, 7, 7, 7, 7, 7, 7, 7, 7, 7, 7, 7, 7, 7, 7, 7, 7, 7, 7, 7, 7, 7, 7, 7, 7, 7, 7, 7, 7, 7, 7, 7, 7, 7, 7, 7, 7, 7, 7, 7, 7, 7, 7, 7, 7, 7, 7, 7, 7, 7, 7, 7, 7, 7, 7, 7, 7, 7, 7, 7, 7, 8, 8, 8, 8, 8, 8, 8, 8, 8, 8, 8, 8, 8, 8, 8, 8, 8, 8, 8, 8, 8, 8, 8, 8, 8, 8, 8, 8, 8, 8, 8, 8, 8, 8, 8, 8, 8, 8, 8, 8, 8, 8, 8, 8, 8, 8, 8, 8, 8, 8, 8, 8, 8, 8, 8, 8, 8, 8, 8, 8, 8, 8, 8, 8, 8, 8, 8, 8, 8, 8, 8, 8, 8, 8, 8, 8, 8, 8, 8, 8, 8, 8, 8, 8, 8, 8, 8, 8, 8, 8, 8, 8, 8, 8, 8, 8, 8, 8, 8, 8, 8, 8, 8, 8, 8, 8, 8, 8, 8, 8, 8, 8, 8, 8, 8, 8, 8, 8, 8, 8, 8, 8, 8, 8, 8, 8, 8, 8]⟩ : ByteArray) = lenTab := rfl
  simp only [u64]
  by_cases c0 : 4294967296 ≤ y
  · have c0' : (4294967296 : Int) ≤ ((y : Nat) : Int) := by omega
    by_cases c1 : 65536 ≤ y / 4294967296
    · have c1' : (65536 : Int) ≤ ((y / 4294967296 : Nat) : Int) := by omega
      by_cases c2 : 256 ≤ y / 4294967296 / 65536
      · have c2' : (256 : Int) ≤ ((y / 4294967296 / 65536 : Nat) : Int) := by omega
        refine callT_of k56_ok k56_name (Z.T hmix ?_)
        simp only [k56, k56c, c0', c1', c2', sh32, sh16, sh8, fdivN, tabE, zz, leaves, undef, pin, Int.reduceLT, C.lps, C.isLoop, bsliceD, contents, gate, evalI, St.ev, St.put, List.replicate, Nat.reduceSub, Nat.reduceAdd, binJ, lenOfD, ressD, resD, D.ok, D.cells, one, reduceCtorEq, Nat.reduceEqDiff, Int.reduceEq]
        refine tab_ev (by omega) (by omega) fun n hn hn8 => ?_
        simp (disch := omega) only [zz, leaves, undef, pin, Int.reduceLT, C.lps, C.isLoop, bsliceD, contents, gate, evalI, St.ev, St.put, List.replicate, Nat.reduceSub, Nat.reduceAdd, binJ, lenOfD, ressD, resD, D.ok, D.cells, one, reduceCtorEq, Nat.reduceEqDiff, Int.reduceEq, wrapI]
        refine ⟨n + 56, ?_, ?_, by omega⟩
        · simp only [i64]; congr 2; omega
        · (try simp only [Nat.div_div_eq_div_mul] at hn); exact LenOf.shift (k := 56) hn
      · have c2' : ¬ (256 : Int) ≤ ((y / 4294967296 / 65536 : Nat) : Int) := by omega
        refine callT_of k56_ok k56_name (Z.T hmix ?_)
        simp only [k56, k56c, c0', c1', c2', sh32, sh16, sh8, fdivN, tabE, zz, leaves, undef, pin, Int.reduceLT, C.lps, C.isLoop, bsliceD, contents, gate, evalI, St.ev, St.put, List.replicate, Nat.reduceSub, Nat.reduceAdd, binJ, lenOfD, ressD, resD, D.ok, D.cells, one, reduceCtorEq, Nat.reduceEqDiff, Int.reduceEq]
        refine tab_ev (by omega) (by omega) fun n hn hn8 => ?_
        simp (disch := omega) only [zz, leaves, undef, pin, Int.reduceLT, C.lps, C.isLoop, bsliceD, contents, gate, evalI, St.ev, St.put, List.replicate, Nat.reduceSub, Nat.reduceAdd, binJ, lenOfD, ressD, resD, D.ok, D.cells, one, reduceCtorEq, Nat.reduceEqDiff, Int.reduceEq, wrapI]
        refine ⟨n + 48, ?_, ?_, by omega⟩
        · simp only [i64]; congr 2; omega
        · (try simp only [Nat.div_div_eq_div_mul] at hn); exact LenOf.shift (k := 48) hn
    · have c1' : ¬ (65536 : Int) ≤ ((y / 4294967296 : Nat) : Int) := by omega
      by_cases c2 : 256 ≤ y / 4294967296
      · have c2' : (256 : Int) ≤ ((y / 4294967296 : Nat) : Int) := by omega
        refine callT_of k56_ok k56_name (Z.T hmix ?_)
        simp only [k56, k56c, c0', c1', c2', sh32, sh16, sh8, fdivN, tabE, zz, leaves, undef, pin, Int.reduceLT, C.lps, C.isLoop, bsliceD, contents, gate, evalI, St.ev, St.put, List.replicate, Nat.reduceSub, Nat.reduceAdd, binJ, lenOfD, ressD, resD, D.ok, D.cells, one, reduceCtorEq, Nat.reduceEqDiff, Int.reduceEq]
        refine tab_ev (by omega) (by omega) fun n hn hn8 => ?_
        simp (disch := omega) only [zz, leaves, undef, pin, Int.reduceLT, C.lps, C.isLoop, bsliceD, contents, gate, evalI, St.ev, St.put, List.replicate, Nat.reduceSub, Nat.reduceAdd, binJ, lenOfD, ressD, resD, D.ok, D.cells, one, reduceCtorEq, Nat.reduceEqDiff, Int.reduceEq, wrapI]
        refine ⟨n + 40, ?_, ?_, by omega⟩
        · simp only [i64]; congr 2; omega
        · (try simp only [Nat.div_div_eq_div_mul] at hn); exact LenOf.shift (k := 40) hn
      · have c2' : ¬ (256 : Int) ≤ ((y / 4294967296 : Nat) : Int) := by omega
        refine callT_of k56_ok k56_name (Z.T hmix ?_)
        simp only [k56, k56c, c0', c1', c2', sh32, sh16, sh8, fdivN, tabE, zz, leaves, undef, pin, Int.reduceLT, C.lps, C.isLoop, bsliceD, contents, gate, evalI, St.ev, St.put, List.replicate, Nat.reduceSub, Nat.reduceAdd, binJ, lenOfD, ressD, resD, D.ok, D.cells, one, reduceCtorEq, Nat.reduceEqDiff, Int.reduceEq]
        refine tab_ev (by omega) (by omega) fun n hn hn8 => ?_
        simp (disch := omega) only [zz, leaves, undef, pin, Int.reduceLT, C.lps, C.isLoop, bsliceD, contents, gate, evalI, St.ev, St.put, List.replicate, Nat.reduceSub, Nat.reduceAdd, binJ, lenOfD, ressD, resD, D.ok, D.cells, one, reduceCtorEq, Nat.reduceEqDiff, Int.reduceEq, wrapI]
        refine ⟨n + 32, ?_, ?_, by omega⟩
        · simp only [i64]; congr 2; omega
        · (try simp only [Nat.div_div_eq_div_mul] at hn); exact LenOf.shift (k := 32) hn
  · have c0' : ¬ (4294967296 : Int) ≤ ((y : Nat) : Int) := by omega
    by_cases c1 : 65536 ≤ y
    · have c1' : (65536 : Int) ≤ ((y : Nat) : Int) := by omega
      by_cases c2 : 256 ≤ y / 65536
      · have c2' : (256 : Int) ≤ ((y / 65536 : Nat) : Int) := by omega
        refine callT_of k56_ok k56_name (Z.T hmix ?_)
        simp only [k56, k56c, c0', c1', c2', sh32, sh16, sh8, fdivN, tabE, zz, leaves, undef, pin, Int.reduceLT, C.lps, C.isLoop, bsliceD, contents, gate, evalI, St.ev, St.put, List.replicate, Nat.reduceSub, Nat.reduceAdd, binJ, lenOfD, ressD, resD, D.ok, D.cells, one, reduceCtorEq, Nat.reduceEqDiff, Int.reduceEq]
        refine tab_ev (by omega) (by omega) fun n hn hn8 => ?_
        simp (disch := omega) only [zz, leaves, undef, pin, Int.reduceLT, C.lps, C.isLoop, bsliceD, contents, gate, evalI, St.ev, St.put, List.replicate, Nat.reduceSub, Nat.reduceAdd, binJ, lenOfD, ressD, resD, D.ok, D.cells, one, reduceCtorEq, Nat.reduceEqDiff, Int.reduceEq, wrapI]
        refine ⟨n + 24, ?_, ?_, by omega⟩
        · simp only [i64]; congr 2; omega
        · (try simp only [Nat.div_div_eq_div_mul] at hn); exact LenOf.shift (k := 24) hn
      · have c2' : ¬ (256 : Int) ≤ ((y / 65536 : Nat) : Int) := by omega
        refine callT_of k56_ok k56_name (Z.T hmix ?_)
        simp only [k56, k56c, c0', c1', c2', sh32, sh16, sh8, fdivN, tabE, zz, leaves, undef, pin, Int.reduceLT, C.lps, C.isLoop, bsliceD, contents, gate, evalI, St.ev, St.put, List.replicate, Nat.reduceSub, Nat.reduceAdd, binJ, lenOfD, ressD, resD, D.ok, D.cells, one, reduceCtorEq, Nat.reduceEqDiff, Int.reduceEq]
        refine tab_ev (by omega) (by omega) fun n hn hn8 => ?_
        simp (disch := omega) only [zz, leaves, undef, pin, Int.reduceLT, C.lps, C.isLoop, bsliceD, contents, gate, evalI, St.ev, St.put, List.replicate, Nat.reduceSub, Nat.reduceAdd, binJ, lenOfD, ressD, resD, D.ok, D.cells, one, reduceCtorEq, Nat.reduceEqDiff, Int.reduceEq, wrapI]
        refine ⟨n + 16, ?_, ?_, by omega⟩
        · simp only [i64]; congr 2; omega
        · (try simp only [Nat.div_div_eq_div_mul] at hn); exact LenOf.shift (k := 16) hn
    · have c1' : ¬ (65536 : Int) ≤ ((y : Nat) : Int) := by omega
      by_cases c2 : 256 ≤ y
      · have c2' : (256 : Int) ≤ ((y : Nat) : Int) := by omega
        refine callT_of k56_ok k56_name (Z.T hmix ?_)
        simp only [k56, k56c, c0', c1', c2', sh32, sh16, sh8, fdivN, tabE, zz, leaves, undef, pin, Int.reduceLT, C.lps, C.isLoop, bsliceD, contents, gate, evalI, St.ev, St.put, List.replicate, Nat.reduceSub, Nat.reduceAdd, binJ, lenOfD, ressD, resD, D.ok, D.cells, one, reduceCtorEq, Nat.reduceEqDiff, Int.reduceEq]
        refine tab_ev (by omega) (by omega) fun n hn hn8 => ?_
        simp (disch := omega) only [zz, leaves, undef, pin, Int.reduceLT, C.lps, C.isLoop, bsliceD, contents, gate, evalI, St.ev, St.put, List.replicate, Nat.reduceSub, Nat.reduceAdd, binJ, lenOfD, ressD, resD, D.ok, D.cells, one, reduceCtorEq, Nat.reduceEqDiff, Int.reduceEq, wrapI]
        refine ⟨n + 8, ?_, ?_, by omega⟩
        · simp only [i64]; congr 2; omega
        · (try simp only [Nat.div_div_eq_div_mul] at hn); exact LenOf.shift (k := 8) hn
      · have c2' : ¬ (256 : Int) ≤ ((y : Nat) : Int) := by omega
        refine callT_of k56_ok k56_name (Z.T hmix ?_)
        simp only [k56, k56c, c0', c1', c2', sh32, sh16, sh8, fdivN, tabE, zz, leaves, undef, pin, Int.reduceLT, C.lps, C.isLoop, bsliceD, contents, gate, evalI, St.ev, St.put, List.replicate, Nat.reduceSub, Nat.reduceAdd, binJ, lenOfD, ressD, resD, D.ok, D.cells, one, reduceCtorEq, Nat.reduceEqDiff, Int.reduceEq]
        refine tab_ev (by omega) (by omega) fun n hn hn8 => ?_
        simp (disch := omega) only [zz, leaves, undef, pin, Int.reduceLT, C.lps, C.isLoop, bsliceD, contents, gate, evalI, St.ev, St.put, List.replicate, Nat.reduceSub, Nat.reduceAdd, binJ, lenOfD, ressD, resD, D.ok, D.cells, one, reduceCtorEq, Nat.reduceEqDiff, Int.reduceEq, wrapI]
        refine ⟨n, ?_, ?_, by omega⟩
        · simp only [i64]; congr 2; omega
        · exact hn
end Go.Proofs.Ytlfhdejlpnljbaa
