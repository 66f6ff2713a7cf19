/-
  rate.Compound and the reference's; the statement about them.
-/
import Derived.Test.YtmocaajdcjgohaaRat5
set_option linter.unusedSimpArgs false
set_option linter.unusedVariables false
set_option maxHeartbeats 2000000
namespace Go.Proofs.Ytmocaajdcjgohaa
open Go.Tm
set_option maxRecDepth 10000

/-- An amount after k steps, and the error's number. -/
def cmpS (r mode : Int) : Nat → Int → Int × Int
  | 0, c => (c, 0)
  | k + 1, c => if (mdS c r 1000000 mode).2 ≠ 0 ∨ bey (c + (mdS c r 1000000 mode).1) 1000000000000000 then (0, 3) else cmpS r mode k (c + (mdS c r 1000000 mode).1)

theorem md_err {c r mode : Int} (hm : okMode mode) : ((mdS c r 1000000 mode).2 = 0 ∨ (mdS c r 1000000 mode).2 = 3) ∧ -1000000000000000 ≤ (mdS c r 1000000 mode).1 ∧ (mdS c r 1000000 mode).1 ≤ 1000000000000000 := by
  unfold mdS
  rw [if_pos hm, if_neg (by decide)]
  split
  · simp
  · split
    · rename_i hle
      refine ⟨.inl rfl, ?_, ?_⟩ <;> (simp only [sgn]; split <;> omega)
    · simp

/-- Is a start out of range. -/
def outC (c r n : Int) : Prop := n < 0 ∨ 120 < n ∨ bey c 1000000000000000 ∨ bey r 1000000000
instance (c r n : Int) : Decidable (outC c r n) := by unfold outC; infer_instance
def comS (c r n mode : Int) : Int × Int :=
  if okMode mode then if outC c r n then (0, 3) else cmpS r mode n.toNat c else (0, 1)

theorem com14 (c r n mode : Int) (hr : ok64 r) (m : List Ent) (hb : m.all (Ent.below m.length) = true) :
    CallT Try.prog 14 [i64 c, i64 r, i64 n, i64 mode] m fun d m' => d = mdD (comS c r n mode) ∧ m' = m := by
  have k1 : ok64 (-1000000000000000) := by unfold ok64; omega
  have k2 : ok64 (-1000000000) := by unfold ok64; omega
  unfold comS
  by_cases hm : okMode mode
  · rw [if_pos hm]
    by_cases e1 : n < 0
    · rw [if_pos (.inl e1)]
      simp only [i64, mdD]
      refine callT_of k14_ok k14_name (Z.T hmix ?_)
      simp only [k14, k14c, zz, leaves, undef, pin, Int.reduceLT, C.lps, C.isLoop, bsliceD, contents, gate, evalI, St.ev, St.put, List.replicate, Nat.reduceSub, Nat.reduceAdd, binJ, lenOfD, ressD, resD, D.ok, D.cells, one, reduceCtorEq, Nat.reduceEqDiff, Int.reduceEq]
      refine callX_eq (m20 _ _) ?_
      simp only [zz, leaves, undef, pin, Int.reduceLT, C.lps, C.isLoop, bsliceD, contents, gate, evalI, St.ev, St.put, List.replicate, Nat.reduceSub, Nat.reduceAdd, binJ, lenOfD, ressD, resD, D.ok, D.cells, one, reduceCtorEq, Nat.reduceEqDiff, Int.reduceEq, hm, e1]
    by_cases e2 : 120 < n
    · rw [if_pos (.inr (.inl e2))]
      simp only [i64, mdD]
      refine callT_of k14_ok k14_name (Z.T hmix ?_)
      simp only [k14, k14c, zz, leaves, undef, pin, Int.reduceLT, C.lps, C.isLoop, bsliceD, contents, gate, evalI, St.ev, St.put, List.replicate, Nat.reduceSub, Nat.reduceAdd, binJ, lenOfD, ressD, resD, D.ok, D.cells, one, reduceCtorEq, Nat.reduceEqDiff, Int.reduceEq]
      refine callX_eq (m20 _ _) ?_
      simp only [zz, leaves, undef, pin, Int.reduceLT, C.lps, C.isLoop, bsliceD, contents, gate, evalI, St.ev, St.put, List.replicate, Nat.reduceSub, Nat.reduceAdd, binJ, lenOfD, ressD, resD, D.ok, D.cells, one, reduceCtorEq, Nat.reduceEqDiff, Int.reduceEq, hm, e1, e2]
    by_cases e3 : bey c 1000000000000000
    · rw [if_pos (.inr (.inr (.inl e3)))]
      simp only [i64, mdD]
      refine callT_of k14_ok k14_name (Z.T hmix ?_)
      simp only [k14, k14c, zz, leaves, undef, pin, Int.reduceLT, C.lps, C.isLoop, bsliceD, contents, gate, evalI, St.ev, St.put, List.replicate, Nat.reduceSub, Nat.reduceAdd, binJ, lenOfD, ressD, resD, D.ok, D.cells, one, reduceCtorEq, Nat.reduceEqDiff, Int.reduceEq]
      refine callX_eq (m20 _ _) ?_
      simp only [zz, leaves, undef, pin, Int.reduceLT, C.lps, C.isLoop, bsliceD, contents, gate, evalI, St.ev, St.put, List.replicate, Nat.reduceSub, Nat.reduceAdd, binJ, lenOfD, ressD, resD, D.ok, D.cells, one, reduceCtorEq, Nat.reduceEqDiff, Int.reduceEq, hm, e1, e2]
      refine callX_eq (b21 _ _ k1 _) ?_
      simp only [zz, leaves, undef, pin, Int.reduceLT, C.lps, C.isLoop, bsliceD, contents, gate, evalI, St.ev, St.put, List.replicate, Nat.reduceSub, Nat.reduceAdd, binJ, lenOfD, ressD, resD, D.ok, D.cells, one, reduceCtorEq, Nat.reduceEqDiff, Int.reduceEq, e3]
    by_cases e4 : bey r 1000000000
    · rw [if_pos (.inr (.inr (.inr e4)))]
      simp only [i64, mdD]
      refine callT_of k14_ok k14_name (Z.T hmix ?_)
      simp only [k14, k14c, zz, leaves, undef, pin, Int.reduceLT, C.lps, C.isLoop, bsliceD, contents, gate, evalI, St.ev, St.put, List.replicate, Nat.reduceSub, Nat.reduceAdd, binJ, lenOfD, ressD, resD, D.ok, D.cells, one, reduceCtorEq, Nat.reduceEqDiff, Int.reduceEq]
      refine callX_eq (m20 _ _) ?_
      simp only [zz, leaves, undef, pin, Int.reduceLT, C.lps, C.isLoop, bsliceD, contents, gate, evalI, St.ev, St.put, List.replicate, Nat.reduceSub, Nat.reduceAdd, binJ, lenOfD, ressD, resD, D.ok, D.cells, one, reduceCtorEq, Nat.reduceEqDiff, Int.reduceEq, hm, e1, e2]
      refine callX_eq (b21 _ _ k1 _) ?_
      simp only [zz, leaves, undef, pin, Int.reduceLT, C.lps, C.isLoop, bsliceD, contents, gate, evalI, St.ev, St.put, List.replicate, Nat.reduceSub, Nat.reduceAdd, binJ, lenOfD, ressD, resD, D.ok, D.cells, one, reduceCtorEq, Nat.reduceEqDiff, Int.reduceEq, e3]
      refine callX_eq (b21 _ _ k2 _) ?_
      simp only [zz, leaves, undef, pin, Int.reduceLT, C.lps, C.isLoop, bsliceD, contents, gate, evalI, St.ev, St.put, List.replicate, Nat.reduceSub, Nat.reduceAdd, binJ, lenOfD, ressD, resD, D.ok, D.cells, one, reduceCtorEq, Nat.reduceEqDiff, Int.reduceEq, e4]
    rw [if_neg (by unfold outC; rintro (h | h | h | h) <;> contradiction)]
    obtain ⟨k, rfl⟩ : ∃ k : Nat, n = (k : Int) := ⟨n.toNat, by omega⟩
    rw [Int.toNat_natCast]
    simp only [i64, mdD]
    refine callT_of k14_ok k14_name (Z.T hmix ?_)
    simp only [k14, k14c, zz, leaves, undef, pin, Int.reduceLT, C.lps, C.isLoop, bsliceD, contents, gate, evalI, St.ev, St.put, List.replicate, Nat.reduceSub, Nat.reduceAdd, binJ, lenOfD, ressD, resD, D.ok, D.cells, one, reduceCtorEq, Nat.reduceEqDiff, Int.reduceEq]
    refine callX_eq (m20 _ _) ?_
    simp only [zz, leaves, undef, pin, Int.reduceLT, C.lps, C.isLoop, bsliceD, contents, gate, evalI, St.ev, St.put, List.replicate, Nat.reduceSub, Nat.reduceAdd, binJ, lenOfD, ressD, resD, D.ok, D.cells, one, reduceCtorEq, Nat.reduceEqDiff, Int.reduceEq, hm, e1, e2]
    refine callX_eq (b21 _ _ k1 _) ?_
    simp only [zz, leaves, undef, pin, Int.reduceLT, C.lps, C.isLoop, bsliceD, contents, gate, evalI, St.ev, St.put, List.replicate, Nat.reduceSub, Nat.reduceAdd, binJ, lenOfD, ressD, resD, D.ok, D.cells, one, reduceCtorEq, Nat.reduceEqDiff, Int.reduceEq, e3]
    refine callX_eq (b21 _ _ k2 _) ?_
    simp only [zz, leaves, undef, pin, Int.reduceLT, C.lps, C.isLoop, bsliceD, contents, gate, evalI, St.ev, St.put, List.replicate, Nat.reduceSub, Nat.reduceAdd, binJ, lenOfD, ressD, resD, D.ok, D.cells, one, reduceCtorEq, Nat.reduceEqDiff, Int.reduceEq, e4]
    refine T.blkM (X := Nat × Int) (fun x => ⟨[.v (.int .i64 x.2), .v (.int .i64 r), .dead, .v (.int .i64 mode), .dead, .dead, .dead, .dead, .dead, .dead, .dead, .dead, .dead, .dead, .dead, .dead, .dead, .dead, .dead, .dead, .dead, .dead, .dead, .dead, .dead, .dead, .dead, .dead, .dead, .v (.int .i64 k), .v (.int .i64 x.1), .dead, .dead, .dead, .dead, .dead, .dead, .dead, .dead, .dead, .dead, .dead, .dead, .dead, .dead, .dead, .dead, .dead], m⟩)
      (fun x => x.1 ≤ k ∧ ¬ bey x.2 1000000000000000 ∧ cmpS r mode (k - x.1) x.2 = cmpS r mode k c) (fun x => (x.2, 0) = cmpS r mode k c) (fun x => k - x.1) (0, c) ⟨Nat.zero_le _, e3, rfl⟩ ?_ ?_ ?_ (fun _ => by repeat (first | exact stab_S | exact stab_C | exact stab_I | exact stab_M | refine stab_B ?_)) ?_
    · exact At.same _ _ _ (by repeat (first | exact Subs.refl' _ | refine Subs.cons (Sub.refl _) ?_ | refine Subs.cons (Sub.toDead _) ?_))
    · rintro ⟨i, y⟩ _
      exact ⟨by simp, by simp [belows, below], hb⟩
    · rintro ⟨i, y⟩ ⟨hi, hy, he⟩
      simp only at hi hy he
      refine Z.T hmix ?_
      rcases Nat.lt_or_ge i k with h | h
      · have hs : k - i = (k - (i + 1)) + 1 := by omega
        rw [hs] at he
        simp only [cmpS] at he
        obtain ⟨q1, q2⟩ := md_err (c := y) (r := r) hm
        have hyb : -1000000000000000 ≤ y ∧ y ≤ 1000000000000000 := by unfold bey at hy; omega
        simp only [zz, leaves, undef, pin, Int.reduceLT, C.lps, C.isLoop, bsliceD, contents, gate, evalI, St.ev, St.put, List.replicate, Nat.reduceSub, Nat.reduceAdd, binJ, lenOfD, ressD, resD, D.ok, D.cells, one, reduceCtorEq, Nat.reduceEqDiff, Int.reduceEq, natlt, h]
        refine callX_eq (app18 y r mode (by unfold ok64; omega) hr _) ?_
        obtain ⟨⟨a, e⟩, hae⟩ : ∃ p, mdS y r 1000000 mode = p := ⟨_, rfl⟩
        rw [hae] at he q1 q2
        simp only at he q1 q2
        rw [hae]
        by_cases z : e = 0
        · subst z
          have w : wrapF .i64 (y + a) = y + a := wrapI (by omega)
          simp only [zz, leaves, undef, pin, Int.reduceLT, C.lps, C.isLoop, bsliceD, contents, gate, evalI, St.ev, St.put, List.replicate, Nat.reduceSub, Nat.reduceAdd, binJ, lenOfD, ressD, resD, D.ok, D.cells, one, reduceCtorEq, Nat.reduceEqDiff, Int.reduceEq, mdD, i64, w]
          refine callX_eq (b21 _ _ k1 _) ?_
          by_cases hb2 : bey (y + a) 1000000000000000
          · rw [if_pos (.inr hb2)] at he
            rw [← he]
            simp only [zz, leaves, undef, pin, Int.reduceLT, C.lps, C.isLoop, bsliceD, contents, gate, evalI, St.ev, St.put, List.replicate, Nat.reduceSub, Nat.reduceAdd, binJ, lenOfD, ressD, resD, D.ok, D.cells, one, reduceCtorEq, Nat.reduceEqDiff, Int.reduceEq, hb2]
          · rw [if_neg (fun h => h.elim (fun h => h rfl) hb2)] at he
            simp only [zz, leaves, undef, pin, Int.reduceLT, C.lps, C.isLoop, bsliceD, contents, gate, evalI, St.ev, St.put, List.replicate, Nat.reduceSub, Nat.reduceAdd, binJ, lenOfD, ressD, resD, D.ok, D.cells, one, reduceCtorEq, Nat.reduceEqDiff, Int.reduceEq, hb2, wrapSu i (by omega)]
            exact ⟨(i + 1, y + a), ⟨h, hb2, he⟩, by show k - (i + 1) < k - i; omega, At.same _ _ _ (by repeat (first | exact Subs.refl' _ | refine Subs.cons (Sub.refl _) ?_ | refine Subs.cons (Sub.toDead _) ?_))⟩
        · rw [if_pos (.inl z)] at he
          rw [← he]
          simp only [zz, leaves, undef, pin, Int.reduceLT, C.lps, C.isLoop, bsliceD, contents, gate, evalI, St.ev, St.put, List.replicate, Nat.reduceSub, Nat.reduceAdd, binJ, lenOfD, ressD, resD, D.ok, D.cells, one, reduceCtorEq, Nat.reduceEqDiff, Int.reduceEq, mdD, i64, z]
      · obtain rfl : i = k := by omega
        rw [Nat.sub_self] at he
        simp only [zz, leaves, undef, pin, Int.reduceLT, C.lps, C.isLoop, bsliceD, contents, gate, evalI, St.ev, St.put, List.replicate, Nat.reduceSub, Nat.reduceAdd, binJ, lenOfD, ressD, resD, D.ok, D.cells, one, reduceCtorEq, Nat.reduceEqDiff, Int.reduceEq, natlt, Nat.lt_irrefl]
        exact ⟨(i, y), he, At.same _ _ _ (by repeat (first | exact Subs.refl' _ | refine Subs.cons (Sub.refl _) ?_ | refine Subs.cons (Sub.toDead _) ?_))⟩
    · rintro ⟨i, y⟩ he
      simp only at he
      simp only [zz, leaves, undef, pin, Int.reduceLT, C.lps, C.isLoop, bsliceD, contents, gate, evalI, St.ev, St.put, List.replicate, Nat.reduceSub, Nat.reduceAdd, binJ, lenOfD, ressD, resD, D.ok, D.cells, one, reduceCtorEq, Nat.reduceEqDiff, Int.reduceEq]
      refine Z.T hmix ?_
      rw [← he]
      simp only [zz, leaves, undef, pin, Int.reduceLT, C.lps, C.isLoop, bsliceD, contents, gate, evalI, St.ev, St.put, List.replicate, Nat.reduceSub, Nat.reduceAdd, binJ, lenOfD, ressD, resD, D.ok, D.cells, one, reduceCtorEq, Nat.reduceEqDiff, Int.reduceEq]
  · rw [if_neg hm]
    simp only [i64, mdD]
    refine callT_of k14_ok k14_name (Z.T hmix ?_)
    simp only [k14, k14c, zz, leaves, undef, pin, Int.reduceLT, C.lps, C.isLoop, bsliceD, contents, gate, evalI, St.ev, St.put, List.replicate, Nat.reduceSub, Nat.reduceAdd, binJ, lenOfD, ressD, resD, D.ok, D.cells, one, reduceCtorEq, Nat.reduceEqDiff, Int.reduceEq]
    refine callX_eq (m20 _ _) ?_
    simp only [zz, leaves, undef, pin, Int.reduceLT, C.lps, C.isLoop, bsliceD, contents, gate, evalI, St.ev, St.put, List.replicate, Nat.reduceSub, Nat.reduceAdd, binJ, lenOfD, ressD, resD, D.ok, D.cells, one, reduceCtorEq, Nat.reduceEqDiff, Int.reduceEq, hm]

theorem com15 (c r n mode : Int) (hr : ok64 r) (m : List Ent) (hb : m.all (Ent.below m.length) = true) :
    CallT Try.prog 15 [i64 c, i64 r, i64 n, i64 mode] m fun d m' => d = mdD (comS c r n mode) ∧ m' = m := by
  have k1 : ok64 (-1000000000000000) := by unfold ok64; omega
  have k2 : ok64 (-1000000000) := by unfold ok64; omega
  unfold comS
  by_cases hm : okMode mode
  · have m1 : ¬ mode < 0 := by unfold okMode at hm; omega
    have m2 : ¬ 5 < mode := by unfold okMode at hm; omega
    rw [if_pos hm]
    by_cases e1 : n < 0
    · rw [if_pos (.inl e1)]
      simp only [i64, mdD]
      refine callT_of k15_ok k15_name (Z.T hmix ?_)
      simp only [k15, k15c, m1, m2, e1, zz, leaves, undef, pin, Int.reduceLT, C.lps, C.isLoop, bsliceD, contents, gate, evalI, St.ev, St.put, List.replicate, Nat.reduceSub, Nat.reduceAdd, binJ, lenOfD, ressD, resD, D.ok, D.cells, one, reduceCtorEq, Nat.reduceEqDiff, Int.reduceEq]
    by_cases e2 : 120 < n
    · rw [if_pos (.inr (.inl e2))]
      simp only [i64, mdD]
      refine callT_of k15_ok k15_name (Z.T hmix ?_)
      simp only [k15, k15c, m1, m2, e1, e2, zz, leaves, undef, pin, Int.reduceLT, C.lps, C.isLoop, bsliceD, contents, gate, evalI, St.ev, St.put, List.replicate, Nat.reduceSub, Nat.reduceAdd, binJ, lenOfD, ressD, resD, D.ok, D.cells, one, reduceCtorEq, Nat.reduceEqDiff, Int.reduceEq]
    by_cases e3 : bey c 1000000000000000
    · rw [if_pos (.inr (.inr (.inl e3)))]
      simp only [i64, mdD]
      refine callT_of k15_ok k15_name (Z.T hmix ?_)
      simp only [k15, k15c, m1, m2, e1, e2, zz, leaves, undef, pin, Int.reduceLT, C.lps, C.isLoop, bsliceD, contents, gate, evalI, St.ev, St.put, List.replicate, Nat.reduceSub, Nat.reduceAdd, binJ, lenOfD, ressD, resD, D.ok, D.cells, one, reduceCtorEq, Nat.reduceEqDiff, Int.reduceEq]
      refine callX_eq (b25 _ _ k1 _) ?_
      simp only [zz, leaves, undef, pin, Int.reduceLT, C.lps, C.isLoop, bsliceD, contents, gate, evalI, St.ev, St.put, List.replicate, Nat.reduceSub, Nat.reduceAdd, binJ, lenOfD, ressD, resD, D.ok, D.cells, one, reduceCtorEq, Nat.reduceEqDiff, Int.reduceEq, e3]
    by_cases e4 : bey r 1000000000
    · rw [if_pos (.inr (.inr (.inr e4)))]
      simp only [i64, mdD]
      refine callT_of k15_ok k15_name (Z.T hmix ?_)
      simp only [k15, k15c, m1, m2, e1, e2, zz, leaves, undef, pin, Int.reduceLT, C.lps, C.isLoop, bsliceD, contents, gate, evalI, St.ev, St.put, List.replicate, Nat.reduceSub, Nat.reduceAdd, binJ, lenOfD, ressD, resD, D.ok, D.cells, one, reduceCtorEq, Nat.reduceEqDiff, Int.reduceEq]
      refine callX_eq (b25 _ _ k1 _) ?_
      simp only [zz, leaves, undef, pin, Int.reduceLT, C.lps, C.isLoop, bsliceD, contents, gate, evalI, St.ev, St.put, List.replicate, Nat.reduceSub, Nat.reduceAdd, binJ, lenOfD, ressD, resD, D.ok, D.cells, one, reduceCtorEq, Nat.reduceEqDiff, Int.reduceEq, e3]
      refine callX_eq (b25 _ _ k2 _) ?_
      simp only [zz, leaves, undef, pin, Int.reduceLT, C.lps, C.isLoop, bsliceD, contents, gate, evalI, St.ev, St.put, List.replicate, Nat.reduceSub, Nat.reduceAdd, binJ, lenOfD, ressD, resD, D.ok, D.cells, one, reduceCtorEq, Nat.reduceEqDiff, Int.reduceEq, e4]
    rw [if_neg (by unfold outC; rintro (h | h | h | h) <;> contradiction)]
    obtain ⟨k, rfl⟩ : ∃ k : Nat, n = (k : Int) := ⟨n.toNat, by omega⟩
    rw [Int.toNat_natCast]
    simp only [i64, mdD]
    refine callT_of k15_ok k15_name (Z.T hmix ?_)
    simp only [k15, k15c, m1, m2, e1, e2, zz, leaves, undef, pin, Int.reduceLT, C.lps, C.isLoop, bsliceD, contents, gate, evalI, St.ev, St.put, List.replicate, Nat.reduceSub, Nat.reduceAdd, binJ, lenOfD, ressD, resD, D.ok, D.cells, one, reduceCtorEq, Nat.reduceEqDiff, Int.reduceEq]
    refine callX_eq (b25 _ _ k1 _) ?_
    simp only [zz, leaves, undef, pin, Int.reduceLT, C.lps, C.isLoop, bsliceD, contents, gate, evalI, St.ev, St.put, List.replicate, Nat.reduceSub, Nat.reduceAdd, binJ, lenOfD, ressD, resD, D.ok, D.cells, one, reduceCtorEq, Nat.reduceEqDiff, Int.reduceEq, e3]
    refine callX_eq (b25 _ _ k2 _) ?_
    simp only [zz, leaves, undef, pin, Int.reduceLT, C.lps, C.isLoop, bsliceD, contents, gate, evalI, St.ev, St.put, List.replicate, Nat.reduceSub, Nat.reduceAdd, binJ, lenOfD, ressD, resD, D.ok, D.cells, one, reduceCtorEq, Nat.reduceEqDiff, Int.reduceEq, e4]
    refine T.blkM (X := Nat × Int) (fun x => ⟨[.v (.int .i64 x.2), .v (.int .i64 r), .v (.int .i64 k), .v (.int .i64 mode), .dead, .dead, .dead, .dead, .dead, .dead, .v (.int .i64 x.1), .dead, .dead, .dead, .dead, .dead, .dead, .dead, .dead, .dead, .dead, .dead, .dead, .dead, .dead, .dead, .dead, .dead, .dead, .dead, .dead, .dead, .dead, .dead, .dead, .dead, .dead, .dead, .dead, .dead, .dead, .dead, .dead, .dead, .dead, .dead, .dead, .dead, .dead, .dead, .dead, .dead, .dead, .dead], m⟩)
      (fun x => x.1 ≤ k ∧ ¬ bey x.2 1000000000000000 ∧ cmpS r mode (k - x.1) x.2 = cmpS r mode k c) (fun x => (x.2, 0) = cmpS r mode k c) (fun x => k - x.1) (0, c) ⟨Nat.zero_le _, e3, rfl⟩ ?_ ?_ ?_ (fun _ => by repeat (first | exact stab_S | exact stab_C | exact stab_I | exact stab_M | refine stab_B ?_)) ?_
    · exact At.same _ _ _ (by repeat (first | exact Subs.refl' _ | refine Subs.cons (Sub.refl _) ?_ | refine Subs.cons (Sub.toDead _) ?_))
    · rintro ⟨i, y⟩ _
      exact ⟨by simp, by simp [belows, below], hb⟩
    · rintro ⟨i, y⟩ ⟨hi, hy, he⟩
      simp only at hi hy he
      refine Z.T hmix ?_
      rcases Nat.lt_or_ge i k with h | h
      · have hs : k - i = (k - (i + 1)) + 1 := by omega
        rw [hs] at he
        simp only [cmpS] at he
        obtain ⟨q1, q2⟩ := md_err (c := y) (r := r) hm
        have hyb : -1000000000000000 ≤ y ∧ y ≤ 1000000000000000 := by unfold bey at hy; omega
        simp only [zz, leaves, undef, pin, Int.reduceLT, C.lps, C.isLoop, bsliceD, contents, gate, evalI, St.ev, St.put, List.replicate, Nat.reduceSub, Nat.reduceAdd, binJ, lenOfD, ressD, resD, D.ok, D.cells, one, reduceCtorEq, Nat.reduceEqDiff, Int.reduceEq, natlt, h]
        refine callX_eq (app19 y r mode (by unfold ok64; omega) hr _) ?_
        obtain ⟨⟨a, e⟩, hae⟩ : ∃ p, mdS y r 1000000 mode = p := ⟨_, rfl⟩
        rw [hae] at he q1 q2
        simp only at he q1 q2
        rw [hae]
        by_cases z : e = 0
        · subst z
          have w : wrapF .i64 (y + a) = y + a := wrapI (by omega)
          simp only [zz, leaves, undef, pin, Int.reduceLT, C.lps, C.isLoop, bsliceD, contents, gate, evalI, St.ev, St.put, List.replicate, Nat.reduceSub, Nat.reduceAdd, binJ, lenOfD, ressD, resD, D.ok, D.cells, one, reduceCtorEq, Nat.reduceEqDiff, Int.reduceEq, mdD, i64, w]
          refine callX_eq (b25 _ _ k1 _) ?_
          by_cases hb2 : bey (y + a) 1000000000000000
          · rw [if_pos (.inr hb2)] at he
            rw [← he]
            simp only [zz, leaves, undef, pin, Int.reduceLT, C.lps, C.isLoop, bsliceD, contents, gate, evalI, St.ev, St.put, List.replicate, Nat.reduceSub, Nat.reduceAdd, binJ, lenOfD, ressD, resD, D.ok, D.cells, one, reduceCtorEq, Nat.reduceEqDiff, Int.reduceEq, hb2]
          · rw [if_neg (fun h => h.elim (fun h => h rfl) hb2)] at he
            simp only [zz, leaves, undef, pin, Int.reduceLT, C.lps, C.isLoop, bsliceD, contents, gate, evalI, St.ev, St.put, List.replicate, Nat.reduceSub, Nat.reduceAdd, binJ, lenOfD, ressD, resD, D.ok, D.cells, one, reduceCtorEq, Nat.reduceEqDiff, Int.reduceEq, hb2, wrapSu i (by omega)]
            exact ⟨(i + 1, y + a), ⟨h, hb2, he⟩, by show k - (i + 1) < k - i; omega, At.same _ _ _ (by repeat (first | exact Subs.refl' _ | refine Subs.cons (Sub.refl _) ?_ | refine Subs.cons (Sub.toDead _) ?_))⟩
        · have z3 : e = 3 := q1.resolve_left z
          rw [if_pos (.inl z)] at he
          rw [← he]
          subst z3
          simp only [zz, leaves, undef, pin, Int.reduceLT, C.lps, C.isLoop, bsliceD, contents, gate, evalI, St.ev, St.put, List.replicate, Nat.reduceSub, Nat.reduceAdd, binJ, lenOfD, ressD, resD, D.ok, D.cells, one, reduceCtorEq, Nat.reduceEqDiff, Int.reduceEq, mdD, i64]
      · obtain rfl : i = k := by omega
        rw [Nat.sub_self] at he
        simp only [zz, leaves, undef, pin, Int.reduceLT, C.lps, C.isLoop, bsliceD, contents, gate, evalI, St.ev, St.put, List.replicate, Nat.reduceSub, Nat.reduceAdd, binJ, lenOfD, ressD, resD, D.ok, D.cells, one, reduceCtorEq, Nat.reduceEqDiff, Int.reduceEq, natlt, Nat.lt_irrefl]
        exact ⟨(i, y), he, At.same _ _ _ (by repeat (first | exact Subs.refl' _ | refine Subs.cons (Sub.refl _) ?_ | refine Subs.cons (Sub.toDead _) ?_))⟩
    · rintro ⟨i, y⟩ he
      simp only at he
      simp only [zz, leaves, undef, pin, Int.reduceLT, C.lps, C.isLoop, bsliceD, contents, gate, evalI, St.ev, St.put, List.replicate, Nat.reduceSub, Nat.reduceAdd, binJ, lenOfD, ressD, resD, D.ok, D.cells, one, reduceCtorEq, Nat.reduceEqDiff, Int.reduceEq]
      refine Z.T hmix ?_
      rw [← he]
      simp only [zz, leaves, undef, pin, Int.reduceLT, C.lps, C.isLoop, bsliceD, contents, gate, evalI, St.ev, St.put, List.replicate, Nat.reduceSub, Nat.reduceAdd, binJ, lenOfD, ressD, resD, D.ok, D.cells, one, reduceCtorEq, Nat.reduceEqDiff, Int.reduceEq]
  · rw [if_neg hm]
    simp only [i64, mdD]
    by_cases m1 : mode < 0
    · refine callT_of k15_ok k15_name (Z.T hmix ?_)
      simp only [k15, k15c, m1, zz, leaves, undef, pin, Int.reduceLT, C.lps, C.isLoop, bsliceD, contents, gate, evalI, St.ev, St.put, List.replicate, Nat.reduceSub, Nat.reduceAdd, binJ, lenOfD, ressD, resD, D.ok, D.cells, one, reduceCtorEq, Nat.reduceEqDiff, Int.reduceEq]
    · have m2 : 5 < mode := by unfold okMode at hm; omega
      refine callT_of k15_ok k15_name (Z.T hmix ?_)
      simp only [k15, k15c, m1, m2, zz, leaves, undef, pin, Int.reduceLT, C.lps, C.isLoop, bsliceD, contents, gate, evalI, St.ev, St.put, List.replicate, Nat.reduceSub, Nat.reduceAdd, binJ, lenOfD, ressD, resD, D.ok, D.cells, one, reduceCtorEq, Nat.reduceEqDiff, Int.reduceEq]

theorem lawCompound (c r n mode : Int) (hr : ok64 r) : CallT Try.prog 5 [i64 c, i64 r, i64 n, i64 mode] [] fun d _ => d = .v (.bool true) := by
  simp only [i64]
  refine callT_of k5_ok k5_name (Z.T hmix ?_)
  simp only [k5, k5c, zz, leaves, undef, pin, Int.reduceLT, C.lps, C.isLoop, bsliceD, contents, gate, evalI, St.ev, St.put, List.replicate, Nat.reduceSub, Nat.reduceAdd, binJ, lenOfD, ressD, resD, D.ok, D.cells, one, reduceCtorEq, Nat.reduceEqDiff, Int.reduceEq]
  refine callX_eq (com14 c r n mode hr _ rfl) ?_
  simp only [zz, leaves, undef, pin, Int.reduceLT, C.lps, C.isLoop, bsliceD, contents, gate, evalI, St.ev, St.put, List.replicate, Nat.reduceSub, Nat.reduceAdd, binJ, lenOfD, ressD, resD, D.ok, D.cells, one, reduceCtorEq, Nat.reduceEqDiff, Int.reduceEq, mdD, i64]
  refine callX_eq (com15 c r n mode hr _ rfl) ?_
  simp only [zz, leaves, undef, pin, Int.reduceLT, C.lps, C.isLoop, bsliceD, contents, gate, evalI, St.ev, St.put, List.replicate, Nat.reduceSub, Nat.reduceAdd, binJ, lenOfD, ressD, resD, D.ok, D.cells, one, reduceCtorEq, Nat.reduceEqDiff, Int.reduceEq, mdD, i64]
  refine callX_eq (awake03 _) ?_
  simp only [zz, leaves, undef, pin, Int.reduceLT, C.lps, C.isLoop, bsliceD, contents, gate, evalI, St.ev, St.put, List.replicate, Nat.reduceSub, Nat.reduceAdd, binJ, lenOfD, ressD, resD, D.ok, D.cells, one, reduceCtorEq, Nat.reduceEqDiff, Int.reduceEq]

theorem arg_i64 {d : D} (h : LookV false (.int .i64) d) : ∃ n, ok64 n ∧ d = i64 n := by
  obtain ⟨n, rfl, hn⟩ := arg_int h
  exact ⟨n, wf_i64 hn, rfl⟩
theorem lawMulG (d0 d1 d2 : D) (h0 : LookV false (.int .i64) d0) (h1 : LookV false (.int .i64) d1) (h2 : LookV false (.int .i64) d2) : CallT Try.prog 8 [d0, d1, d2] [] fun d _ => d = .v (.bool true) := by
  obtain ⟨a, ha, rfl⟩ := arg_i64 h0
  obtain ⟨b, hb, rfl⟩ := arg_i64 h1
  obtain ⟨c, hc, rfl⟩ := arg_i64 h2
  exact lawMul a b c ha hb
theorem lawFromRatioG (d0 d1 d2 : D) (h0 : LookV false (.int .i64) d0) (h1 : LookV false (.int .i64) d1) (h2 : LookV false (.int .i64) d2) : CallT Try.prog 3 [d0, d1, d2] [] fun d _ => d = .v (.bool true) := by
  obtain ⟨a, ha, rfl⟩ := arg_i64 h0
  obtain ⟨b, hb, rfl⟩ := arg_i64 h1
  obtain ⟨c, hc, rfl⟩ := arg_i64 h2
  exact lawFromRatio a b c
theorem lawNegationG (d0 d1 d2 : D) (h0 : LookV false (.int .i64) d0) (h1 : LookV false (.int .i64) d1) (h2 : LookV false (.int .i64) d2) : CallT Try.prog 7 [d0, d1, d2] [] fun d _ => d = .v (.bool true) := by
  obtain ⟨a, ha, rfl⟩ := arg_i64 h0
  obtain ⟨b, hb, rfl⟩ := arg_i64 h1
  obtain ⟨c, hc, rfl⟩ := arg_i64 h2
  exact lawNegation a b c ha hb
theorem lawCompoundG (d0 d1 d2 d3 : D) (h0 : LookV false (.int .i64) d0) (h1 : LookV false (.int .i64) d1) (h2 : LookV false (.int .i64) d2) (h3 : LookV false (.int .i64) d3) : CallT Try.prog 5 [d0, d1, d2, d3] [] fun d _ => d = .v (.bool true) := by
  obtain ⟨a, ha, rfl⟩ := arg_i64 h0
  obtain ⟨b, hb, rfl⟩ := arg_i64 h1
  obtain ⟨c, hc, rfl⟩ := arg_i64 h2
  obtain ⟨e, he, rfl⟩ := arg_i64 h3
  exact lawCompound a b c e hb
theorem lawProrateG (d0 d1 d2 d3 : D) (h0 : LookV false (.int .i64) d0) (h1 : LookV false (.int .i64) d1) (h2 : LookV false (.int .i64) d2) (h3 : LookV false (.int .i64) d3) : CallT Try.prog 4 [d0, d1, d2, d3] [] fun d _ => d = .v (.bool true) := by
  obtain ⟨a, ha, rfl⟩ := arg_i64 h0
  obtain ⟨b, hb, rfl⟩ := arg_i64 h1
  obtain ⟨c, hc, rfl⟩ := arg_i64 h2
  obtain ⟨e, he, rfl⟩ := arg_i64 h3
  exact lawProrate a b c e ha hb hc
theorem lawBoundG (d0 d1 d2 d3 : D) (h0 : LookV false (.int .i64) d0) (h1 : LookV false (.int .i64) d1) (h2 : LookV false (.int .i64) d2) (h3 : LookV false (.int .i64) d3) : CallT Try.prog 6 [d0, d1, d2, d3] [] fun d _ => d = .v (.bool true) := by
  obtain ⟨a, ha, rfl⟩ := arg_i64 h0
  obtain ⟨b, hb, rfl⟩ := arg_i64 h1
  obtain ⟨c, hc, rfl⟩ := arg_i64 h2
  obtain ⟨e, he, rfl⟩ := arg_i64 h3
  exact lawBound a b c e ha hb hc he
end Go.Proofs.Ytmocaajdcjgohaa
