/-
  math/bits.Div64.
-/
import Derived.Test.YtlfhdejlpnljbaaBits2
set_option linter.unusedSimpArgs false
set_option linter.unusedVariables false
set_option maxHeartbeats 2000000
namespace Go.Proofs.Ytlfhdejlpnljbaa
open Go.Tm
set_option maxRecDepth 10000

theorem len56P (y : Nat) (h0 : 0 < y) (hy : y < 18446744073709551616) (m : List Ent) : CallT Try.prog 56 [u64 y] m fun d m' => (∃ n : Nat, d = i64 n ∧ LenOf y n ∧ n ≤ 64) ∧ m' = m :=
  (callP_of (R := fun d => ∃ n : Nat, d = i64 n ∧ LenOf y n ∧ n ≤ 64) 3 rfl ((len56 y h0 hy).mono fun _ _ h => by obtain ⟨n, rfl, h⟩ := h; exact ⟨n, rfl, h⟩) m).mono fun _ _ h => ⟨h.1.1, h.2⟩

/-- Shifted so that the highest bit is set. -/
def NormY (Y : Nat) : Prop := 9223372036854775808 ≤ Y ∧ Y < 18446744073709551616

theorem lz55 (y : Nat) (h0 : 0 < y) (hy : y < 18446744073709551616) (m : List Ent) : CallT Try.prog 55 [u64 y] m fun d m' => (∃ s : Nat, d = i64 s ∧ s ≤ 63 ∧ NormY (y * 2 ^ s)) ∧ m' = m := by
  simp only [u64]
  refine callT_of k55_ok k55_name (Z.T hmix ?_)
  simp only [k55, k55c, zz, leaves, undef, pin, Int.reduceLT, C.lps, C.isLoop, bsliceD, contents, gate, evalI, St.ev, St.put, List.replicate, Nat.reduceSub, Nat.reduceAdd, binJ, lenOfD, ressD, resD, D.ok, D.cells, one, reduceCtorEq, Nat.reduceEqDiff, Int.reduceEq]
  refine callX_of (len56P y h0 hy _) ?_
  rintro d m' ⟨⟨n, rfl, ⟨h1, h2, h3⟩, h4⟩, rfl⟩
  simp only [zz, leaves, undef, pin, Int.reduceLT, C.lps, C.isLoop, bsliceD, contents, gate, evalI, St.ev, St.put, List.replicate, Nat.reduceSub, Nat.reduceAdd, binJ, lenOfD, ressD, resD, D.ok, D.cells, one, reduceCtorEq, Nat.reduceEqDiff, Int.reduceEq, i64]
  rw [wrapI (by omega)]
  refine ⟨64 - n, ?_, by omega, ?_, ?_⟩
  · congr 2; omega
  · have := Nat.mul_le_mul_right (2 ^ (64 - n)) h2
    rw [← Nat.pow_add, show n - 1 + (64 - n) = 63 by omega] at this
    exact this
  · have := Nat.mul_lt_mul_of_pos_right h3 (Nat.two_pow_pos (64 - n))
    rw [← Nat.pow_add, show n + (64 - n) = 64 by omega] at this
    exact this

theorem decNeg (n : Nat) : decide ((n : Int) < 0) = false := by simp
theorem lor64 {a b s : Nat} (hb : b < 2 ^ s) (h : 2 ^ s * a + b < 18446744073709551616) : bitJ Nat.lor .u64 ((2 ^ s * a : Nat) : Int) (b : Int) = .int .u64 ((2 ^ s * a + b : Nat) : Int) := by
  have e1 : (((2 ^ s * a : Nat) : Int) % modF .u64).toNat = 2 ^ s * a := by simp only [modF]; omega
  have e2 : ((b : Int) % modF .u64).toNat = b := by simp only [modF]; omega
  unfold bitJ
  rw [e1, e2]
  have e3 : Nat.lor (2 ^ s * a) b = 2 ^ s * a + b := (Nat.two_pow_add_eq_or_of_lt hb a).symm
  rw [e3, wrapU64N h]

theorem scaled {N y s q R : Nat} (hy : 0 < y) (h : N * 2 ^ s = q * (y * 2 ^ s) + R) (hR : R < y * 2 ^ s) : N / y = q ∧ N % y = R / 2 ^ s := by
  have hp := Nat.two_pow_pos s
  have h1 : N * 2 ^ s / (y * 2 ^ s) = q := by
    rw [h, Nat.add_comm, Nat.add_mul_div_right _ _ (Nat.mul_pos hy hp), Nat.div_eq_of_lt hR, Nat.zero_add]
  have h2 : N * 2 ^ s % (y * 2 ^ s) = R := by
    rw [h, Nat.add_comm, Nat.add_mul_mod_self_right, Nat.mod_eq_of_lt hR]
  rw [Nat.mul_div_mul_right _ _ hp] at h1
  rw [Nat.mul_mod_mul_right] at h2
  exact ⟨h1, by rw [← h2, Nat.mul_div_cancel _ hp]⟩

theorem wrap3 (a b c : Int) : wrapF .u64 (wrapF .u64 (wrapF .u64 a + b) - wrapF .u64 c) = wrapF .u64 (a + b - c) := by
  simp only [wrapF]; omega

/-- The numbers of a division: normalized divisor, its halves, the dividend's upper word and lower word. -/
structure DivF (hi lo y s Y v w e U L : Nat) : Prop where
  hY : y * 2 ^ s = Y
  hYn : NormY Y
  hYv : Y = 4294967296 * v + w
  hwB : w < 4294967296
  hU : 2 ^ s * hi + e = U
  hUY : U < Y
  hLM : L < 18446744073709551616
  hN : (hi * 18446744073709551616 + lo) * 2 ^ s = U * 18446744073709551616 + L
  he : lo / 2 ^ (64 - s) = e
  hv : Y / 4294967296 = v
  hv0 : ¬ (v : Int) = 0
  m1 : min s IntKind.u64.bits = s
  m2 : min (64 - s) IntKind.u64.bits = 64 - s
  f1 : wrapF .u64 (s : Int) = (s : Int)
  f2 : wrapF .u64 ((y : Int) * ((2 ^ s : Nat) : Int)) = (Y : Int)
  f3 : wrapF .u64 ((hi : Int) * ((2 ^ s : Nat) : Int)) = ((2 ^ s * hi : Nat) : Int)
  f4 : wrapF .u64 (64 - (s : Int)) = ((64 - s : Nat) : Int)
  f6 : bitJ Nat.lor .u64 ((2 ^ s * hi : Nat) : Int) (e : Int) = .int .u64 (U : Int)
  f7 : wrapF .u64 ((lo : Int) * ((2 ^ s : Nat) : Int)) = (L : Int)
  f8 : bitJ Nat.land .u64 (Y : Int) 4294967295 = .int .u64 (w : Int)
  f9 : bitJ Nat.land .u64 (L : Int) 4294967295 = .int .u64 ((L % 4294967296 : Nat) : Int)

theorem div_facts (hi lo y s : Nat) (hhi : hi < y) (hlo : lo < 18446744073709551616) (s2 : s ≤ 63) (s3 : NormY (y * 2 ^ s)) : ∃ Y v w e U L, DivF hi lo y s Y v w e U L := by
  simp only [NormY] at s3
  obtain ⟨Y, hY⟩ : ∃ Y, y * 2 ^ s = Y := ⟨_, rfl⟩
  rw [hY] at s3
  obtain ⟨v, hv⟩ : ∃ v, Y / 4294967296 = v := ⟨_, rfl⟩
  obtain ⟨w, hw⟩ : ∃ w, Y % 4294967296 = w := ⟨_, rfl⟩
  have hYv : Y = 4294967296 * v + w := by omega
  have hwB : w < 4294967296 := by omega
  have hv0 : ¬ (v : Int) = 0 := by omega
  have m1 : min s IntKind.u64.bits = s := Nat.min_eq_left (by show s ≤ 64; omega)
  have m2 : min (64 - s) IntKind.u64.bits = 64 - s := Nat.min_eq_left (by show 64 - s ≤ 64; omega)
  obtain ⟨e, he⟩ : ∃ e, lo / 2 ^ (64 - s) = e := ⟨_, rfl⟩
  have hes : e < 2 ^ s := by
    rw [← he, Nat.div_lt_iff_lt_mul (Nat.two_pow_pos _), ← Nat.pow_add, show s + (64 - s) = 64 by omega]; exact hlo
  have hhs : 2 ^ s * hi + 2 ^ s ≤ Y := by
    rw [← hY, ← Nat.mul_succ, Nat.mul_comm]; exact Nat.mul_le_mul_right _ hhi
  obtain ⟨U, hU⟩ : ∃ U, 2 ^ s * hi + e = U := ⟨_, rfl⟩
  have hUY : U < Y := by omega
  obtain ⟨L, hL⟩ : ∃ L, lo * 2 ^ s % 18446744073709551616 = L := ⟨_, rfl⟩
  have hLM : L < 18446744073709551616 := by omega
  have hloe : lo * 2 ^ s = e * 18446744073709551616 + L := by
    have h1 : lo * 2 ^ s / 18446744073709551616 = e := by
      rw [← he, show (18446744073709551616 : Nat) = 2 ^ (64 - s) * 2 ^ s by rw [← Nat.pow_add, show 64 - s + s = 64 by omega], Nat.mul_div_mul_right _ _ (Nat.two_pow_pos s)]
    omega
  have hN : (hi * 18446744073709551616 + lo) * 2 ^ s = U * 18446744073709551616 + L := by
    have h2 : hi * 18446744073709551616 * 2 ^ s = 2 ^ s * hi * 18446744073709551616 := by
      rw [Nat.mul_right_comm, Nat.mul_comm hi]
    rw [Nat.add_mul, hloe, h2]; omega
  have f1 : wrapF .u64 (s : Int) = (s : Int) := wrapU64N (by omega)
  have f2 : wrapF .u64 ((y : Int) * ((2 ^ s : Nat) : Int)) = (Y : Int) := by rw [mulN, hY, wrapU64N s3.2]
  have f3 : wrapF .u64 ((hi : Int) * ((2 ^ s : Nat) : Int)) = ((2 ^ s * hi : Nat) : Int) := by rw [mulN, Nat.mul_comm hi, wrapU64N (by omega)]
  have f4 : wrapF .u64 (64 - (s : Int)) = ((64 - s : Nat) : Int) := by rw [show (64 : Int) - (s : Int) = ((64 - s : Nat) : Int) by omega, wrapU64N (by omega)]
  have f6 : bitJ Nat.lor .u64 ((2 ^ s * hi : Nat) : Int) (e : Int) = .int .u64 (U : Int) := by rw [lor64 hes (by omega), hU]
  have f7 : wrapF .u64 ((lo : Int) * ((2 ^ s : Nat) : Int)) = (L : Int) := by rw [mulN]; simp only [wrapF]; omega
  have f8 := andM (x := Y) s3.2
  have f9 := andM (x := L) hLM
  rw [hw] at f8
  exact ⟨Y, v, w, e, U, L, ⟨hY, s3, hYv, hwB, hU, hUY, hLM, hN, he, hv, hv0, m1, m2, f1, f2, f3, f4, f6, f7, f8, f9⟩⟩

/-- The numbers of one digit of a quotient: the divisor Y of the halves v and w, the rest U so far, the next digit u of the dividend. -/
structure Dig (Y v w U u : Nat) : Prop where
  hY : Y = 4294967296 * v + w
  hv : 2147483648 ≤ v
  hYM : Y < 18446744073709551616
  hw : w < 4294967296
  hU : U < Y
  hu : u < 4294967296

/-- A guess q of the digit, with its rest r. -/
structure Guess (Y v w U u q r : Nat) : Prop where
  hP : q * v + r = U
  hr : r < 4294967296
  hQ : (U * 4294967296 + u) / Y ≤ q

section
variable {Y v w U u q r : Nat}

theorem Dig.mulY (D : Dig Y v w U u) (q : Nat) : q * Y = 4294967296 * (q * v) + q * w := by
  rw [D.hY, Nat.mul_add, Nat.mul_left_comm]

theorem Dig.Q_lt (D : Dig Y v w U u) : (U * 4294967296 + u) / Y < 4294967296 := by
  have h := D.hU; have h1 := D.hu; have h2 := D.hv; have h3 := D.hY
  rw [Nat.div_lt_iff_lt_mul (by omega)]
  omega

theorem Dig.q_le (D : Dig Y v w U u) {q r : Nat} (h : q * v + r = U) : q ≤ 4294967297 := by
  have h0 := D.hU; have h1 := D.hw; have h2 := D.hv; have h3 := D.hY
  have : q * v < 4294967298 * v := by omega
  have := Nat.lt_of_mul_lt_mul_right this
  omega

theorem Dig.start (D : Dig Y v w U u) : Guess Y v w U u (U / v) (U % v) ∨ (4294967296 ≤ U % v) := by
  have h0 := D.hU; have h1 := D.hw; have h2 := D.hv; have h3 := D.hY; have h4 := D.hYM
  have hp : 0 < v := by omega
  left
  have hm := Nat.mod_lt U hp
  have hd : U / v * v + U % v = U := by rw [Nat.mul_comm]; exact Nat.div_add_mod U v
  refine ⟨hd, by omega, ?_⟩
  rw [Nat.div_le_iff_le_mul_add_pred (by omega)]
  have e := D.mulY (U / v)
  rw [Nat.mul_comm] at e
  rw [e]
  have h5 := D.hu
  omega

/-- The digit is less than the guess. -/
theorem Guess.less (D : Dig Y v w U u) (G : Guess Y v w U u q r) (h : 4294967296 ≤ q ∨ 4294967296 * r + u < q * w) : 1 ≤ q ∧ (U * 4294967296 + u) / Y ≤ q - 1 ∧ (q - 1) * v + (r + v) = U := by
  have hlt : (U * 4294967296 + u) / Y < q := by
    rcases h with h | h
    · exact Nat.lt_of_lt_of_le D.Q_lt h
    · have h1 := D.hY; have h2 := D.hv
      rw [Nat.div_lt_iff_lt_mul (by omega), D.mulY]
      have := G.hP
      omega
  have h1 : 1 ≤ q := Nat.lt_of_le_of_lt (Nat.zero_le _) hlt
  refine ⟨h1, Nat.le_sub_one_of_lt hlt, ?_⟩
  have e : q * v = (q - 1) * v + v := by rw [← Nat.succ_mul]; congr 1; omega
  have := G.hP
  omega

/-- The guess is the digit. -/
theorem Guess.done (D : Dig Y v w U u) (G : Guess Y v w U u q r) (h : q * w ≤ 4294967296 * r + u) : q = (U * 4294967296 + u) / Y := by
  refine Nat.le_antisymm ?_ G.hQ
  have h1 := D.hY; have h2 := D.hv
  rw [Nat.le_div_iff_mul_le (by omega), D.mulY]
  have := G.hP
  omega

/-- With so great a rest the guess is the digit. -/
theorem Dig.big (D : Dig Y v w U u) (hP : q * v + r = U) (hr : 4294967296 ≤ r) (hq : q ≤ 4294967296) (hQ : (U * 4294967296 + u) / Y ≤ q) : q = (U * 4294967296 + u) / Y := by
  refine Nat.le_antisymm ?_ hQ
  have h1 := D.hY; have h2 := D.hv; have h3 := D.hw
  rw [Nat.le_div_iff_mul_le (by omega), D.mulY]
  have := Nat.mul_le_mul hq (show w ≤ 4294967296 by omega)
  omega
end

theorem wrapM1 {q : Nat} (h1 : 1 ≤ q) (h2 : q < 18446744073709551616) : wrapF .u64 ((q : Int) - 1) = ((q - 1 : Nat) : Int) := by
  rw [show (q : Int) - 1 = ((q - 1 : Nat) : Int) by omega, wrapU64N (by omega)]

theorem div48 (hi lo y : Nat) (hhi : hi < y) (hlo : lo < 18446744073709551616) (hy : y < 18446744073709551616) :
    CallT Try.prog 48 [u64 hi, u64 lo, u64 y] [] fun d m' => d = .tup [u64 ((hi * 18446744073709551616 + lo) / y), u64 ((hi * 18446744073709551616 + lo) % y)] := by
  have c1 : ¬ (y : Int) = 0 := by omega
  have c2 : ¬ (y : Int) ≤ (hi : Int) := by omega
  simp only [u64]
  by_cases h0 : hi = 0
  · subst h0
    have c2' : ¬ (y : Int) ≤ 0 := by omega
    have hlq : lo / y < 18446744073709551616 := Nat.lt_of_le_of_lt (Nat.div_le_self _ _) hlo
    have q1 : wrapF .u64 (Int.tdiv (lo : Int) (y : Int)) = ((lo / y : Nat) : Int) := wrapU64N hlq
    have q2 : Int.tmod (lo : Int) (y : Int) = ((lo % y : Nat) : Int) := rfl
    refine callT_of k48_ok k48_name (Z.T hmix ?_)
    simp only [k48, k48c, c1, c2', cast0, q1, q2, Nat.zero_mul, Nat.zero_add, zz, leaves, undef, pin, Int.reduceLT, C.lps, C.isLoop, bsliceD, contents, gate, evalI, St.ev, St.put, List.replicate, Nat.reduceSub, Nat.reduceAdd, binJ, lenOfD, ressD, resD, D.ok, D.cells, one, reduceCtorEq, Nat.reduceEqDiff, Int.reduceEq]
  · have c3 : ¬ (hi : Int) = 0 := by omega
    refine callT_of k48_ok k48_name (Z.T hmix ?_)
    simp only [k48, k48c, c1, c2, c3, zz, leaves, undef, pin, Int.reduceLT, C.lps, C.isLoop, bsliceD, contents, gate, evalI, St.ev, St.put, List.replicate, Nat.reduceSub, Nat.reduceAdd, binJ, lenOfD, ressD, resD, D.ok, D.cells, one, reduceCtorEq, Nat.reduceEqDiff, Int.reduceEq]
    refine callX_of (lz55 y (by omega) hy _) ?_
    intro d m' hh
    obtain ⟨⟨s, hd, s2, s3⟩, hm'⟩ := hh
    obtain ⟨Y, v, w, e, U, L, F⟩ := div_facts hi lo y s hhi hlo s2 s3
    have D1 : Dig Y v w U (L / 4294967296) := ⟨F.hYv, by have := F.hYn.1; have := F.hYv; have := F.hwB; omega, F.hYn.2, F.hwB, F.hUY, by have := F.hLM; omega⟩
    have hvM : v < 18446744073709551616 := by have := F.hYv; have := F.hYn.2; omega
    have hUM : U < 18446744073709551616 := Nat.lt_trans F.hUY F.hYn.2
    have hvp : 0 < v := by have := D1.hv; omega
    have hdiv : ∀ n : Nat, n < 18446744073709551616 → wrapF .u64 (Int.tdiv (n : Int) (v : Int)) = ((n / v : Nat) : Int) := fun n hn => wrapU64N (Nat.lt_of_le_of_lt (Nat.div_le_self _ _) hn)
    have hmul : ∀ n : Nat, n < 18446744073709551616 → wrapF .u64 (((n / v : Nat) : Int) * (v : Int)) = ((n / v * v : Nat) : Int) := fun n hn => by rw [mulN, wrapU64N (Nat.lt_of_le_of_lt (Nat.div_mul_le_self _ _) hn)]
    have hsub : ∀ n : Nat, n < 18446744073709551616 → wrapF .u64 ((n : Int) - ((n / v * v : Nat) : Int)) = ((n % v : Nat) : Int) := fun n hn => by
      have := Nat.div_add_mod n v; rw [Nat.mul_comm] at this
      rw [show (n : Int) - ((n / v * v : Nat) : Int) = ((n % v : Nat) : Int) by omega, wrapU64N (by omega)]
    have g1 := hdiv U hUM
    have g2 := hmul U hUM
    have g3 := hsub U hUM
    simp only [hd, hm', zz, leaves, undef, pin, Int.reduceLT, C.lps, C.isLoop, bsliceD, contents, gate, evalI, St.ev, St.put, List.replicate, Nat.reduceSub, Nat.reduceAdd, binJ, lenOfD, ressD, resD, D.ok, D.cells, one, reduceCtorEq, Nat.reduceEqDiff, Int.reduceEq, i64, decNeg, F.m1, F.m2, F.f1, F.f2, F.f3, F.f4, fdivN, F.he, F.f6, F.f7, F.f8, F.f9, sh32, F.hv, F.hv0, g1, g2, g3, cast0]
    refine T.blkM (X := Nat × Nat) (fun x => ⟨[.dead, .dead, u64 Y, .dead, .dead, .dead, .dead, .dead, u64 s, u64 v, u64 w, u64 U, .dead, u64 (L / 4294967296), u64 (L % 4294967296), u64 x.1, u64 x.2, .dead, .dead, .dead, .dead, .dead, .dead, .dead, .dead, .dead, .dead, .dead, .dead, .dead, .dead, .dead, .dead, .dead, .dead, .dead, .dead, .dead, .dead, .dead, .dead, .dead, .dead, .dead, .dead, .dead, .dead, .dead, .dead, .dead, .dead, .dead, .dead, .dead, .dead, .dead, .dead, .dead, .dead, .dead, .dead, .dead, .dead, .dead, .dead, .dead, .dead, .dead, .dead, .dead, .dead, .dead, .dead, .dead, .dead, .dead, .dead, .dead, .dead, .dead, .dead, .dead, .dead, .dead, .dead, .dead, .dead, .dead, .dead, .dead, .dead, .dead, .dead, .dead, .dead, .dead, .dead, .dead, .dead, .dead, .dead, .dead, .dead, .dead, .dead, .dead, .dead, .dead, .dead, .dead, .dead, .dead, .dead, .dead, .dead, .dead, .dead, .dead, .dead, .dead, .dead, .dead, .dead, .dead, .dead, .dead, .dead, .dead, .dead, .dead, .dead, .dead, .dead, .dead, .dead], []⟩)
      (fun x => Guess Y v w U (L / 4294967296) x.1 x.2 ∧ x.1 ≤ 4294967297) (fun x => x.1 = (U * 4294967296 + L / 4294967296) / Y) (fun x => 4294967296 - x.2) (U / v, U % v) ?_ ?_ ?_ ?_ (fun _ => by repeat (first | exact stab_S | exact stab_C | exact stab_I | exact stab_M | refine stab_B ?_)) ?_
    · exact ⟨D1.start.resolve_right (by have := Nat.mod_lt U hvp; have := F.hYv; have := F.hYn.2; omega), D1.q_le (r := U % v) (by rw [Nat.mul_comm]; exact Nat.div_add_mod U v)⟩
    · exact At.same _ _ _ (by repeat (first | exact Subs.refl' _ | refine Subs.cons (Sub.refl _) ?_ | refine Subs.cons (Sub.toDead _) ?_))
    · rintro ⟨q, r⟩ _
      exact ⟨Nat.zero_le _, by simp [belows, below, u64], by simp⟩
    · rintro ⟨q, r⟩ ⟨hG, hq1⟩
      refine Z.T hmix ?_
      simp only at hG hq1
      have hrB := hG.hr
      have huB := D1.hu
      have e0 : (4294967296 : Int) * (r : Int) = ((4294967296 * r : Nat) : Int) := by omega
      have e1 : wrapF .u64 ((4294967296 * r : Nat) : Int) = ((4294967296 * r : Nat) : Int) := wrapU64N (by omega)
      have e2 : wrapF .u64 (((4294967296 * r : Nat) : Int) + ((L / 4294967296 : Nat) : Int)) = ((4294967296 * r + L / 4294967296 : Nat) : Int) := by rw [addN, wrapU64N (by omega)]
      have e4 : wrapF .u64 ((r : Int) + (v : Int)) = ((r + v : Nat) : Int) := by rw [addN, wrapU64N (by have := F.hYv; have := F.hYn.2; omega)]
      have e5 : wrapF .u64 ((q : Int) * (w : Int)) = wrapF .u64 ((q * w : Nat) : Int) := by rw [mulN]
      have out : ∀ c1 : (4294967296 ≤ q ∨ 4294967296 * r + L / 4294967296 < q * w), wrapF .u64 ((q : Int) - 1) = ((q - 1 : Nat) : Int) ∧ (4294967296 ≤ r + v → q - 1 = (U * 4294967296 + L / 4294967296) / Y) ∧ (r + v < 4294967296 → Guess Y v w U (L / 4294967296) (q - 1) (r + v)) := fun c1 => by
        obtain ⟨k1, k2, k3⟩ := hG.less D1 c1
        exact ⟨wrapM1 k1 (by omega), fun h => D1.big k3 h (by omega) k2, fun h => ⟨k3, h, k2⟩⟩
      by_cases c1 : 4294967296 ≤ q
      · have c1' : (4294967296 : Int) ≤ (q : Int) := by omega
        obtain ⟨o1, o2, o3⟩ := out (.inl c1)
        by_cases c2 : 4294967296 ≤ r + v
        · have c2' : (4294967296 : Int) ≤ ((r + v : Nat) : Int) := by omega
          simp only [u64, zz, leaves, undef, pin, Int.reduceLT, C.lps, C.isLoop, bsliceD, contents, gate, evalI, St.ev, St.put, List.replicate, Nat.reduceSub, Nat.reduceAdd, binJ, lenOfD, ressD, resD, D.ok, D.cells, one, reduceCtorEq, Nat.reduceEqDiff, Int.reduceEq, c1', o1, e4, c2']
          exact ⟨(q - 1, r + v), o2 c2, At.same _ _ _ (by repeat (first | exact Subs.refl' _ | refine Subs.cons (Sub.refl _) ?_ | refine Subs.cons (Sub.toDead _) ?_))⟩
        · have c2' : ¬ (4294967296 : Int) ≤ ((r + v : Nat) : Int) := by omega
          simp only [u64, zz, leaves, undef, pin, Int.reduceLT, C.lps, C.isLoop, bsliceD, contents, gate, evalI, St.ev, St.put, List.replicate, Nat.reduceSub, Nat.reduceAdd, binJ, lenOfD, ressD, resD, D.ok, D.cells, one, reduceCtorEq, Nat.reduceEqDiff, Int.reduceEq, c1', o1, e4, c2']
          exact ⟨(q - 1, r + v), ⟨o3 (by omega), by show q - 1 ≤ _; omega⟩, by show 4294967296 - (r + v) < 4294967296 - r; have := D1.hv; omega, At.same _ _ _ (by repeat (first | exact Subs.refl' _ | refine Subs.cons (Sub.refl _) ?_ | refine Subs.cons (Sub.toDead _) ?_))⟩
      · have c1' : ¬ (4294967296 : Int) ≤ (q : Int) := by omega
        have e6 : wrapF .u64 ((q * w : Nat) : Int) = ((q * w : Nat) : Int) := wrapU64N (by
          have := Nat.mul_le_mul (show q ≤ 4294967295 by omega) (show w ≤ 4294967295 by have := F.hwB; omega); omega)
        by_cases c3 : 4294967296 * r + L / 4294967296 < q * w
        · obtain ⟨o1, o2, o3⟩ := out (.inr c3)
          by_cases c2 : 4294967296 ≤ r + v
          · have c2' : (4294967296 : Int) ≤ ((r + v : Nat) : Int) := by omega
            simp only [u64, zz, leaves, undef, pin, Int.reduceLT, C.lps, C.isLoop, bsliceD, contents, gate, evalI, St.ev, St.put, List.replicate, Nat.reduceSub, Nat.reduceAdd, binJ, lenOfD, ressD, resD, D.ok, D.cells, one, reduceCtorEq, Nat.reduceEqDiff, Int.reduceEq, c1', o1, e0, e1, e2, e4, e5, e6, natlt, c3, c2']
            exact ⟨(q - 1, r + v), o2 c2, At.same _ _ _ (by repeat (first | exact Subs.refl' _ | refine Subs.cons (Sub.refl _) ?_ | refine Subs.cons (Sub.toDead _) ?_))⟩
          · have c2' : ¬ (4294967296 : Int) ≤ ((r + v : Nat) : Int) := by omega
            simp only [u64, zz, leaves, undef, pin, Int.reduceLT, C.lps, C.isLoop, bsliceD, contents, gate, evalI, St.ev, St.put, List.replicate, Nat.reduceSub, Nat.reduceAdd, binJ, lenOfD, ressD, resD, D.ok, D.cells, one, reduceCtorEq, Nat.reduceEqDiff, Int.reduceEq, c1', o1, e0, e1, e2, e4, e5, e6, natlt, c3, c2']
            exact ⟨(q - 1, r + v), ⟨o3 (by omega), by show q - 1 ≤ _; omega⟩, by show 4294967296 - (r + v) < 4294967296 - r; have := D1.hv; omega, At.same _ _ _ (by repeat (first | exact Subs.refl' _ | refine Subs.cons (Sub.refl _) ?_ | refine Subs.cons (Sub.toDead _) ?_))⟩
        · simp only [u64, zz, leaves, undef, pin, Int.reduceLT, C.lps, C.isLoop, bsliceD, contents, gate, evalI, St.ev, St.put, List.replicate, Nat.reduceSub, Nat.reduceAdd, binJ, lenOfD, ressD, resD, D.ok, D.cells, one, reduceCtorEq, Nat.reduceEqDiff, Int.reduceEq, c1', e0, e1, e2, e4, e5, e6, natlt, c3]
          exact ⟨(q, r), hG.done D1 (Nat.not_lt.1 c3), At.same _ _ _ (by repeat (first | exact Subs.refl' _ | refine Subs.cons (Sub.refl _) ?_ | refine Subs.cons (Sub.toDead _) ?_))⟩
    · rintro ⟨q, r⟩ hq
      simp only at hq
      obtain ⟨Q, hQ⟩ : ∃ Q, (U * 4294967296 + L / 4294967296) / Y = Q := ⟨_, rfl⟩
      rw [hQ] at hq
      subst hq
      obtain ⟨R, hR⟩ : ∃ R, (U * 4294967296 + L / 4294967296) % Y = R := ⟨_, rfl⟩
      have hYp : 0 < Y := by have := F.hYn.1; omega
      have hRY : R < Y := by rw [← hR]; exact Nat.mod_lt _ hYp
      have hdm := Nat.div_add_mod (U * 4294967296 + L / 4294967296) Y
      rw [hQ, hR, Nat.mul_comm] at hdm
      have hRM : R < 18446744073709551616 := Nat.lt_trans hRY F.hYn.2
      have D2 : Dig Y v w R (L % 4294967296) := ⟨F.hYv, D1.hv, F.hYn.2, F.hwB, hRY, Nat.mod_lt _ (by decide)⟩
      have k1 : wrapF .u64 ((U : Int) * 4294967296 + ((L / 4294967296 : Nat) : Int) - (q : Int) * (Y : Int)) = (R : Int) := by
        rw [mulN, show (U : Int) * 4294967296 + ((L / 4294967296 : Nat) : Int) - ((q * Y : Nat) : Int) = (R : Int) by omega, wrapU64N hRM]
      simp only [zz, leaves, undef, pin, Int.reduceLT, C.lps, C.isLoop, bsliceD, contents, gate, evalI, St.ev, St.put, List.replicate, Nat.reduceSub, Nat.reduceAdd, binJ, lenOfD, ressD, resD, D.ok, D.cells, one, reduceCtorEq, Nat.reduceEqDiff, Int.reduceEq]
      refine Z.T hmix ?_
      simp only [u64, zz, leaves, undef, pin, Int.reduceLT, C.lps, C.isLoop, bsliceD, contents, gate, evalI, St.ev, St.put, List.replicate, Nat.reduceSub, Nat.reduceAdd, binJ, lenOfD, ressD, resD, D.ok, D.cells, one, reduceCtorEq, Nat.reduceEqDiff, Int.reduceEq, wrap3, k1, F.hv0, hdiv R hRM, hmul R hRM, hsub R hRM]
      refine T.blkM (X := Nat × Nat) (fun x => ⟨[.dead, .dead, u64 Y, .dead, .dead, .dead, .dead, .dead, u64 s, u64 v, u64 w, .dead, .dead, .dead, u64 (L % 4294967296), u64 q, u64 x.2, u64 R, u64 x.1, .dead, .dead, .dead, .dead, .dead, .dead, .dead, .dead, .dead, .dead, .dead, .dead, .dead, .dead, .dead, .dead, .dead, .dead, .dead, .dead, .dead, .dead, .dead, .dead, .dead, .dead, .dead, .dead, .dead, .dead, .dead, .dead, .dead, .dead, .dead, .dead, .dead, .dead, .dead, .dead, .dead, .dead, .dead, .dead, .dead, .dead, .dead, .dead, .dead, .dead, .dead, .dead, .dead, .dead, .dead, .dead, .dead, .dead, .dead, .dead, .dead, .dead, .dead, .dead, .dead, .dead, .dead, .dead, .dead, .dead, .dead, .dead, .dead, .dead, .dead, .dead, .dead, .dead, .dead, .dead, .dead, .dead, .dead, .dead, .dead, .dead, .dead, .dead, .dead, .dead, .dead, .dead, .dead, .dead, .dead, .dead, .dead, .dead, .dead, .dead, .dead, .dead, .dead, .dead, .dead, .dead, .dead, .dead, .dead, .dead, .dead, .dead, .dead, .dead, .dead, .dead], []⟩)
        (fun x => Guess Y v w R (L % 4294967296) x.1 x.2 ∧ x.1 ≤ 4294967297) (fun x => x.1 = (R * 4294967296 + L % 4294967296) / Y) (fun x => 4294967296 - x.2) (R / v, R % v) ?_ ?_ ?_ ?_ (fun _ => by repeat (first | exact stab_S | exact stab_C | exact stab_I | exact stab_M | refine stab_B ?_)) ?_
      · exact ⟨D2.start.resolve_right (by have := Nat.mod_lt R hvp; have := F.hYv; have := F.hYn.2; omega), D2.q_le (r := R % v) (by rw [Nat.mul_comm]; exact Nat.div_add_mod R v)⟩
      · exact At.same _ _ _ (by repeat (first | exact Subs.refl' _ | refine Subs.cons (Sub.refl _) ?_ | refine Subs.cons (Sub.toDead _) ?_))
      · rintro ⟨q, r⟩ _
        exact ⟨Nat.zero_le _, by simp [belows, below, u64], by simp⟩
      · rintro ⟨p, r⟩ ⟨hG, hq1⟩
        refine Z.T hmix ?_
        simp only at hG hq1
        have hrB := hG.hr
        have huB := D2.hu
        have e0 : (4294967296 : Int) * (r : Int) = ((4294967296 * r : Nat) : Int) := by omega
        have e1 : wrapF .u64 ((4294967296 * r : Nat) : Int) = ((4294967296 * r : Nat) : Int) := wrapU64N (by omega)
        have e2 : wrapF .u64 (((4294967296 * r : Nat) : Int) + ((L % 4294967296 : Nat) : Int)) = ((4294967296 * r + L % 4294967296 : Nat) : Int) := by rw [addN, wrapU64N (by omega)]
        have e4 : wrapF .u64 ((r : Int) + (v : Int)) = ((r + v : Nat) : Int) := by rw [addN, wrapU64N (by have := F.hYv; have := F.hYn.2; omega)]
        have e5 : wrapF .u64 ((p : Int) * (w : Int)) = wrapF .u64 ((p * w : Nat) : Int) := by rw [mulN]
        have out : ∀ c1 : (4294967296 ≤ p ∨ 4294967296 * r + L % 4294967296 < p * w), wrapF .u64 ((p : Int) - 1) = ((p - 1 : Nat) : Int) ∧ (4294967296 ≤ r + v → p - 1 = (R * 4294967296 + L % 4294967296) / Y) ∧ (r + v < 4294967296 → Guess Y v w R (L % 4294967296) (p - 1) (r + v)) := fun c1 => by
          obtain ⟨k1, k2, k3⟩ := hG.less D2 c1
          exact ⟨wrapM1 k1 (by omega), fun h => D2.big k3 h (by omega) k2, fun h => ⟨k3, h, k2⟩⟩
        by_cases c1 : 4294967296 ≤ p
        · have c1' : (4294967296 : Int) ≤ (p : Int) := by omega
          obtain ⟨o1, o2, o3⟩ := out (.inl c1)
          by_cases c2 : 4294967296 ≤ r + v
          · have c2' : (4294967296 : Int) ≤ ((r + v : Nat) : Int) := by omega
            simp only [u64, zz, leaves, undef, pin, Int.reduceLT, C.lps, C.isLoop, bsliceD, contents, gate, evalI, St.ev, St.put, List.replicate, Nat.reduceSub, Nat.reduceAdd, binJ, lenOfD, ressD, resD, D.ok, D.cells, one, reduceCtorEq, Nat.reduceEqDiff, Int.reduceEq, c1', o1, e4, c2']
            exact ⟨(p - 1, r + v), o2 c2, At.same _ _ _ (by repeat (first | exact Subs.refl' _ | refine Subs.cons (Sub.refl _) ?_ | refine Subs.cons (Sub.toDead _) ?_))⟩
          · have c2' : ¬ (4294967296 : Int) ≤ ((r + v : Nat) : Int) := by omega
            simp only [u64, zz, leaves, undef, pin, Int.reduceLT, C.lps, C.isLoop, bsliceD, contents, gate, evalI, St.ev, St.put, List.replicate, Nat.reduceSub, Nat.reduceAdd, binJ, lenOfD, ressD, resD, D.ok, D.cells, one, reduceCtorEq, Nat.reduceEqDiff, Int.reduceEq, c1', o1, e4, c2']
            exact ⟨(p - 1, r + v), ⟨o3 (by omega), by show p - 1 ≤ _; omega⟩, by show 4294967296 - (r + v) < 4294967296 - r; have := D2.hv; omega, At.same _ _ _ (by repeat (first | exact Subs.refl' _ | refine Subs.cons (Sub.refl _) ?_ | refine Subs.cons (Sub.toDead _) ?_))⟩
        · have c1' : ¬ (4294967296 : Int) ≤ (p : Int) := by omega
          have e6 : wrapF .u64 ((p * w : Nat) : Int) = ((p * w : Nat) : Int) := wrapU64N (by
            have := Nat.mul_le_mul (show p ≤ 4294967295 by omega) (show w ≤ 4294967295 by have := F.hwB; omega); omega)
          by_cases c3 : 4294967296 * r + L % 4294967296 < p * w
          · obtain ⟨o1, o2, o3⟩ := out (.inr c3)
            by_cases c2 : 4294967296 ≤ r + v
            · have c2' : (4294967296 : Int) ≤ ((r + v : Nat) : Int) := by omega
              simp only [u64, zz, leaves, undef, pin, Int.reduceLT, C.lps, C.isLoop, bsliceD, contents, gate, evalI, St.ev, St.put, List.replicate, Nat.reduceSub, Nat.reduceAdd, binJ, lenOfD, ressD, resD, D.ok, D.cells, one, reduceCtorEq, Nat.reduceEqDiff, Int.reduceEq, c1', o1, e0, e1, e2, e4, e5, e6, natlt, c3, c2']
              exact ⟨(p - 1, r + v), o2 c2, At.same _ _ _ (by repeat (first | exact Subs.refl' _ | refine Subs.cons (Sub.refl _) ?_ | refine Subs.cons (Sub.toDead _) ?_))⟩
            · have c2' : ¬ (4294967296 : Int) ≤ ((r + v : Nat) : Int) := by omega
              simp only [u64, zz, leaves, undef, pin, Int.reduceLT, C.lps, C.isLoop, bsliceD, contents, gate, evalI, St.ev, St.put, List.replicate, Nat.reduceSub, Nat.reduceAdd, binJ, lenOfD, ressD, resD, D.ok, D.cells, one, reduceCtorEq, Nat.reduceEqDiff, Int.reduceEq, c1', o1, e0, e1, e2, e4, e5, e6, natlt, c3, c2']
              exact ⟨(p - 1, r + v), ⟨o3 (by omega), by show p - 1 ≤ _; omega⟩, by show 4294967296 - (r + v) < 4294967296 - r; have := D2.hv; omega, At.same _ _ _ (by repeat (first | exact Subs.refl' _ | refine Subs.cons (Sub.refl _) ?_ | refine Subs.cons (Sub.toDead _) ?_))⟩
          · simp only [u64, zz, leaves, undef, pin, Int.reduceLT, C.lps, C.isLoop, bsliceD, contents, gate, evalI, St.ev, St.put, List.replicate, Nat.reduceSub, Nat.reduceAdd, binJ, lenOfD, ressD, resD, D.ok, D.cells, one, reduceCtorEq, Nat.reduceEqDiff, Int.reduceEq, c1', e0, e1, e2, e4, e5, e6, natlt, c3]
            exact ⟨(p, r), hG.done D2 (Nat.not_lt.1 c3), At.same _ _ _ (by repeat (first | exact Subs.refl' _ | refine Subs.cons (Sub.refl _) ?_ | refine Subs.cons (Sub.toDead _) ?_))⟩
      · rintro ⟨p, r'⟩ hp
        simp only at hp
        obtain ⟨Q', hQ'⟩ : ∃ Q, (R * 4294967296 + L % 4294967296) / Y = Q := ⟨_, rfl⟩
        have hp1 := D2.Q_lt
        rw [← hp] at hp1
        rw [hQ'] at hp
        subst hp
        obtain ⟨R', hZ⟩ : ∃ R', (R * 4294967296 + L % 4294967296) % Y = R' := ⟨_, rfl⟩
        have hZY : R' < Y := by rw [← hZ]; exact Nat.mod_lt _ hYp
        have hdm2 := Nat.div_add_mod (R * 4294967296 + L % 4294967296) Y
        rw [hQ', hZ, Nat.mul_comm] at hdm2
        have hq1 := D1.Q_lt
        rw [hQ] at hq1
        have k2 : wrapF .u64 ((R : Int) * 4294967296 + ((L % 4294967296 : Nat) : Int) - (p : Int) * (Y : Int)) = (R' : Int) := by
          rw [mulN, show (R : Int) * 4294967296 + ((L % 4294967296 : Nat) : Int) - ((p * Y : Nat) : Int) = (R' : Int) by omega, wrapU64N (Nat.lt_trans hZY F.hYn.2)]
        have k3 : wrapF .u64 (wrapF .u64 ((q : Int) * 4294967296) + (p : Int)) = ((q * 4294967296 + p : Nat) : Int) := by
          rw [show (q : Int) * 4294967296 = ((q * 4294967296 : Nat) : Int) by omega, wrapU64N (by omega), addN, wrapU64N (by omega)]
        have hfin : (hi * 18446744073709551616 + lo) * 2 ^ s = (q * 4294967296 + p) * (y * 2 ^ s) + R' := by
          rw [F.hN, F.hY, Nat.add_mul, Nat.mul_right_comm]
          omega
        have hsc := scaled (by omega) hfin (by rw [F.hY]; exact hZY)
        simp only [zz, leaves, undef, pin, Int.reduceLT, C.lps, C.isLoop, bsliceD, contents, gate, evalI, St.ev, St.put, List.replicate, Nat.reduceSub, Nat.reduceAdd, binJ, lenOfD, ressD, resD, D.ok, D.cells, one, reduceCtorEq, Nat.reduceEqDiff, Int.reduceEq]
        refine Z.T hmix ?_
        simp only [u64, zz, leaves, undef, pin, Int.reduceLT, C.lps, C.isLoop, bsliceD, contents, gate, evalI, St.ev, St.put, List.replicate, Nat.reduceSub, Nat.reduceAdd, binJ, lenOfD, ressD, resD, D.ok, D.cells, one, reduceCtorEq, Nat.reduceEqDiff, Int.reduceEq, wrap3, k2, k3, decNeg, F.m1, fdivN, hsc.1, hsc.2]

theorem div48P (hi lo y : Nat) (hhi : hi < y) (hlo : lo < 18446744073709551616) (hy : y < 18446744073709551616) (m : List Ent) :
    CallT Try.prog 48 [u64 hi, u64 lo, u64 y] m fun d m' => d = .tup [u64 ((hi * 18446744073709551616 + lo) / y), u64 ((hi * 18446744073709551616 + lo) % y)] ∧ m' = m :=
  (callP_of (R := fun d => d = .tup [u64 ((hi * 18446744073709551616 + lo) / y), u64 ((hi * 18446744073709551616 + lo) % y)]) 3 rfl ((div48 hi lo y hhi hlo hy).mono fun _ _ h => by rw [h]; rfl) m).mono fun _ _ h => ⟨h.1.1, h.2⟩
end Go.Proofs.Ytlfhdejlpnljbaa
