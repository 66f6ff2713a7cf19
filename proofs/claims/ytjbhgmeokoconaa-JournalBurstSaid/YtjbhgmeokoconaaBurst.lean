/-
  A burst of at most 32 bits changes the checksum: no program in sight.
-/
import Derived.Test.YtjbhgmeokoconaaPureJ
set_option linter.unusedSimpArgs false
set_option linter.unusedVariables false
set_option maxHeartbeats 2000000
namespace Go.Proofs.Ytjbhgmeokoconaa
open Go.Tm
set_option maxRecDepth 10000

theorem bit1_zero {r : BitVec 32} (h : bit1 r = 0#32) : r = 0#32 := by
  have hr := r.isLt
  unfold bit1 at h
  have hd : (r / 2#32).toNat = r.toNat / 2 := by simp [BitVec.toNat_udiv]
  split at h
  · exfalso
    have h1 : r / 2#32 = 0xEDB88320#32 := by
      have := congrArg (· ^^^ 0xEDB88320#32) h
      simpa [BitVec.xor_assoc] using this
    rw [h1] at hd
    have : (0xEDB88320#32).toNat = 3988292384 := rfl
    omega
  · rename_i h2
    rw [h] at hd
    apply BitVec.eq_of_toNat_eq
    have : (0#32).toNat = 0 := rfl
    omega

theorem bitsN_ne : ∀ (n : Nat) {r : BitVec 32}, r ≠ 0#32 → bitsN n r ≠ 0#32
  | 0, r, h => h
  | n + 1, r, h => bitsN_ne n fun h' => h (bit1_zero h')

theorem byte1_xor (a d : BitVec 32) (b : BitVec 8) : byte1 (a ^^^ d) b = byte1 a b ^^^ bitsN 8 d := by
  unfold byte1
  rw [← bitsN_xor, BitVec.xor_assoc, BitVec.xor_comm d, BitVec.xor_assoc]

theorem foldl_xor : ∀ (l : List (BitVec 8)) (a d : BitVec 32), l.foldl byte1 (a ^^^ d) = l.foldl byte1 a ^^^ bitsN (8 * l.length) d
  | [], a, d => rfl
  | b :: l, a, d => by
    rw [List.foldl_cons, List.foldl_cons, byte1_xor, foldl_xor l, ← bits_add, List.length_cons, show 8 * (l.length + 1) = 8 + 8 * l.length by omega]

theorem bits_shl : ∀ t : Nat, t < 32 → bitsN t (1#32 <<< t) = 1#32
  | 0, _ => rfl
  | t + 1, h => by
    rw [bitsN, bit1_shl _ t ?_ (by omega), bits_shl t (by omega)]
    have : (1#32).toNat = 1 := rfl
    rw [this]
    exact Nat.one_lt_two_pow (by omega)

/-- One bit of bytes is turned. -/
def flipP (p : List (BitVec 8)) (k : Nat) : List (BitVec 8) := p.set (k / 8) (p.getD (k / 8) 0#8 ^^^ (1#8 <<< (k % 8)))

theorem flipP_len (p : List (BitVec 8)) (k : Nat) : (flipP p k).length = p.length := by simp [flipP]

theorem shl_ext : ∀ t : Nat, t < 8 → ((1#8 <<< t : BitVec 8).zeroExtend 32 : BitVec 32) = 1#32 <<< t := by decide

theorem byte1_flip (s : BitVec 32) (x u : BitVec 8) : byte1 s (x ^^^ u) = byte1 s x ^^^ bitsN 8 (u.zeroExtend 32) := by
  unfold byte1
  rw [← bitsN_xor, BitVec.xor_assoc]
  congr 2

/-- **One bit turned changes the checksum by what that bit becomes.** -/
theorem crc_flip (p : List (BitVec 8)) (k : Nat) (hk : k < 8 * p.length) : crcRef (flipP p k) = crcRef p ^^^ bitsN (8 * p.length - k) 1#32 := by
  have hj : k / 8 < p.length := by omega
  have hp : p = p.take (k / 8) ++ p[k / 8] :: p.drop (k / 8 + 1) := by rw [← List.drop_eq_getElem_cons hj, List.take_append_drop]
  have hset : flipP p k = p.take (k / 8) ++ (p[k / 8] ^^^ (1#8 <<< (k % 8))) :: p.drop (k / 8 + 1) := by
    unfold flipP
    rw [List.getD_eq_getElem?_getD, List.getElem?_eq_getElem hj, Option.getD_some, List.set_eq_take_append_cons_drop, if_pos hj]
  have hc : crcRef p = (p.take (k / 8) ++ p[k / 8] :: p.drop (k / 8 + 1)).foldl byte1 4294967295#32 ^^^ 4294967295#32 := by rw [← hp]; rfl
  rw [hc, hset]
  unfold crcRef
  simp only [List.foldl_append, List.foldl_cons]
  rw [byte1_flip, foldl_xor, shl_ext _ (by omega), ← bits_add, List.length_drop]
  have hb : bitsN (8 + 8 * (p.length - (k / 8 + 1))) (1#32 <<< (k % 8)) = bitsN (8 * p.length - k) 1#32 := by
    rw [show 8 + 8 * (p.length - (k / 8 + 1)) = k % 8 + (8 * p.length - k) by omega, bits_add, bits_shl _ (by omega)]
  rw [hb, BitVec.xor_assoc, BitVec.xor_assoc, BitVec.xor_comm (bitsN _ _)]

/-- The bits of a mask, turned from bit 'start' on, i of them. -/
def flips (p : List (BitVec 8)) (start mask : Nat) : Nat → List (BitVec 8)
  | 0 => p
  | i + 1 => if mask / 2 ^ i % 2 = 1 then flipP (flips p start mask i) (start + i) else flips p start mask i

theorem flips_len (p : List (BitVec 8)) (start mask : Nat) : ∀ i, (flips p start mask i).length = p.length
  | 0 => rfl
  | i + 1 => by rw [flips]; split <;> simp [flipP_len, flips_len p start mask i]

theorem mod_step (m i : Nat) : m % 2 ^ (i + 1) = m % 2 ^ i + 2 ^ i * (m / 2 ^ i % 2) := by
  rw [Nat.pow_succ, Nat.mod_mul]

theorem ofNat_bit {a i : Nat} (ha : a < 2 ^ i) (hi : i < 32) : BitVec.ofNat 32 (a + 2 ^ i) = BitVec.ofNat 32 a ^^^ (1#32 <<< i) := by
  have h1 : a + 2 ^ i = a ^^^ 2 ^ i := by
    have := Nat.two_pow_add_eq_or_of_lt (i := i) (b := a) ha 1
    rw [Nat.mul_one] at this
    rw [Nat.add_comm, this]
    apply Nat.eq_of_testBit_eq
    intro j
    rw [Nat.testBit_or, Nat.testBit_xor, Nat.testBit_two_pow]
    by_cases hj : i = j
    · subst hj
      simp [Nat.testBit_lt_two_pow ha]
    · simp [hj]
  have h2 : a < 2 ^ 32 := Nat.lt_of_lt_of_le ha (Nat.pow_le_pow_right (by decide) (by omega))
  have h3 : 2 ^ i < 2 ^ 32 := Nat.pow_lt_pow_right (by decide) hi
  apply BitVec.eq_of_toNat_eq
  rw [BitVec.toNat_xor, BitVec.toNat_ofNat, BitVec.toNat_ofNat, BitVec.toNat_shiftLeft, Nat.shiftLeft_eq]
  have h4 : (1#32).toNat = 1 := rfl
  rw [h4, Nat.one_mul, Nat.mod_eq_of_lt h3, Nat.mod_eq_of_lt h2, h1]
  exact Nat.mod_eq_of_lt (Nat.xor_lt_two_pow h2 h3)

theorem crc_flips (p : List (BitVec 8)) (start mask : Nat) : ∀ i, i ≤ 32 → start + i ≤ 8 * p.length → crcRef (flips p start mask i) = crcRef p ^^^ bitsN (8 * p.length - start) (BitVec.ofNat 32 (mask % 2 ^ i))
  | 0, _, _ => by
    have h0 : ∀ n, bitsN n 0#32 = 0#32 := by
      intro n
      induction n with
      | zero => rfl
      | succ n ih => rw [bitsN, show bit1 0#32 = 0#32 from rfl, ih]
    simp only [flips, Nat.pow_zero, Nat.mod_one, BitVec.ofNat_eq_ofNat, h0, BitVec.xor_zero]
  | i + 1, h32, hl => by
    have ih := crc_flips p start mask i (by omega) (by omega)
    rw [flips, mod_step]
    split
    · rename_i h1
      rw [crc_flip _ _ (by rw [flips_len]; omega), ih, flips_len, h1, Nat.mul_one, ofNat_bit (Nat.mod_lt _ (Nat.two_pow_pos _)) (by omega), bitsN_xor, BitVec.xor_assoc]
      congr 2
      rw [show 8 * p.length - start = i + (8 * p.length - (start + i)) by omega, bits_add, bits_shl i (by omega)]
    · rename_i h1
      rw [ih, show mask / 2 ^ i % 2 = 0 by omega, Nat.mul_zero, Nat.add_zero]

/-- **A burst is found.** -/
theorem crc_burst (p : List (BitVec 8)) (start mask i : Nat) (hi : i ≤ 32) (hl : start + i ≤ 8 * p.length) (hm : mask % 2 ^ i ≠ 0) : crcRef (flips p start mask i) ≠ crcRef p := by
  rw [crc_flips p start mask i hi hl]
  intro h
  have hne : BitVec.ofNat 32 (mask % 2 ^ i) ≠ 0#32 := by
    intro h'
    have := congrArg BitVec.toNat h'
    rw [BitVec.toNat_ofNat] at this
    have h2 : mask % 2 ^ i < 2 ^ i := Nat.mod_lt _ (Nat.two_pow_pos _)
    have h3 : 2 ^ i ≤ 2 ^ 32 := Nat.pow_le_pow_right (by decide) hi
    rw [Nat.mod_eq_of_lt (by omega)] at this
    exact hm this
  refine bitsN_ne (8 * p.length - start) hne ?_
  have h2 := congrArg (crcRef p ^^^ ·) h
  simp only [← BitVec.xor_assoc, BitVec.xor_self, BitVec.zero_xor] at h2
  exact h2

/-- The bytes of an encoding, its payload exchanged. -/
def withP (r : Rc) (p : List (BitVec 8)) : List (BitVec 8) := bytesLE 4 (72 + 32 * r.ps.length) ++ p ++ bytesLE 4 (crcRef (payload r)).toNat

theorem encB_withP (r : Rc) : encB r = withP r (payload r) := rfl

theorem burst_bad (r : Rc) (hk : r.ps.length ≤ 4096) (p : List (BitVec 8)) (hp : p.length = 72 + 32 * r.ps.length) (hc : crcRef p ≠ crcRef (payload r)) (k : Nat) : ¬ Good1 (withP r p) k := by
  intro h
  have hlt := (crcRef (payload r)).isLt
  have h1 := h.n
  unfold withP at h1
  rw [List.append_assoc, List.take_append_of_le_length (by rw [bytesLE_len]; omega), List.take_of_length_le (by rw [bytesLE_len]; omega), leN_bytesLE, Nat.mod_eq_of_lt (by omega)] at h1
  obtain rfl : k = r.ps.length := by omega
  have h2 := h.crc
  have hd : (withP r p).drop 4 = p ++ bytesLE 4 (crcRef (payload r)).toNat := by
    unfold withP
    rw [List.append_assoc, List.drop_append_of_le_length (by rw [bytesLE_len]; omega), List.drop_of_length_le (by rw [bytesLE_len]; omega), List.nil_append]
  rw [show 76 + 32 * r.ps.length = 4 + (72 + 32 * r.ps.length) by omega, ← List.drop_drop, hd, ← hp, List.take_left, List.drop_left, List.take_of_length_le (by rw [bytesLE_len]; omega), leN_bytesLE, Nat.mod_eq_of_lt (by omega)] at h2
  exact hc (BitVec.eq_of_toNat_eq h2)
end Go.Proofs.Ytjbhgmeokoconaa
