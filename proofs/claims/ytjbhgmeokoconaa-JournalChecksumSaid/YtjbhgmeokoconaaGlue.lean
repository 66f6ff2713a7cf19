/-
  From a reading of a slice of bytes to a tree.
-/
import Derived.Test.YtjbhgmeokoconaaSum
import Derived.ProofKit
set_option linter.unusedSimpArgs false
set_option linter.unusedVariables false
namespace Go.Proofs.Ytjbhgmeokoconaa
open Go.Tm
open Go.RowKit (Below)

theorem step_below {G G' : Gh} {w w' : World} {m' : List Ent} (h : Step G w [] G' w' m') : Below w.heap.size w w' :=
  ⟨h.os, h.tape, h.output, h.size, fun k hk => h.keep k hk fun ⟨i, e, he, _⟩ => by simp at he⟩

theorem cell_lt {w : World} {a : Addr} {v : Value} (h : w.cell? a = some v) : a.block < w.heap.size := by
  rcases Nat.lt_or_ge a.block w.heap.size with h' | h'
  · exact h'
  · unfold World.cell? at h
    rw [Array.getElem?_eq_none h'] at h
    simp at h

theorem u8_wf {n : Int} (h : (Lit.int .u8 n).wf = true) : ∃ b : BitVec 8, n = (b.toNat : Int) := by
  refine ⟨BitVec.ofInt 8 n, ?_⟩
  simp [Lit.wf, IntKind.min, IntKind.max, IntKind.bits, IntKind.signed] at h
  rw [BitVec.toNat_ofInt]
  omega

theorem bytes_list : ∀ {zs : List Int}, (∀ n ∈ zs, (Lit.int .u8 n).wf = true) → ∃ bs : List (BitVec 8), zs = bs.map fun b => (b.toNat : Int)
  | [], _ => ⟨[], rfl⟩
  | n :: zs, h => by
    obtain ⟨b, hb⟩ := u8_wf (h n (by simp))
    obtain ⟨bs, hbs⟩ := bytes_list (zs := zs) fun m hm => h m (by simp [hm])
    exact ⟨b :: bs, by rw [hb, hbs]; rfl⟩

theorem bytes_rel {w : World} {x : Addr} {l c : Nat} {zs : List Int} (hl : l ≤ c) (hz : zs.length = c) (hcell : ∀ i, i < zs.length → w.cell? (x.add i) = some (.int .u8 (zs.getD i 0))) (hwz : ∀ n ∈ zs, (Lit.int .u8 n).wf = true) :
    ∃ bs : List (BitVec 8), bs.length = l ∧ VRel (Gh.bare fun b => b < w.heap.size) w (.sl 1 (bytesD bs)) (.slice (some x) l c) := by
  obtain ⟨cs, rfl⟩ := bytes_list hwz
  refine ⟨cs.take l, by simp at hz ⊢; omega, ?_⟩
  simp only [VRel]
  refine ⟨_, _, _, rfl, by simp [bytesD] at hz ⊢; omega, hl, ?_⟩
  by_cases h0 : l = 0
  · exact .inl (by simp [h0, bytesD])
  · obtain ⟨b, off, spot⟩ := x
    simp only [List.length_map] at hz hcell
    have hc := hcell 0 (by omega)
    have hspot : spot = none := by simpa [Addr.add] using World.cell?_spot hc
    subst hspot
    refine .inr ⟨b, off, rfl, ?_, ?_⟩
    · have h := cell_lt hc
      exact h
    · rw [rowAt_iff]
      intro i d hd
      simp only [bytesD, List.getElem?_map, Option.map_eq_some_iff] at hd
      obtain ⟨e, he, rfl⟩ := hd
      have hil : i < cs.length := by
        have := (List.getElem?_eq_some_iff.1 he).1
        simp at this; omega
      have hci := hcell i hil
      have hei : cs[i]? = some e := by
        rw [List.getElem?_take] at he
        split at he
        · exact he
        · cases he
      refine ⟨.int .u8 (e.toNat : Int), by simp [VRel], by simp [Value.cells], ?_⟩
      intro j c hj
      have hj2 : j = 0 ∧ c = .int .u8 (e.toNat : Int) := by
        cases j with
        | zero => simp [Value.cells] at hj; exact ⟨rfl, hj.symm⟩
        | succ j => simp [Value.cells] at hj
      obtain ⟨rfl, rfl⟩ := hj2
      refine ⟨rfl, ?_⟩
      have hg : (cs.map fun b => (b.toNat : Int)).getD i 0 = (e.toNat : Int) := by
        rw [List.getD_eq_getElem?_getD, List.getElem?_map, hei]; rfl
      rw [hg] at hci
      rcases Nat.eq_zero_or_pos i with h | h
      · subst h; simpa [Addr.add] using hci
      · simpa [Addr.add, Nat.pos_iff_ne_zero.1 h] using hci
end Go.Proofs.Ytjbhgmeokoconaa
