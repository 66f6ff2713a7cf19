/-
  Soundness of the instructions that reckon addresses and take parts.
-/
import Derived.Test.YtlfhdejlpnljbaaTmG
set_option linter.unusedSimpArgs false
set_option linter.unusedVariables false
namespace Go.Tm
open Go.RowKit (Below)
section
variable {P : Program} {G : Gh} {w : World} {a : Act} {s : St} {d : D} {m' : List Ent}

theorem run_part {t : TypeId} {ds : TypeDesc} {i : TypeInfo} (hd : P.underlying t = some ds) (hi : P.info? t = some i) {l : List D} {cs : List Value} (hv : VsRel G w l cs) (h1 : ∀ c ∈ cs, one c = true)
    {off : Nat} {r : D} (hp : part (isAggD ds) i.size off l = some r) : ∃ u, (Go.part t cs.toArray off).run P w = .ok u w ∧ VRel G w r u := by
  unfold Go.part
  simp only [Sem.run_bind, run_isAgg' hd, Result.andThen_ok]
  cases hA : isAggD ds with
  | true =>
    rw [hA] at hp
    obtain ⟨hlt, hr⟩ := part_agg hv h1 hp
    refine ⟨_, ?_, hr⟩
    simp only [if_true, Sem.run_bind, run_sizeOf' hi, Result.andThen_ok, Sem.run_pure]
    congr 2
    apply Array.ext'
    simp [List.extract_eq_take_drop]
  | false =>
    rw [hA] at hp
    obtain ⟨u, hu, hr⟩ := part_one hv hp
    exact ⟨u, by simp [hu], hr⟩

theorem g_field (hr : Rel G w a s) {t : TypeId} {x : Operand} {f : Nat} {fs : Array Field} {fl : Field} {r : Bool × Nat} {o : Oper} (ho : o.op = .field t x f)
    (ht : P.underlying t = some (.struct fs)) (hf : fs[f]? = some fl) (hs : shapeOf P fl.type = some r) (he : evalI s (.field r.1 r.2 fl.offset x) = some (d, m')) :
    Good G w s.m ((execOp a.eval o).run P w) d m' := by
  obtain ⟨ds, i, hd, hi, rfl⟩ := shape_parts hs
  have hx := hr.ev x
  simp only [evalI] at he
  unfold execOp
  simp only [ho]
  generalize s.ev x = dx at *
  split at he
  · rename_i l
    simp only [VRel] at hx
    obtain ⟨cs, hx, hv, h1⟩ := hx
    simp only [Option.map_eq_some_iff, Prod.mk.injEq] at he
    obtain ⟨e, hp, rfl, rfl⟩ := he
    obtain ⟨u, hu, hv'⟩ := run_part (P := P) hd hi hv h1 hp
    refine good_here (u := u) hr.inv ?_ hv'
    simp [Instr.field, run_underlying ht, hf, hx, asAgg, hu]
  · cases he

theorem g_index (hr : Rel G w a s) {t e : TypeId} {n : Nat} {x y : Operand} {r : Bool × Nat} {o : Oper} (ho : o.op = .index t x y)
    (ht : P.underlying t = some (.array n e)) (hs : shapeOf P e = some r) (he : evalI s (.index r.1 r.2 n x y) = some (d, m')) :
    Good G w s.m ((execOp a.eval o).run P w) d m' := by
  obtain ⟨ds, i, hd, hi, rfl⟩ := shape_parts hs
  have hx := hr.ev x
  have hy := hr.ev y
  simp only [evalI] at he
  unfold execOp
  simp only [ho]
  generalize s.ev x = dx at *
  generalize s.ev y = dy at *
  split at he
  · rename_i jk k
    simp only [VRel] at hy
    split at he
    · rename_i hk
      split at he
      · rename_i l
        simp only [VRel] at hx
        obtain ⟨cs, hx, hv, h1⟩ := hx
        simp only [Option.map_eq_some_iff, Prod.mk.injEq] at he
        obtain ⟨e, hp, rfl, rfl⟩ := he
        obtain ⟨u, hu, hv'⟩ := run_part (P := P) hd hi hv h1 hp
        refine good_here (u := u) hr.inv ?_ hv'
        have hk' : 0 ≤ k ∧ k < n := ⟨hk.1, by omega⟩
        simp [Instr.index, hy, asIntOf, run_underlying ht, hx, hk', run_sizeOf' hi, hu]
      · cases he
    · cases he
  · cases he

theorem g_faddr (hr : Rel G w a s) {t : TypeId} {x : Operand} {f : Nat} {fs : Array Field} {fl : Field} {r : Bool × Nat} {o : Oper} (ho : o.op = .fieldAddr t x f)
    (ht : P.underlying t = some (.struct fs)) (hf : fs[f]? = some fl) (hs : shapeOf P fl.type = some r) (h0 : r.2 ≠ 0) (he : evalI s (.faddr r.1 r.2 fl.offset x) = some (d, m')) :
    Good G w s.m ((execOp a.eval o).run P w) d m' := by
  obtain ⟨ds, i, hd, hi, rfl⟩ := shape_parts hs
  have hx := hr.ev x
  simp only [evalI] at he
  have run : ∀ p, a.eval x = .pointer (some p) → (execOp a.eval o).run P w = .ok (.value (.pointer (some (p.add fl.offset)))) w := by
    intro p hp
    unfold execOp
    simp only [ho, hp]
    simp only at h0
    simp [Instr.fieldAt, run_underlying ht, hf, Instr.sureAddr, fieldPlace, run_sizeOf' hi, h0]
  generalize s.ev x = dx at *
  split at he
  · rename_i l
    simp only [VRel] at hx
    obtain ⟨b, off, u, hp, hF, ⟨cs, rfl, hv, h1⟩, hh⟩ := hx
    simp only [Option.map_eq_some_iff, Prod.mk.injEq] at he
    obtain ⟨e, hpt, rfl, rfl⟩ := he
    obtain ⟨u', hv', hh'⟩ := part_at hv h1 hpt hh
    refine good_here hr.inv (run _ hp) ?_
    rw [addr_add]
    simp only [VRel]
    exact ⟨b, off + fl.offset, u', rfl, hF, hv', hh'⟩
  · rename_i id ver idx sub
    injection he with he
    injection he with h1 h2
    subst h1; subst h2
    simp only [VRel] at hx
    obtain ⟨p, hp, hid, hver, hx⟩ := hx
    refine good_here hr.inv (run _ hp) ?_
    simp only [VRel]
    refine ⟨_, rfl, hid, hver, fun e => ?_⟩
    obtain ⟨b, hb, rfl⟩ := hx e
    exact ⟨b, hb, by rw [addr_add, Nat.add_assoc]⟩
  · cases he

theorem g_aaddr (hr : Rel G w a s) {t e : TypeId} {n : Nat} {x y : Operand} {r : Bool × Nat} {o : Oper} (ho : o.op = .indexAddr t x y)
    (ht : P.underlying t = some (.array n e)) (hs : shapeOf P e = some r) (he : evalI s (.aaddr r.1 r.2 n x y) = some (d, m')) :
    Good G w s.m ((execOp a.eval o).run P w) d m' := by
  obtain ⟨ds, i, hd, hi, rfl⟩ := shape_parts hs
  have hx := hr.ev x
  have hy := hr.ev y
  simp only [evalI] at he
  generalize s.ev x = dx at *
  generalize s.ev y = dy at *
  split at he
  · rename_i jk k
    simp only [VRel] at hy
    split at he
    · rename_i hk
      have hk' : 0 ≤ k ∧ k < n := ⟨hk.1, by omega⟩
      have run : ∀ p, a.eval x = .pointer (some p) → (execOp a.eval o).run P w = .ok (.value (.pointer (some (p.add (k.toNat * i.size))))) w := by
        intro p hp
        unfold execOp
        simp only [ho, hp, hy]
        simp [Instr.indexAt, asIntOf, run_underlying ht, Instr.sureAddr, hk', run_sizeOf' hi]
      split at he
      · rename_i l
        simp only [VRel] at hx
        obtain ⟨b, off, u, hp, hF, ⟨cs, rfl, hv, h1⟩, hh⟩ := hx
        simp only [Option.map_eq_some_iff, Prod.mk.injEq] at he
        obtain ⟨e, hpt, rfl, rfl⟩ := he
        obtain ⟨u', hv', hh'⟩ := part_at hv h1 hpt hh
        refine good_here hr.inv (run _ hp) ?_
        rw [addr_add]
        simp only [VRel]
        exact ⟨b, _, u', rfl, hF, hv', hh'⟩
      · rename_i id ver idx sub
        injection he with he
        injection he with h1 h2
        subst h1; subst h2
        simp only [VRel] at hx
        obtain ⟨p, hp, hid, hver, hx⟩ := hx
        refine good_here hr.inv (run _ hp) ?_
        simp only [VRel]
        refine ⟨_, rfl, hid, hver, fun e => ?_⟩
        obtain ⟨b, hb, rfl⟩ := hx e
        exact ⟨b, hb, by rw [addr_add, Nat.add_assoc]⟩
      · cases he
    · cases he
  · cases he

theorem g_iaddr (hr : Rel G w a s) {t e : TypeId} {i : TypeInfo} {x y : Operand} {o : Oper} (ho : o.op = .indexAddr t x y)
    (ht : P.underlying t = some (.slice e)) (hi : P.info? e = some i) (he : evalI s (.iaddr i.size x y) = some (d, m')) :
    Good G w s.m ((execOp a.eval o).run P w) d m' := by
  have hx := hr.ev x
  have hy := hr.ev y
  simp only [evalI] at he
  generalize s.ev x = dx at *
  generalize s.ev y = dy at *
  split at he
  · rename_i jk k
    simp only [VRel] at hy
    split at he
    · rename_i hk
      have run : ∀ p n c, a.eval x = .slice (some p) n c → k < n → (execOp a.eval o).run P w = .ok (.value (.pointer (some (p.add (k.toNat * i.size))))) w := by
        intro p n c hp hlt
        have hk' : 0 ≤ k ∧ k < n := ⟨hk, hlt⟩
        unfold execOp
        simp only [ho, hp, hy]
        simp [Instr.indexAt, asIntOf, run_underlying ht, hk', run_sizeOf' hi]
      split at he
      · rename_i S' l
        split at he
        · rename_i hS
          subst hS
          simp only [Option.map_eq_some_iff, Prod.mk.injEq] at he
          obtain ⟨e', hl, rfl, rfl⟩ := he
          simp only [VRel] at hx
          obtain ⟨p, n, c, hp, hn, hc, hx⟩ := hx
          have hlt : k.toNat < l.length := by
            rcases Nat.lt_or_ge k.toNat l.length with h | h
            · exact h
            · rw [List.getElem?_eq_none h] at hl; cases hl
          rcases hx with rfl | ⟨b, off, rfl, hF, hrow⟩
          · simp at hlt
          · obtain ⟨u, hv, hsz, hh⟩ := rowAt_iff.1 hrow _ _ hl
            refine good_here hr.inv (run _ _ _ hp (by omega)) ?_
            rw [addr_add]
            simp only [VRel]
            exact ⟨b, _, u, rfl, hF, hv, hh⟩
        · cases he
      · rename_i id ver
        split at he
        · rename_i S' ver' l hm
          split at he
          · rename_i hc
            obtain ⟨rfl, rfl, hlt⟩ := hc
            injection he with he
            injection he with h1 h2
            subst h1; subst h2
            simp only [VRel] at hx
            obtain ⟨p, n, c, hp, hid, hver, hx⟩ := hx
            obtain ⟨a1, a2, a3, a4, a5⟩ := hr.inv.ent _ _ hm
            obtain ⟨rfl, rfl, rfl⟩ := hx a1
            rcases a5 with a5 | ⟨b', cs, T, hb', hF, hblk, hsz, hrow⟩
            · rw [a5.2] at a4; omega
            · rw [hb'] at hp
              refine good_here hr.inv (run _ _ _ hp (by rw [a3]; omega)) ?_
              rw [addr_add]
              simp only [VRel]
              exact ⟨_, rfl, hid, hver, fun _ => ⟨b', hb', by rw [a2]; simp⟩⟩
          · cases he
        · cases he
      · rename_i id ver lo n
        split at he
        · rename_i S' ver' l hm
          split at he
          · rename_i hc
            obtain ⟨rfl, rfl, hlt, hlo⟩ := hc
            injection he with he
            injection he with h1 h2
            subst h1; subst h2
            simp only [VRel] at hx
            obtain ⟨p, c, hp, hnc, hid, hver, hx⟩ := hx
            obtain ⟨a1, a2, a3, a4, a5⟩ := hr.inv.ent _ _ hm
            rcases hx a1 with hx | ⟨b, hb, rfl⟩
            · exact absurd hlt (by rw [hx]; exact Nat.not_lt_zero _)
            · refine good_here hr.inv (run _ _ _ hp ((Int.toNat_lt hk).1 hlt)) ?_
              rw [addr_add]
              simp only [VRel]
              exact ⟨_, rfl, hid, hver, fun _ => ⟨b, hb, by rw [a2, Nat.add_mul]; simp⟩⟩
          · cases he
        · cases he
      · cases he
    · cases he
  · cases he

/-- A slice's length. -/
theorem lenOf_good (hi : Inv G w s.m) {x : D} {u : Value} (hx : VRel G w x u) {n : Nat} (h : lenOfD s.m x = some n) : ∃ p c, u = .slice p n c ∧ n ≤ c := by
  unfold lenOfD at h
  split at h
  · injection h with h; subst h; simp only [VRel] at hx; exact ⟨_, _, hx, Nat.le_refl _⟩
  · injection h with h; subst h
    simp only [VRel] at hx
    obtain ⟨p, n, c, hp, rfl, hc, -⟩ := hx
    exact ⟨p, c, hp, hc⟩
  · split at h
    · rename_i id ver S ver' l hm
      split at h
      · rename_i hv
        subst hv
        injection h with h; subst h
        simp only [VRel] at hx
        obtain ⟨p, n, c, hp, hid, hver, hx⟩ := hx
        obtain ⟨a1, a2, a3, a4, a5⟩ := hi.ent _ _ hm
        obtain ⟨rfl, rfl, rfl⟩ := hx a1
        rw [a3] at hp
        exact ⟨_, _, hp, a4⟩
      · cases h
    · cases h
  · split at h
    · injection h with h; subst h
      simp only [VRel] at hx
      obtain ⟨p, c, hp, hc, -⟩ := hx
      exact ⟨p, c, hp, hc⟩
    · cases h
  · cases h

theorem g_len (hr : Rel G w a s) {t e : TypeId} {x : Operand} {o : Oper} (ho : o.op = .call { callee := .builtin .len, args := #[x], argTypes := #[t] })
    (ht : P.underlying t = some (.slice e)) (he : evalI s (.len x) = some (d, m')) : Good G w s.m ((execOp a.eval o).run P w) d m' := by
  have hx := hr.ev x
  simp only [evalI, Option.map_eq_some_iff, Prod.mk.injEq] at he
  obtain ⟨n, hn, rfl, rfl⟩ := he
  refine good_here (u := .int .i64 n) hr.inv ?_ (by simp [VRel])
  unfold execOp
  simp only [ho]
  obtain ⟨p, c, hp, -⟩ := lenOf_good hr.inv hx hn
  simp [resolve, invoke, builtin, Builtin.len_, hp, run_underlying ht, goInt]

theorem g_slen (hr : Rel G w a s) {t : TypeId} {x : Operand} {o : Oper} (ho : o.op = .call { callee := .builtin .len, args := #[x], argTypes := #[t] })
    (ht : P.underlying t = some .string) (he : evalI s (.slen x) = some (d, m')) : Good G w s.m ((execOp a.eval o).run P w) d m' := by
  have hx := hr.ev x
  simp only [evalI] at he
  unfold execOp
  simp only [ho]
  generalize s.ev x = dx at *
  split at he
  · rename_i b
    injection he with he
    injection he with h1 h2
    subst h1; subst h2
    simp only [VRel] at hx
    refine good_here (u := .int .i64 b.size) hr.inv ?_ (by simp [VRel])
    simp [resolve, invoke, builtin, Builtin.len_, hx, run_underlying ht, goInt]
  · cases he

theorem run_bound (x : Value) (y : Nat) (code : BoundsCode) {j : IntKind} {n : Int} (h : x = .int j n) (h0 : 0 ≤ n) (h1 : n ≤ y) (w : World) : (Instr.sliceBound x y code).run P w = .ok n.toNat w := by
  subst h
  simp [Instr.sliceBound, asIntOf, h0, h1]

/-- The bounds of a slice expression over a slice. -/
theorem run_bounds (hr : Rel G w a s) {n cap : Nat} (hcap : n ≤ cap) {lo hi mx : Option Operand} (hmx : mx.isSome = true → hi.isSome = true) {l h k : Nat} (hl : bound s 0 lo = some l) (hh : bound s n hi = some h) (hk : bound s n mx = some k)
    (h1 : h ≤ k) (h2 : k ≤ n) (h3 : l ≤ h) : ∃ m, (Instr.sliceBounds true n cap (lo.map a.eval) (hi.map a.eval) (mx.map a.eval)).run P w = .ok (l, h, m) w ∧ h ≤ m ∧ m ≤ cap := by
  have one : ∀ {x : Option Operand} {dflt r : Nat}, bound s dflt x = some r → (x = none ∧ r = dflt) ∨ ∃ y j, x = some y ∧ a.eval y = .int j (r : Int) := by
    intro x dflt r hb
    cases x with
    | none => simp [bound] at hb; exact .inl ⟨rfl, hb.symm⟩
    | some y =>
      have hy := hr.ev y
      simp only [bound] at hb
      generalize s.ev y = dy at *
      split at hb
      · rename_i j q
        split at hb
        · rename_i hq
          injection hb with hb
          simp only [VRel] at hy
          exact .inr ⟨y, j, rfl, by rw [hy, ← hb, Int.toNat_of_nonneg hq]⟩
        · cases hb
      · cases hb
  have rb : ∀ (x : Value) (y : Nat) (code : BoundsCode) (j : IntKind) (r : Nat), x = .int j (r : Int) → r ≤ y → (Instr.sliceBound x y code).run P w = .ok r w := fun x y code j r hx hr' => by
    have := run_bound (P := P) x y code hx (Int.natCast_nonneg r) (by omega) w
    simpa using this
  unfold Instr.sliceBounds
  rcases one hk with ⟨rfl, rfl⟩ | ⟨yk, jk, rfl, ek⟩
  · refine ⟨cap, ?_, by omega, Nat.le_refl _⟩
    rcases one hl with ⟨rfl, rfl⟩ | ⟨yl, jl, rfl, el⟩ <;> rcases one hh with ⟨rfl, rfl⟩ | ⟨yh, jh, rfl, eh⟩
    · simp
    · simp [rb _ cap _ _ _ eh (by omega)]
    · simp [rb _ h _ _ _ el (by omega)]
    · simp [rb _ cap _ _ _ eh (by omega), rb _ h _ _ _ el h3]
  · refine ⟨k, ?_, h1, by omega⟩
    rcases one hl with ⟨rfl, rfl⟩ | ⟨yl, jl, rfl, el⟩ <;> rcases one hh with ⟨rfl, rfl⟩ | ⟨yh, jh, rfl, eh⟩
    · simp at hmx
    · simp [rb _ cap _ _ _ ek (by omega), rb _ k _ _ _ eh h1]
    · simp at hmx
    · simp [rb _ cap _ _ _ ek (by omega), rb _ k _ _ _ eh h1, rb _ h _ _ _ el h3]

theorem rowAt_drop {G : Gh} {w : World} {b S : Nat} {l : List D} {off : Nat} (h : RowAt G w b S l off) (lo : Nat) : RowAt G w b S (l.drop lo) (off + lo * S) :=
  rowAt_iff.2 fun i d hd => by
    have := rowAt_iff.1 h (lo + i) d (by simpa using hd)
    rwa [show off + lo * S + i * S = off + (lo + i) * S by rw [Nat.add_mul]; omega]

theorem rowAt_take {G : Gh} {w : World} {b S : Nat} {l : List D} {off : Nat} (h : RowAt G w b S l off) (n : Nat) : RowAt G w b S (l.take n) off :=
  rowAt_iff.2 fun i d hd => rowAt_iff.1 h i d (by rw [List.getElem?_take] at hd; split at hd <;> first | exact hd | cases hd)

theorem g_slice (hr : Rel G w a s) {t e : TypeId} {i : TypeInfo} {x : Operand} {lo hi mx : Option Operand} {o : Oper} (ho : o.op = .slice t x lo hi mx)
    (ht : P.underlying t = some (.slice e)) (hi' : P.info? e = some i) (hmx : mx.isSome = true → hi.isSome = true) (he : evalI s (.slice i.size x lo hi mx) = some (d, m')) :
    Good G w s.m ((execOp a.eval o).run P w) d m' := by
  have hx := hr.ev x
  simp only [evalI] at he
  generalize s.ev x = dx at *
  split at he
  · rename_i n hn
    split at he
    · rename_i l h k hl hh hk
      split at he
      · rename_i hc
        obtain ⟨h1, h2⟩ := hc
        simp only [Option.map_eq_some_iff, Prod.mk.injEq] at he
        obtain ⟨r, hs, rfl, rfl⟩ := he
        obtain ⟨p, cap, hp, hcap⟩ := lenOf_good hr.inv hx hn
        have hlh : l ≤ h := by
          unfold sliceD at hs
          repeat' split at hs
          all_goals first | (cases hs; done) | omega
        obtain ⟨m, hb, hm, hmc⟩ := run_bounds (P := P) hr hcap hmx hl hh hk h1 h2 hlh
        have run : (execOp a.eval o).run P w = .ok (.value (.slice (if m = l then p else p.map (·.add (l * i.size))) (h - l) (m - l))) w := by
          unfold execOp
          simp only [ho, hp]
          simp [Instr.sliceAt, Instr.slice, run_underlying ht, hb, run_sizeOf' hi']
        refine good_here hr.inv run ?_
        unfold sliceD at hs
        split at hs
        · split at hs
          · rename_i hc
            obtain ⟨rfl, rfl⟩ := hc
            injection hs with hs; subst hs
            simp only [VRel] at hx ⊢
            rw [hp] at hx
            injection hx with q1 q2 q3
            subst q1; subst q2; subst q3
            have : m = 0 := by omega
            subst this
            simp
          · cases hs
        · rename_i S' ll
          split at hs
          · rename_i hc
            obtain ⟨rfl, -, hle⟩ := hc
            injection hs with hs; subst hs
            simp only [VRel] at hx ⊢
            obtain ⟨p', n', c', hp', hn', hc', hx⟩ := hx
            rw [hp] at hp'
            injection hp' with q1 q2 q3
            subst q1; subst q2; subst q3
            refine ⟨_, _, _, rfl, by simp; omega, by omega, ?_⟩
            · rcases hx with rfl | ⟨b, off, rfl, hF, hrow⟩
              · exact .inl (by simp)
              · by_cases hml : m = l
                · exact .inl (by have : h = l := by omega
                                 subst this; simp)
                · refine .inr ⟨b, off + l * i.size, ?_, hF, rowAt_take (rowAt_drop hrow l) _⟩
                  simp [hml, addr_add]
          · cases hs
        · rename_i id ver
          split at hs
          · rename_i S' ver' ll hmm
            split at hs
            · rename_i hc
              obtain ⟨rfl, rfl, -, hle⟩ := hc
              injection hs with hs; subst hs
              simp only [VRel] at hx ⊢
              obtain ⟨p', n', c', hp', hid, hver, hx⟩ := hx
              rw [hp] at hp'
              injection hp' with q1 q2 q3
              subst q1; subst q2; subst q3
              refine ⟨_, _, rfl, by omega, hid, hver, fun e => ?_⟩
              obtain ⟨rfl, q2, q3⟩ := hx e
              obtain ⟨a1, a2, a3, a4, a5⟩ := hr.inv.ent _ _ hmm
              by_cases hml : m = l
              · exact .inl (by omega)
              · by_cases hz : h - l = 0
                · exact .inl hz
                · rcases a5 with a5 | ⟨b', cs, T, hb', hF, hblk, hsz, hrow⟩
                  · exfalso
                    have := a5.2
                    omega
                  · exact .inr ⟨b', hb', by simp [hml, hb', addr_add, a2]⟩
            · cases hs
          · cases hs
        · rename_i id ver l0 n0
          split at hs
          · rename_i S' ver' ll hmm
            split at hs
            · rename_i hc
              obtain ⟨rfl, rfl, -, hle, hl0⟩ := hc
              injection hs with hs; subst hs
              simp only [VRel] at hx ⊢
              obtain ⟨p', c', hp', hnc, hid, hver, hx⟩ := hx
              rw [hp] at hp'
              injection hp' with q1 q2 q3
              subst q1; subst q2; subst q3
              refine ⟨_, _, rfl, by omega, hid, hver, fun e => ?_⟩
              obtain ⟨a1, a2, a3, a4, a5⟩ := hr.inv.ent _ _ hmm
              by_cases hml : m = l
              · exact .inl (by omega)
              · by_cases hz : h - l = 0
                · exact .inl hz
                · rcases hx e with hx | ⟨b', hb', rfl⟩
                  · exfalso; omega
                  · exact .inr ⟨b', hb', by simp [hml, addr_add, a2, Nat.add_mul]⟩
            · cases hs
          · cases hs
        · cases hs
      · cases he
    · cases he
  · cases he
end
end Go.Tm
