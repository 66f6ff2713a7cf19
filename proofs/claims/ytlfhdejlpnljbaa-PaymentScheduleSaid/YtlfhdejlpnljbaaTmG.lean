/-
  Soundness of the instructions that read memory or make it.
-/
import Derived.Test.YtlfhdejlpnljbaaTmF
import Derived.Laws.MakeOwn
set_option linter.unusedSimpArgs false
set_option linter.unusedVariables false
namespace Go.Tm
open Go.RowKit (Below)
section
variable {P : Program} {G : Gh} {w : World} {a : Act} {s : St} {d : D} {m' : List Ent}

theorem part_agg {l : List D} {cs : List Value} (h : VsRel G w l cs) (h1 : ∀ c ∈ cs, one c = true) {n off : Nat} {r : D} (hp : part true n off l = some r) :
    off + n ≤ cs.length ∧ VRel G w r (.agg ((cs.drop off).take n).toArray) := by
  simp only [part] at hp
  split at hp
  · rename_i hlt
    injection hp with hp
    subst hp
    refine ⟨by rw [h.length]; exact hlt, ?_⟩
    simp only [VRel]
    exact ⟨(cs.drop off).take n, rfl, (h.drop off).take n, fun c hc => h1 c (List.mem_of_mem_drop (List.mem_of_mem_take hc))⟩
  · cases hp

theorem part_one {l : List D} {cs : List Value} (h : VsRel G w l cs) {n off : Nat} {r : D} (hp : part false n off l = some r) : ∃ u, cs[off]? = some u ∧ VRel G w r u :=
  h.getElem hp

/-- The value of a part lies where the whole lies, further on. -/
theorem part_at {l : List D} {cs : List Value} (h : VsRel G w l cs) (h1 : ∀ c ∈ cs, one c = true) {A : Bool} {n off : Nat} {r : D} (hp : part A n off l = some r) {b o : Nat} (hh : HasAt w b o (.agg cs.toArray)) :
    ∃ u, VRel G w r u ∧ HasAt w b (o + off) u := by
  have hget : ∀ (k : Nat) c, cs[k]? = some c → one c = true ∧ w.cell? ⟨b, o + k, none⟩ = some c := fun k c hc => hh k c (by simpa [Value.cells] using hc)
  cases A with
  | true =>
    obtain ⟨hlt, hv⟩ := part_agg h h1 hp
    refine ⟨_, hv, fun j c hc => ?_⟩
    simp only [Value.cells, List.getElem?_toArray, List.getElem?_take, List.getElem?_drop] at hc
    split at hc
    · have := hget (off + j) c hc
      rwa [Nat.add_assoc]
    · cases hc
  | false =>
    obtain ⟨u, hu, hv⟩ := part_one h hp
    obtain ⟨g1, g2⟩ := hget off u hu
    refine ⟨u, hv, fun j c hc => ?_⟩
    have hcells : u.cells = #[u] := by cases u <;> first | rfl | simp [one] at g1
    rw [hcells] at hc
    cases j with
    | zero => simp at hc; subst hc; exact ⟨g1, g2⟩
    | succ j => simp at hc

theorem addr_add (b o n : Nat) : (⟨b, o, none⟩ : Addr).add n = ⟨b, o + n, none⟩ := by
  unfold Addr.add; split <;> simp_all

/-- A variable's value, read where it lies. -/
theorem run_loadVar_at {t : TypeId} {ds : TypeDesc} {i : TypeInfo} (hd : P.underlying t = some ds) (hi : P.info? t = some i) {b o : Nat} {u : Value} (hh : HasAt w b o u)
    (hA : (isAggD ds = true ∧ ∃ cs, u = .agg cs ∧ cs.size = i.size) ∨ (isAggD ds = false ∧ u.cells = #[u])) :
    (Instr.loadAt t (.pointer (some ⟨b, o, none⟩))).run P w = .ok u w := by
  unfold Instr.loadAt loadVar
  rcases hA with ⟨h1, cs, rfl, h2⟩ | ⟨h1, h2⟩
  · have hl := run_loadCells_list (P := P) w ⟨b, o, none⟩ cs.toList (fun j v hv => by rw [addr_add]; exact (hh j v (by simpa [Value.cells] using hv)).2)
    simp only [Array.length_toList, h2] at hl
    simp [Instr.sureAddr, run_isAgg' hd, h1, run_sizeOf' hi, hl]
  · have hc := (hh 0 u (by rw [h2]; rfl)).2
    simp only [Nat.add_zero] at hc
    simp [Instr.sureAddr, run_isAgg' hd, h1, hc]

theorem load_run (hr : Rel G w a s) {t : TypeId} {x : Operand} {r : Bool × Nat} (hs : shapeOf P t = some r) (he : evalI s (.load r.1 r.2 x) = some (d, m')) :
    ∃ p u, a.eval x = .pointer (some p) ∧ (loadVar t p).run P w = .ok u w ∧ VRel G w d u ∧ m' = s.m := by
  obtain ⟨ds, i, hd, hi, rfl⟩ := shape_parts hs
  have hx := hr.ev x
  simp only [evalI] at he
  have fin : ∀ {b off : Nat} {u : Value}, a.eval x = .pointer (some ⟨b, off, none⟩) → HasAt w b off u → ((isAggD ds = true ∧ ∃ cs, u = .agg cs ∧ cs.size = i.size) ∨ (isAggD ds = false ∧ u.cells = #[u])) →
      VRel G w d u → m' = s.m → ∃ p u, a.eval x = .pointer (some p) ∧ (loadVar t p).run P w = .ok u w ∧ VRel G w d u ∧ m' = s.m := by
    rintro b off u hp hh hA hv rfl
    refine ⟨_, u, hp, ?_, hv, rfl⟩
    have := run_loadVar_at hd hi hh hA
    simpa [Instr.loadAt, Instr.sureAddr] using this
  generalize s.ev x = dx at *
  split at he
  · rename_i e
    simp only [VRel] at hx
    obtain ⟨b, off, u, hp, hF, hv, hh⟩ := hx
    cases hAA : isAggD ds with
    | true =>
      rw [hAA] at he
      cases e <;> simp only [reduceCtorEq] at he
      rename_i l
      split at he
      · rename_i hl
        injection he with he
        injection he with h1 h2
        subst h1
        have hv' := hv
        simp only [VRel] at hv
        obtain ⟨cs, rfl, hv, ho1⟩ := hv
        exact fin hp hh (.inl ⟨hAA, _, rfl, by simpa [hv.length] using hl⟩) hv' h2.symm
      · cases he
    | false =>
      rw [hAA] at he
      by_cases hagg : ∃ l, e = .agg l
      · obtain ⟨l, rfl⟩ := hagg
        simp at he
      · have hc1 : e.cells = [e] := by cases e <;> first | rfl | exact (hagg ⟨_, rfl⟩).elim
        have he' : e.ok = true ∧ e = d ∧ s.m = m' := by
          cases e <;> first | exact (hagg ⟨_, rfl⟩).elim | (simp at he; simpa using he)
        obtain ⟨hok, rfl, h2⟩ := he'
        obtain ⟨hvc, hones⟩ := hv.cells hok
        rw [hc1] at hvc
        simp only [VsRel] at hvc
        obtain ⟨c, rr, hcl, hvc, rfl⟩ := hvc
        have g1 : one c = true := hones c (by rw [hcl]; simp)
        refine fin hp (u := c) (fun j c' hc' => ?_) (.inr ⟨hAA, by cases c <;> first | rfl | simp [one] at g1⟩) hvc h2.symm
        have hcells : c.cells = #[c] := by cases c <;> first | rfl | simp [one] at g1
        rw [hcells] at hc'
        have hcl' : u.cells[0]? = some c := by rw [← Array.getElem?_toList, hcl]; rfl
        cases j with
        | zero => simp at hc'; subst hc'; exact hh 0 c hcl'
        | succ j => simp at hc'
  · rename_i id ver idx sub
    split at he
    · rename_i S ver' l hm
      split at he
      · rename_i hver
        subst hver
        simp only [Option.bind_eq_some_iff] at he
        obtain ⟨e, hl, he⟩ := he
        split at he
        · rename_i hok
          simp only [Option.map_eq_some_iff, Prod.mk.injEq] at he
          obtain ⟨rr, hp, rfl, rfl⟩ := he
          simp only [VRel] at hx
          obtain ⟨p, hp', hid, _, hx⟩ := hx
          obtain ⟨a1, a2, a3, a4, a5⟩ := hr.inv.ent _ _ hm
          obtain ⟨b, hb, rfl⟩ := hx a1
          rcases a5 with a5 | ⟨b', cs, T, hb', hF, hblk, hsz, hrow⟩
          · rw [a5.1] at hb; cases hb
          · rw [hb] at hb'; injection hb' with hb'; subst hb'
            obtain ⟨u, hv, husz, hh⟩ := rowAt_iff.1 hrow idx e hl
            obtain ⟨hcs, hones⟩ := hv.cells hok
            rw [Nat.zero_add] at hh
            have hh' : HasAt w b (idx * S) (.agg u.cells.toList.toArray) := by
              simpa [HasAt, Value.cells] using hh
            have hres := part_at hcs hones hp hh'
            rw [a2] at hp'
            cases hAA : isAggD ds with
            | true =>
              rw [hAA] at hp
              obtain ⟨hlt, hvv⟩ := part_agg hcs hones hp
              refine fin hp' (fun j c hc => ?_) (.inl ⟨hAA, _, rfl, ?_⟩) hvv rfl
              · simp only [Value.cells, List.getElem?_toArray, List.getElem?_take, List.getElem?_drop] at hc
                split at hc
                · have := hh (sub + j) c (by rw [← Array.getElem?_toList]; exact hc)
                  rwa [Nat.add_assoc]
                · cases hc
              · simp at hlt ⊢; omega
            | false =>
              rw [hAA] at hp
              obtain ⟨u', hu', hvv⟩ := part_one hcs hp
              have hu'' : u.cells[sub]? = some u' := by rw [← Array.getElem?_toList]; exact hu'
              have g1 := (hh sub u' hu'').1
              have hcells : u'.cells = #[u'] := by cases u' <;> first | rfl | simp [one] at g1
              refine fin hp' (fun j c hc => ?_) (.inr ⟨hAA, hcells⟩) hvv rfl
              rw [hcells] at hc
              cases j with
              | zero => simp at hc; subst hc; exact hh sub u' hu''
              | succ j => simp at hc
        · cases he
      · cases he
    · cases he
  · cases he

theorem g_load (hr : Rel G w a s) {t : TypeId} {x : Operand} {r : Bool × Nat} {o : Oper} (ho : o.op = .load t x) (hs : shapeOf P t = some r) (he : evalI s (.load r.1 r.2 x) = some (d, m')) :
    Good G w s.m ((execOp a.eval o).run P w) d m' := by
  obtain ⟨p, u, hp, hrun, hv, rfl⟩ := load_run (P := P) hr hs he
  refine good_here (u := u) hr.inv ?_ hv
  unfold execOp
  simp only [ho, hp]
  simp [Instr.loadAt, Instr.sureAddr, hrun]
end
end Go.Tm
