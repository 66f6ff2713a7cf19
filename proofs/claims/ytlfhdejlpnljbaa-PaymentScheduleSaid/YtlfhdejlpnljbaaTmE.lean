/-
  What each instruction does to trees, the operation of the model does to values: the instructions that change no memory.
-/
import Derived.Test.YtlfhdejlpnljbaaTmC
import Derived.Test.YtlfhdejlpnljbaaTmD
import Derived.Laws.Sem
import Derived.Laws.Entries
import Derived.Laws.Cells
import Derived.Laws.CopyRow
import Derived.Laws.AppendOwn
set_option linter.unusedSimpArgs false
set_option linter.unusedVariables false
namespace Go.Tm
open Go.RowKit (Below)

/-- The operation's run ends well: its value reads as d, and memory as m'. -/
def Good (G : Gh) (w : World) (m : List Ent) (r : Result Next) (d : D) (m' : List Ent) : Prop :=
  ∃ nx w' G', r = .ok nx w' ∧ ((∃ u, nx = .value u ∧ VRel G' w' d u) ∨ (nx = .skip ∧ d = .dead)) ∧ Inv G' w' m' ∧ Step G w m G' w' m'

theorem good_here {G : Gh} {w : World} {m : List Ent} {d : D} {u : Value} {r : Result Next} (hi : Inv G w m) (hr : r = .ok (.value u) w) (hd : VRel G w d u) : Good G w m r d m :=
  ⟨_, w, G, hr, .inl ⟨u, rfl, hd⟩, hi, Step.refl _ _ _⟩

theorem pureRun_run {α : Type} {P : Program} {s : Sem α} {a : α} (h : pureRun s = some a) (w : World) : s.run P w = .ok a w := by
  cases s <;> simp [pureRun] at h
  subst h
  rfl

theorem run_sizeOf' {P : Program} {t : TypeId} {i : TypeInfo} (h : P.info? t = some i) (w : World) : (sizeOf t).run P w = .ok i.size w := by
  simp [sizeOf, typeInfo, h]

theorem run_zero {P : Program} {t : TypeId} {z : Value} (h : zeroOf P t = some z) (w : World) : (zeroValue t).run P w = .ok z w ∧ z.cells.all one = true ∧ 0 < z.cells.size ∧ ∃ i, P.info? t = some i ∧ i.size = z.cells.size ∧ i.zero = some z := by
  unfold zeroOf at h
  split at h
  · rename_i i hi
    split at h
    · rename_i z' hz
      split at h
      · rename_i hc
        injection h with h
        subst h
        refine ⟨by simp [zeroValue, typeInfo, hi, hz], hc.1, by omega, i, hi, hc.2.1.symm, hz⟩
      · cases h
    · cases h
  · cases h

/-- Is it an aggregate. -/
def isAggD : TypeDesc → Bool
  | .struct _ | .array _ _ => true
  | _ => false

theorem shape_parts {P : Program} {t : TypeId} {r : Bool × Nat} (h : shapeOf P t = some r) : ∃ d i, P.underlying t = some d ∧ P.info? t = some i ∧ r = (isAggD d, i.size) := by
  unfold shapeOf at h
  split at h <;> first | (cases h; done) | skip
  · rename_i hd hi; injection h with h; subst h; exact ⟨_, _, hd, hi, rfl⟩
  · rename_i hd hi; injection h with h; subst h; exact ⟨_, _, hd, hi, rfl⟩
  · rename_i d i h1 h2 hd hi
    injection h with h; subst h
    refine ⟨_, _, hd, hi, ?_⟩
    cases d <;> first | rfl | exact (h1 _ rfl).elim | exact (h2 _ _ rfl).elim

theorem run_isAgg' {P : Program} {t : TypeId} {d : TypeDesc} (h : P.underlying t = some d) (w : World) : (isAgg t).run P w = .ok (isAggD d) w := by
  unfold isAgg
  simp only [Sem.run_bind, run_underlying h, Result.andThen_ok]
  cases d <;> rfl

/-- Cells of an aggregate that reads as a list: each reads as its part. -/
theorem VsRel.getElem {G : Gh} {w : World} : ∀ {l : List D} {us : List Value} {i : Nat} {d : D}, VsRel G w l us → l[i]? = some d → ∃ u, us[i]? = some u ∧ VRel G w d u
  | [], us, i, d, h, hd => by simp at hd
  | e :: l, us, i, d, h, hd => by
    simp only [VsRel] at h
    obtain ⟨u, r, rfl, h1, h2⟩ := h
    cases i with
    | zero => simp at hd; subst hd; exact ⟨u, by simp, h1⟩
    | succ i => simpa using VsRel.getElem (i := i) h2 (by simpa using hd)

theorem VsRel.drop {G : Gh} {w : World} : ∀ {l : List D} {us : List Value} (k : Nat), VsRel G w l us → VsRel G w (l.drop k) (us.drop k)
  | [], us, k, h => by simp [VsRel] at h; simp [h, VsRel]
  | e :: l, us, k, h => by
    cases k with
    | zero => simpa using h
    | succ k =>
      simp only [VsRel] at h
      obtain ⟨u, r, rfl, h1, h2⟩ := h
      simpa using VsRel.drop k h2

theorem VsRel.take {G : Gh} {w : World} : ∀ {l : List D} {us : List Value} (k : Nat), VsRel G w l us → VsRel G w (l.take k) (us.take k)
  | [], us, k, h => by simp [VsRel] at h; simp [h, VsRel]
  | e :: l, us, k, h => by
    cases k with
    | zero => simp [VsRel]
    | succ k =>
      simp only [VsRel] at h
      obtain ⟨u, r, rfl, h1, h2⟩ := h
      simp only [List.take_succ_cons, VsRel]
      exact ⟨u, _, rfl, h1, VsRel.take k h2⟩

theorem VsRel.append {G : Gh} {w : World} : ∀ {l l' : List D} {us us' : List Value}, VsRel G w l us → VsRel G w l' us' → VsRel G w (l ++ l') (us ++ us')
  | [], l', us, us', h, h' => by simp [VsRel] at h; simpa [h] using h'
  | e :: l, l', us, us', h, h' => by
    simp only [VsRel] at h
    obtain ⟨u, r, rfl, h1, h2⟩ := h
    simp only [List.cons_append, VsRel]
    exact ⟨u, _, rfl, h1, VsRel.append h2 h'⟩

/-- A value that reads as a tree that is ok: its cells read as the tree's cells, and each is one cell. -/
theorem VRel.cells {G : Gh} {w : World} {d : D} {u : Value} (h : VRel G w d u) (hok : d.ok = true) : VsRel G w d.cells u.cells.toList ∧ ∀ c ∈ u.cells.toList, one c = true := by
  have single : u.cells = #[u] → one u = true → d.cells = [d] → VsRel G w d.cells u.cells.toList ∧ ∀ c ∈ u.cells.toList, one c = true := by
    intro h1 h2 h3
    rw [h1, h3]
    refine ⟨?_, by simpa using h2⟩
    simp only [VsRel]
    exact ⟨u, [], rfl, h, rfl⟩
  cases d with
  | v x =>
    simp only [VRel] at h
    subst h
    simp only [D.ok] at hok
    cases u <;> first | exact single rfl rfl rfl | simp [one] at hok
  | agg l =>
    simp only [VRel] at h
    obtain ⟨cs, rfl, h, h1⟩ := h
    exact ⟨by simpa [Value.cells, D.cells] using h, by simpa [Value.cells] using h1⟩
  | tup l => simp [D.ok] at hok
  | sl S l => obtain ⟨a, n, cap, rfl, -⟩ := (by simpa only [VRel] using h : ∃ a n cap, u = .slice a n cap ∧ _); exact single rfl rfl rfl
  | pt d => obtain ⟨b, off, x, rfl, -⟩ := (by simpa only [VRel] using h : ∃ b off x, u = .pointer (some ⟨b, off, none⟩) ∧ _); exact single rfl rfl rfl
  | ref id ver idx sub => obtain ⟨a, rfl, -⟩ := (by simpa only [VRel] using h : ∃ a, u = .pointer (some a) ∧ _); exact single rfl rfl rfl
  | own id ver => obtain ⟨a, n, c, rfl, -⟩ := (by simpa only [VRel] using h : ∃ a n c, u = .slice a n c ∧ _); exact single rfl rfl rfl
  | view id ver lo n => obtain ⟨a, c, rfl, -⟩ := (by simpa only [VRel] using h : ∃ a c, u = .slice a n c ∧ _); exact single rfl rfl rfl
  | fn f a b => obtain ⟨fs, cs, rfl, -⟩ := (by simpa only [VRel] using h : ∃ fs cs : List Value, u = .func (.func f) fs.toArray cs.toArray ∧ _); exact single rfl rfl rfl
  | mp id => obtain ⟨b, rfl, -⟩ := (by simpa only [VRel] using h : ∃ b, u = .map (some b) ∧ _); exact single rfl rfl rfl
  | dead => simp [D.ok] at hok
end Go.Tm
