/-
  From a reading of an argument to a tree of a shape.
-/
import Derived.Test.YtlfhdejlpnljbaaTmW
import Derived.ProofKit
import Derived.OpenShut
import Derived.WideShapes
set_option linter.unusedSimpArgs false
set_option linter.unusedVariables false
namespace Go.Tm
open Go.RowKit (Below)
open Go.WideShapes

/-- The shape of a type: what its cells are. -/
inductive Sh where
  | bool
  | int (k : IntKind)
  | str
  | sl (S : Nat) (A : Bool) (e : Sh)
  | cat (l : List Sh)

/-- A struct or an array. -/
def aggT (P : Program) (t : TypeId) : Bool :=
  match P.underlying t with
  | some (.struct _) => true
  | some (.array _ _) => true
  | _ => false

def shFields (f : TypeId → Option Sh) (P : Program) : List Field → Nat → Option (List Sh × Nat)
  | [], off => some ([], off)
  | g :: gs, off =>
    if g.offset = off then
      match f g.type, shFields f P gs (off + P.cellsOf g.type) with
      | some s, some (l, e) => some (s :: l, e)
      | _, _ => none
    else none

def shOf (P : Program) : Nat → TypeId → Option Sh
  | 0, _ => none
  | n + 1, t =>
    match P.underlying t with
    | some .bool => some .bool
    | some (.int k) => some (.int k)
    | some .string => some .str
    | some (.slice e) => if 0 < P.cellsOf e then (shOf P n e).map fun s => .sl (P.cellsOf e) (aggT P e) s else none
    | some (.struct fs) =>
      match shFields (shOf P n) P fs.toList 0 with
      | some (l, e) => if e = P.cellsOf t then some (.cat l) else none
      | none => none
    | some (.array k e) => if P.cellsOf t = k * P.cellsOf e then (shOf P n e).map fun s => .cat (List.replicate k s) else none
    | _ => none

/-- The tree of a value, out of its cells'. -/
def wrapD (A : Bool) (cs : List D) : D := bif A then .agg cs else cs.headD .dead

mutual
/-- Cells of a shape. -/
def Look : Sh → List D → Prop
  | .bool, ds => ∃ b, ds = [.v (.bool b)]
  | .int k, ds => ∃ n, ds = [.v (.int k n)] ∧ (Lit.int k n).wf = true
  | .str, ds => ∃ s : ByteArray, ds = [.v (.string s)] ∧ s.size ≤ maxLen
  | .sl S A e, ds => ∃ l, ds = [.sl S l] ∧ l.length ≤ maxLen ∧ ∀ d ∈ l, ∃ cs, Look e cs ∧ d = wrapD A cs
  | .cat l, ds => LookL l ds
def LookL : List Sh → List D → Prop
  | [], ds => ds = []
  | s :: l, ds => ∃ a b, ds = a ++ b ∧ Look s a ∧ LookL l b
end

theorem vs_append {G : Gh} {w : World} : ∀ {a b : List D} {us vs : List Value}, VsRel G w a us → VsRel G w b vs → VsRel G w (a ++ b) (us ++ vs)
  | [], b, us, vs, h1, h2 => by simp only [VsRel] at h1; subst h1; exact h2
  | d :: a, b, us, vs, h1, h2 => by
    simp only [VsRel] at h1
    obtain ⟨u, r, rfl, k1, k2⟩ := h1
    simp only [List.cons_append, VsRel]
    exact ⟨u, _, rfl, k1, vs_append k2 h2⟩

theorem shFields_le {f : TypeId → Option Sh} {P : Program} : ∀ {fs : List Field} {off : Nat} {l : List Sh} {e : Nat}, shFields f P fs off = some (l, e) → off ≤ e
  | [], off, l, e, h => by simp [shFields] at h; omega
  | g :: gs, off, l, e, h => by
    simp only [shFields] at h
    split at h
    · split at h
      · rename_i s l' e' h1 h2
        simp at h
        have := shFields_le h2
        omega
      · cases h
    · cases h

def R0 (w : World) : Gh := Gh.bare fun b => b < w.heap.size

theorem cellT_lt {w : World} {a : Addr} {v : Value} (h : w.cell? a = some v) : a.block < w.heap.size := by
  rcases Nat.lt_or_ge a.block w.heap.size with h' | h'
  · exact h'
  · unfold World.cell? at h
    rw [Array.getElem?_eq_none h'] at h
    simp at h

section
variable {H : Type} {enc : TypeId × Value → H} {P : Program} {w : World} {base : Nat} {spare : Nat → Bool} {held : Bool}

theorem fields_tree {n fuel : Nat} {cs : List Value} (ih : ∀ t cs x s, shOf P n t = some s → DataW.trod enc P w base spare held fuel t cs = some x → ∃ ds, Look s ds ∧ VsRel (R0 w) w ds cs ∧ ∀ c ∈ cs, one c = true) :
    ∀ (fs : List Field) (off : Nat) (l : List Sh) (e : Nat), shFields (shOf P n) P fs off = some (l, e) →
      (∀ f ∈ fs, ∃ x, DataW.trod enc P w base spare held fuel f.type ((cs.drop f.offset).take (P.cellsOf f.type)) = some x) →
      ∃ ds, LookL l ds ∧ VsRel (R0 w) w ds ((cs.drop off).take (e - off)) ∧ ∀ c ∈ (cs.drop off).take (e - off), one c = true
  | [], off, l, e, h, _ => by
    simp [shFields] at h
    obtain ⟨rfl, rfl⟩ := h
    refine ⟨[], by simp [LookL], by simp [VsRel], by simp⟩
  | g :: gs, off, l, e, h, hx => by
    simp only [shFields] at h
    split at h
    · rename_i hoff
      split at h
      · rename_i s l' e' h1 h2
        simp only [Option.some.injEq, Prod.mk.injEq] at h
        obtain ⟨rfl, rfl⟩ := h
        obtain ⟨x, hx0⟩ := hx g (by simp)
        obtain ⟨a, k1, k2, k3⟩ := ih _ _ _ _ h1 hx0
        obtain ⟨b, m1, m2, m3⟩ := fields_tree ih gs _ _ _ h2 fun f hf => hx f (by simp [hf])
        have hle := shFields_le h2
        have heq : (cs.drop off).take (e' - off) = (cs.drop g.offset).take (P.cellsOf g.type) ++ (cs.drop (off + P.cellsOf g.type)).take (e' - (off + P.cellsOf g.type)) := by
          rw [show e' - off = P.cellsOf g.type + (e' - (off + P.cellsOf g.type)) by omega, List.take_add, List.drop_drop, hoff]
        rw [heq]
        refine ⟨a ++ b, by simp only [LookL]; exact ⟨a, b, rfl, k1, m1⟩, vs_append k2 m2, fun c hc => ?_⟩
        rcases List.mem_append.1 hc with hc | hc
        · exact k3 c hc
        · exact m3 c hc
      · cases h
    · cases h

theorem rep_tree {n fuel S : Nat} {cs : List Value} {e : TypeId} {s : Sh} (ih : ∀ cs x, DataW.trod enc P w base spare held fuel e cs = some x → ∃ ds, Look s ds ∧ VsRel (R0 w) w ds cs ∧ ∀ c ∈ cs, one c = true) :
    ∀ (k i : Nat), (∀ j, i ≤ j → j < i + k → ∃ x, DataW.trod enc P w base spare held fuel e ((cs.drop (j * S)).take S) = some x) →
      ∃ ds, LookL (List.replicate k s) ds ∧ VsRel (R0 w) w ds ((cs.drop (i * S)).take (k * S)) ∧ ∀ c ∈ (cs.drop (i * S)).take (k * S), one c = true
  | 0, i, _ => ⟨[], by simp [LookL], by simp [VsRel], by simp⟩
  | k + 1, i, hx => by
    obtain ⟨x, hx0⟩ := hx i (Nat.le_refl _) (by omega)
    obtain ⟨a, k1, k2, k3⟩ := ih _ _ hx0
    obtain ⟨b, m1, m2, m3⟩ := rep_tree (n := n) ih k (i + 1) fun j h1 h2 => hx j (by omega) (by omega)
    have heq : (cs.drop (i * S)).take ((k + 1) * S) = (cs.drop (i * S)).take S ++ (cs.drop ((i + 1) * S)).take (k * S) := by
      rw [show (k + 1) * S = S + k * S by rw [Nat.succ_mul]; omega, List.take_add, List.drop_drop, Nat.succ_mul]
    rw [heq]
    refine ⟨a ++ b, by simp only [List.replicate_succ, LookL]; exact ⟨a, b, rfl, k1, m1⟩, vs_append k2 m2, fun c hc => ?_⟩
    rcases List.mem_append.1 hc with hc | hc
    · exact k3 c hc
    · exact m3 c hc

/-- The value of cells that read as trees. -/
theorem wrap_rel {A : Bool} {ds : List D} {cs : List Value} (h : VsRel (R0 w) w ds cs) (h1 : ∀ c ∈ cs, one c = true) (hA : A = false → cs.length = 1) :
    ∃ u : Value, VRel (R0 w) w (wrapD A ds) u ∧ u.cells = cs.toArray ∧ (A = true → u = .agg cs.toArray) ∧ (A = false → ∃ c, cs = [c] ∧ u = c) := by
  cases A with
  | true => exact ⟨.agg cs.toArray, by simp only [wrapD, cond_true, VRel]; exact ⟨cs, rfl, h, h1⟩, rfl, fun _ => rfl, fun h => by cases h⟩
  | false =>
    match cs, hA rfl with
    | [c], _ =>
      match ds, h with
      | d :: r, h =>
        simp only [VsRel] at h
        obtain ⟨u, us, hu, hv, hr⟩ := h
        injection hu with hu1 hu2
        subst hu1
        have h1c := h1 c (by simp)
        have hcells : c.cells = [c].toArray := by cases c <;> simp [one] at h1c <;> rfl
        exact ⟨c, by simpa [wrapD] using hv, hcells, fun h => Bool.noConfusion h, fun _ => ⟨c, rfl, rfl⟩⟩

theorem sh_agg {n : Nat} {t : TypeId} {s : Sh} (h : shOf P n t = some s) {fuel : Nat} {cs : List Value} {x : DataW H × List MemPlace} (hx : DataW.trod enc P w base spare held fuel t cs = some x) : aggT P t = false → cs.length = 1 := by
  intro hA
  cases n with
  | zero => simp [shOf] at h
  | succ n =>
    simp only [shOf] at h
    simp only [aggT] at hA
    split at h
    · rename_i hu; obtain ⟨b, rfl, _⟩ := DataW.trod_bool hu hx; rfl
    · rename_i hu; obtain ⟨b, rfl, _⟩ := DataW.trod_int hu hx; rfl
    · rename_i hu; obtain ⟨b, rfl, _⟩ := DataW.trod_string hu hx; rfl
    · rename_i hu
      rcases DataW.trod_slice hu hx with ⟨rfl, _⟩ | ⟨a, len, cap, elems, rest, m, _, rfl, _⟩ <;> rfl
    · rename_i hu; rw [hu] at hA; cases hA
    · rename_i hu; rw [hu] at hA; cases hA
    · cases h

/-- **A reading gives a tree.** -/
theorem trod_tree : ∀ (n : Nat) (fuel : Nat) (t : TypeId) (cs : List Value) (x : DataW H × List MemPlace) (s : Sh), shOf P n t = some s → DataW.trod enc P w base spare held fuel t cs = some x →
    ∃ ds, Look s ds ∧ VsRel (R0 w) w ds cs ∧ ∀ c ∈ cs, one c = true
  | 0, fuel, t, cs, x, s, h, _ => by simp [shOf] at h
  | n + 1, fuel, t, cs, x, s, h, hx => by
    simp only [shOf] at h
    split at h
    · rename_i hu
      injection h with h; subst h
      obtain ⟨b, rfl, _⟩ := DataW.trod_bool hu hx
      exact ⟨[.v (.bool b)], by simp only [Look]; exact ⟨b, rfl⟩, by simp [VsRel, VRel], by simp [one]⟩
    · rename_i k hu
      injection h with h; subst h
      obtain ⟨b, rfl, _, hw⟩ := DataW.trod_int hu hx
      exact ⟨[.v (.int k b)], by simp only [Look]; exact ⟨b, rfl, hw⟩, by simp [VsRel, VRel], by simp [one]⟩
    · rename_i hu
      injection h with h; subst h
      obtain ⟨b, rfl, _, hw⟩ := DataW.trod_string hu hx
      exact ⟨[.v (.string b)], by simp only [Look]; exact ⟨b, rfl, hw⟩, by simp [VsRel, VRel], by simp [one]⟩
    · rename_i e hu
      split at h
      · rename_i hpos
        simp only [Option.map_eq_some_iff] at h
        obtain ⟨se, hse, rfl⟩ := h
        rcases DataW.trod_slice hu hx with ⟨rfl, _⟩ | ⟨a, len, cap, elems, rest, m, _, rfl, _, hb, hl, hm, hlen, hel, _, _⟩
        · refine ⟨[.sl (P.cellsOf e) []], by simp only [Look]; exact ⟨[], rfl, Nat.zero_le _, fun d hd => by simp at hd⟩, ?_, by simp [one]⟩
          simp only [VsRel, VRel]
          exact ⟨_, _, rfl, ⟨none, 0, 0, rfl, rfl, Nat.le_refl _, .inl trivial⟩, rfl⟩
        · have each : ∀ i, i < len → ∃ d u, (∃ cs, Look se cs ∧ d = wrapD (aggT P e) cs) ∧ VRel (R0 w) w d u ∧ u.cells.size = P.cellsOf e ∧ (∀ j c, u.cells[j]? = some c → one c = true ∧ w.cell? ((a.add (i * P.cellsOf e)).add j) = some c) := by
            intro i hi
            have h1 := hel i hi
            rw [List.getElem?_eq_getElem (by omega)] at h1
            obtain ⟨ecs, k1, k2⟩ := Option.bind_eq_some_iff.1 h1
            obtain ⟨ds, m1, m2, m3⟩ := trod_tree n _ _ _ _ _ hse k2
            obtain ⟨_, q1, q2⟩ := World.cells?_some k1
            obtain ⟨u, r1, r2, _, _⟩ := wrap_rel (A := aggT P e) m2 m3 (sh_agg hse k2)
            refine ⟨wrapD (aggT P e) ds, u, ⟨ds, m1, rfl⟩, r1, by rw [r2]; simpa using q1, fun j c hj => ?_⟩
            rw [r2] at hj
            have hj' : ecs[j]? = some c := by simpa using hj
            have hjl : j < P.cellsOf e := by rw [← q1]; exact (List.getElem?_eq_some_iff.1 hj').1
            exact ⟨m3 c (List.mem_of_getElem? hj'), by rw [q2 j hjl, hj']⟩
          have hrow : ∀ k, k ≤ len → ∃ l : List D, l.length = k ∧ (∀ d ∈ l, ∃ cs, Look se cs ∧ d = wrapD (aggT P e) cs) ∧ ∀ (i : Nat) d, l[i]? = some d → ∃ u, VRel (R0 w) w d u ∧ u.cells.size = P.cellsOf e ∧ (∀ j c, u.cells[j]? = some c → one c = true ∧ w.cell? ((a.add (i * P.cellsOf e)).add j) = some c) := by
            intro k
            induction k with
            | zero => exact fun _ => ⟨[], rfl, fun d hd => by simp at hd, fun i d hd => by simp at hd⟩
            | succ k ih =>
              intro hk
              obtain ⟨l, l1, l2, l3⟩ := ih (by omega)
              obtain ⟨d, u, d1, d2, d3, d4⟩ := each k (by omega)
              refine ⟨l ++ [d], by simp [l1], fun d' hd' => ?_, fun i d' hd' => ?_⟩
              · rcases List.mem_append.1 hd' with hd' | hd'
                · exact l2 d' hd'
                · simp at hd'; rw [hd']; exact d1
              · rcases Nat.lt_or_ge i l.length with hi | hi
                · rw [List.getElem?_append_left hi] at hd'
                  exact l3 i d' hd'
                · rw [List.getElem?_append_right hi] at hd'
                  have : i - l.length = 0 := by
                    have := (List.getElem?_eq_some_iff.1 hd').1
                    simp at this; omega
                  rw [this] at hd'
                  simp at hd'
                  subst hd'
                  have hik : i = k := by omega
                  subst hik
                  exact ⟨u, d2, d3, d4⟩
          obtain ⟨l, l1, l2, l3⟩ := hrow len (Nat.le_refl _)
          refine ⟨[.sl (P.cellsOf e) l], by simp only [Look]; exact ⟨l, rfl, by omega, l2⟩, ?_, by simp [one]⟩
          simp only [VsRel, VRel]
          refine ⟨_, _, rfl, ⟨some a, len, cap, rfl, l1.symm, hl, ?_⟩, rfl⟩
          cases l with
          | nil => exact .inl rfl
          | cons d0 l' =>
            obtain ⟨u0, _, us, uc⟩ := l3 0 d0 rfl
            have h0 : ∃ c, u0.cells[0]? = some c := ⟨u0.cells[0]'(by omega), Array.getElem?_eq_getElem (by omega)⟩
            obtain ⟨c, hc⟩ := h0
            have hc2 := (uc 0 c hc).2
            have hadd : (a.add (0 * P.cellsOf e)).add 0 = a := by simp [Addr.add]
            rw [hadd] at hc2
            obtain ⟨b, off, spot⟩ := a
            have hspot : spot = none := by simpa using World.cell?_spot hc2
            subst hspot
            refine .inr ⟨b, off, rfl, cellT_lt hc2, ?_⟩
            rw [rowAt_iff]
            intro i d hd
            obtain ⟨u, u1, u2, u3⟩ := l3 i d hd
            refine ⟨u, u1, u2, fun j c hj => ?_⟩
            obtain ⟨c1, c2⟩ := u3 j c hj
            refine ⟨c1, ?_⟩
            have haddr : (Addr.add (Addr.add ⟨b, off, none⟩ (i * P.cellsOf e)) j) = ⟨b, off + i * P.cellsOf e + j, none⟩ := by
              unfold Addr.add
              split <;> split <;> simp_all
            rw [haddr] at c2
            exact c2
      · cases h
    · rename_i fs hu
      split at h
      · rename_i l e hsf
        split at h
        · rename_i he
          injection h with h; subst h
          obtain ⟨xs, m, rfl, _, hlen, hxl, hget⟩ := DataW.trod_struct hu hx
          obtain ⟨ds, k1, k2, k3⟩ := fields_tree (n := n) (fuel := m) (cs := cs) (fun t cs x s h1 h2 => trod_tree n _ _ _ _ _ h1 h2) fs.toList 0 l e hsf (fun f hf => by
            obtain ⟨i, hi, hfi⟩ := List.mem_iff_getElem.1 hf
            have hi' : i < fs.size := by simpa using hi
            have := hget i f (by rw [Array.getElem?_eq_getElem hi']; simpa using hfi)
            rw [List.getElem?_eq_getElem (by omega)] at this
            exact ⟨_, this⟩)
          rw [List.drop_zero, Nat.sub_zero, he, ← hlen, List.take_length] at k2 k3
          exact ⟨ds, by simp only [Look]; exact k1, k2, k3⟩
        · cases h
      · cases h
    · rename_i k e hu
      split at h
      · rename_i he
        simp only [Option.map_eq_some_iff] at h
        obtain ⟨se, hse, rfl⟩ := h
        obtain ⟨xs, m, rfl, _, hlen, hxl, hget⟩ := DataW.trod_array hu hx
        obtain ⟨ds, k1, k2, k3⟩ := rep_tree (n := n) (fuel := m) (S := P.cellsOf e) (cs := cs) (e := e) (s := se) (fun cs x h2 => trod_tree n _ _ _ _ _ hse h2) k 0 (fun j _ hj => by
          have := hget j (by omega)
          rw [List.getElem?_eq_getElem (by omega)] at this
          exact ⟨_, this⟩)
        rw [Nat.zero_mul, List.drop_zero, ← he, ← hlen, List.take_length] at k2 k3
        exact ⟨ds, by simp only [Look]; exact k1, k2, k3⟩
      · cases h
    · cases h

/-- The tree of an argument. -/
def LookV (A : Bool) (s : Sh) (d : D) : Prop := ∃ ds, Look s ds ∧ d = wrapD A ds

theorem arg_tree {n : Nat} {t : TypeId} {s : Sh} {v : Value} {d : DataW H} {p : List MemPlace} {r : Reach} {b0 : Nat} (h : shOf P n t = some s) (hx : DataW.Trod enc P w base spare held t v d p) (hv : Value.okWide P w r b0 t v) :
    ∃ d', LookV (aggT P t) s d' ∧ VRel (R0 w) w d' v := by
  obtain ⟨fuel, hx⟩ := hx
  obtain ⟨ds, k1, k2, k3⟩ := trod_tree n _ _ _ _ _ h hx
  obtain ⟨u, u1, u2, u3, u4⟩ := wrap_rel (A := aggT P t) k2 k3 (sh_agg h hx)
  refine ⟨wrapD (aggT P t) ds, ⟨ds, k1, rfl⟩, ?_⟩
  have : u = v := by
    cases hA : aggT P t with
    | true =>
      rw [u3 hA]
      unfold aggT at hA
      split at hA
      · rename_i hu
        simp only [Value.okWide, hu] at hv
        obtain ⟨cs, rfl, _⟩ := hv
        simp [Value.cells]
      · rename_i hu
        simp only [Value.okWide, hu] at hv
        obtain ⟨cs, rfl, _⟩ := hv
        simp [Value.cells]
      · cases hA
    | false =>
      obtain ⟨c, hc, rfl⟩ := u4 hA
      cases n with
      | zero => simp [shOf] at h
      | succ n =>
        simp only [shOf] at h
        unfold aggT at hA
        split at h
        · rename_i hu; obtain ⟨b, rfl⟩ := okWide_bool hu hv; simpa [Value.cells] using hc.symm
        · rename_i hu; obtain ⟨b, rfl⟩ := okWide_int hu hv; simpa [Value.cells] using hc.symm
        · rename_i hu; obtain ⟨b, rfl⟩ := okWide_string hu hv; simpa [Value.cells] using hc.symm
        · rename_i hu; obtain ⟨a, l, c', rfl⟩ := okWide_slice hu hv; simpa [Value.cells] using hc.symm
        · rename_i hu; rw [hu] at hA; cases hA
        · rename_i hu; rw [hu] at hA; cases hA
        · cases h
  rw [← this]
  exact u1
end

theorem list_of {α β : Type} {f : α → β} {Q : α → Prop} : ∀ {l : List β}, (∀ d ∈ l, ∃ a, Q a ∧ d = f a) → ∃ as : List α, l = as.map f ∧ ∀ a ∈ as, Q a
  | [], _ => ⟨[], rfl, fun a ha => by simp at ha⟩
  | d :: l, h => by
    obtain ⟨a, ha, hd⟩ := h d (by simp)
    obtain ⟨as, h1, h2⟩ := list_of (l := l) fun x hx => h x (by simp [hx])
    exact ⟨a :: as, by rw [hd, h1]; rfl, fun x hx => by
      rcases List.mem_cons.1 hx with rfl | hx
      · exact ha
      · exact h2 x hx⟩

theorem wf_i64 {n : Int} (h : (Lit.int .i64 n).wf = true) : -9223372036854775808 ≤ n ∧ n ≤ 9223372036854775807 := by
  simp [Lit.wf, IntKind.min, IntKind.max, IntKind.bits, IntKind.signed] at h; omega
theorem wf_u8 {n : Int} (h : (Lit.int .u8 n).wf = true) : 0 ≤ n ∧ n < 256 := by
  simp [Lit.wf, IntKind.min, IntKind.max, IntKind.bits, IntKind.signed] at h; omega
theorem wf_u16 {n : Int} (h : (Lit.int .u16 n).wf = true) : 0 ≤ n ∧ n < 65536 := by
  simp [Lit.wf, IntKind.min, IntKind.max, IntKind.bits, IntKind.signed] at h; omega
theorem wf_u32 {n : Int} (h : (Lit.int .u32 n).wf = true) : 0 ≤ n ∧ n < 4294967296 := by
  simp [Lit.wf, IntKind.min, IntKind.max, IntKind.bits, IntKind.signed] at h; omega

theorem stepT_below {G G' : Gh} {w w' : World} {m' : List Ent} (h : Step G w [] G' w' m') : Below w.heap.size w w' :=
  ⟨h.os, h.tape, h.output, h.size, fun k hk => h.keep k hk fun ⟨i, e, he, _⟩ => by simp at he⟩

/-- A law's walk, out of its contract. -/
theorem law_walk {P : Program} {f : FuncId} {ds : List D} {vs : List Value} {w : World} (h : CallT P f ds [] fun d _ => d = .v (.bool true)) (hv : VsRel (R0 w) w ds vs) :
    Calls P f vs.toArray w fun e w' => e = .returned (.bool true) ∧ Below w.heap.size w w' := by
  refine (h.2 (R0 w) w vs hv (inv_bare fun _ h => h)).mono ?_
  rintro e w' ⟨v, d, m', G', rfl, rfl, hvd, -, hs⟩
  simp only [VRel] at hvd
  subst hvd
  exact ⟨rfl, stepT_below hs⟩
end Go.Tm
