/-
  The trees of the engine: Go values as trees, and when a value in a world reads as a tree.
-/
import Derived.Calls
import Derived.Below
set_option linter.unusedSimpArgs false
set_option linter.unusedVariables false
namespace Go.Tm
open Go.RowKit (Below)

/-- A Go value as a tree. -/
inductive D where
  | v (x : Value)
  | agg (l : List D)
  | tup (l : List D)
  | sl (S : Nat) (l : List D)
  | pt (d : D)
  | ref (id ver idx sub : Nat)
  | own (id ver : Nat)
  | view (id ver lo n : Nat)
  | fn (f : FuncId) (first caps : List D)
  | mp (id : Nat)
  | dead

instance : Inhabited D := ⟨.dead⟩

/-- What is known of memory: the blocks that never change again, and for each resource its block, version, element size, length and capacity. -/
structure Gh where
  F : Nat → Prop
  n : Nat
  B : Nat → Option Nat
  V : Nat → Nat
  S : Nat → Nat
  N : Nat → Nat
  C : Nat → Nat

/-- The value of one cell. -/
def one : Value → Bool
  | .agg _ | .tuple _ => false
  | _ => true

/-- The cells of the value u lie at block b from off on. -/
def HasAt (w : World) (b off : Nat) (u : Value) : Prop := ∀ (j : Nat) c, u.cells[j]? = some c → one c = true ∧ w.cell? ⟨b, off + j, none⟩ = some c

mutual
/-- The value u reads as the tree d. -/
def VRel (G : Gh) (w : World) : D → Value → Prop
  | .v x, u => u = x
  | .agg l, u => ∃ cs : List Value, u = .agg cs.toArray ∧ VsRel G w l cs ∧ ∀ c ∈ cs, one c = true
  | .tup l, u => ∃ cs : List Value, u = .tuple cs.toArray ∧ VsRel G w l cs
  | .sl S l, u => ∃ a n cap, u = .slice a n cap ∧ n = l.length ∧ n ≤ cap ∧
      (l = [] ∨ ∃ b off, a = some ⟨b, off, none⟩ ∧ G.F b ∧ RowAt G w b S l off)
  | .pt d, u => ∃ b off x, u = .pointer (some ⟨b, off, none⟩) ∧ G.F b ∧ VRel G w d x ∧ HasAt w b off x
  | .ref id ver idx sub, u => ∃ a, u = .pointer (some a) ∧ id < G.n ∧ ver ≤ G.V id ∧ (G.V id = ver → ∃ b, G.B id = some b ∧ a = ⟨b, idx * G.S id + sub, none⟩)
  | .own id ver, u => ∃ a n c, u = .slice a n c ∧ id < G.n ∧ ver ≤ G.V id ∧ (G.V id = ver → a = (G.B id).map (fun b => ⟨b, 0, none⟩) ∧ n = G.N id ∧ c = G.C id)
  | .view id ver lo n, u => ∃ a c, u = .slice a n c ∧ n ≤ c ∧ id < G.n ∧ ver ≤ G.V id ∧ (G.V id = ver → n = 0 ∨ ∃ b, G.B id = some b ∧ a = some ⟨b, lo * G.S id, none⟩)
  | .fn f first caps, u => ∃ fs cs : List Value, u = .func (.func f) fs.toArray cs.toArray ∧ VsRel G w first fs ∧ VsRel G w caps cs
  | .mp id, u => ∃ b, u = .map (some b) ∧ id < G.n ∧ (G.V id = 0 → G.B id = some b)
  | .dead, _ => True
/-- Values that read as trees, one by one. -/
def VsRel (G : Gh) (w : World) : List D → List Value → Prop
  | [], us => us = []
  | d :: l, us => ∃ u r, us = u :: r ∧ VRel G w d u ∧ VsRel G w l r
/-- Block b holds from off on the elements of a list, S cells each. -/
def RowAt (G : Gh) (w : World) (b S : Nat) : List D → Nat → Prop
  | [], _ => True
  | d :: l, off => (∃ u, VRel G w d u ∧ u.cells.size = S ∧ HasAt w b off u) ∧ RowAt G w b S l (off + S)
end

/-- The world has gone on: what never changes has not changed; a resource is as it was, or its version has risen. -/
structure Le (G : Gh) (w : World) (G' : Gh) (w' : World) : Prop where
  F : ∀ b, G.F b → G'.F b
  heap : ∀ b, G.F b → w'.heap[b]? = w.heap[b]?
  n : G.n ≤ G'.n
  id : ∀ i, i < G.n → (G'.V i = G.V i ∧ G'.B i = G.B i ∧ G'.S i = G.S i ∧ G'.N i = G.N i ∧ G'.C i = G.C i) ∨ G.V i < G'.V i

theorem Le.refl (G : Gh) (w : World) : Le G w G w := ⟨fun _ h => h, fun _ _ => rfl, Nat.le_refl _, fun _ _ => .inl ⟨rfl, rfl, rfl, rfl, rfl⟩⟩

theorem Le.ver {G G' : Gh} {w w' : World} (h : Le G w G' w') {i : Nat} (hi : i < G.n) : G.V i ≤ G'.V i := by
  rcases h.id i hi with h | h <;> omega

theorem Le.trans {G G' G'' : Gh} {w w' w'' : World} (h : Le G w G' w') (k : Le G' w' G'' w'') : Le G w G'' w'' where
  F b hb := k.F b (h.F b hb)
  heap b hb := (k.heap b (h.F b hb)).trans (h.heap b hb)
  n := Nat.le_trans h.n k.n
  id i hi := by
    have h1 := h.id i hi
    have h2 := k.id i (Nat.lt_of_lt_of_le hi h.n)
    rcases h1 with ⟨a1, a2, a3, a4, a5⟩ | h1 <;> rcases h2 with ⟨b1, b2, b3, b4, b5⟩ | h2
    · exact .inl ⟨b1.trans a1, b2.trans a2, b3.trans a3, b4.trans a4, b5.trans a5⟩
    · exact .inr (by omega)
    · exact .inr (by omega)
    · exact .inr (by omega)

theorem cell_of_heap {w w' : World} {b off : Nat} (h : w'.heap[b]? = w.heap[b]?) : w'.cell? ⟨b, off, none⟩ = w.cell? ⟨b, off, none⟩ := by
  simp [World.cell?, h]

theorem HasAt.mono {w w' : World} {b off : Nat} {u : Value} (h : HasAt w b off u) (hb : w'.heap[b]? = w.heap[b]?) : HasAt w' b off u :=
  fun j c hc => by rw [cell_of_heap hb]; exact h j c hc

mutual
theorem VRel.mono {G G' : Gh} {w w' : World} (hle : Le G w G' w') : ∀ {d : D} {u : Value}, VRel G w d u → VRel G' w' d u
  | .v x, u, h => by simpa [VRel] using h
  | .agg l, u, h => by
    simp only [VRel] at h ⊢
    obtain ⟨cs, rfl, h, h1⟩ := h
    exact ⟨cs, rfl, VsRel.mono hle h, h1⟩
  | .tup l, u, h => by
    simp only [VRel] at h ⊢
    obtain ⟨cs, rfl, h⟩ := h
    exact ⟨cs, rfl, VsRel.mono hle h⟩
  | .sl S l, u, h => by
    simp only [VRel] at h ⊢
    obtain ⟨a, n, cap, rfl, hn, hc, h⟩ := h
    refine ⟨a, n, cap, rfl, hn, hc, ?_⟩
    rcases h with h | ⟨b, off, rfl, hF, hr⟩
    · exact .inl h
    · exact .inr ⟨b, off, rfl, hle.F b hF, RowAt.mono hle (hle.heap b hF) hr⟩
  | .pt d, u, h => by
    simp only [VRel] at h ⊢
    obtain ⟨b, off, x, rfl, hF, hd, hh⟩ := h
    exact ⟨b, off, x, rfl, hle.F b hF, VRel.mono hle hd, hh.mono (hle.heap b hF)⟩
  | .ref id ver idx sub, u, h => by
    simp only [VRel] at h ⊢
    obtain ⟨a, hu, hi, hv, h⟩ := h
    refine ⟨a, hu, Nat.lt_of_lt_of_le hi hle.n, Nat.le_trans hv (hle.ver hi), fun e => ?_⟩
    rcases hle.id id hi with ⟨h1, h2, h3, h4, h5⟩ | hlt
    · rw [h2, h3]; exact h (by omega)
    · omega
  | .own id ver, u, h => by
    simp only [VRel] at h ⊢
    obtain ⟨a, n, c, hu, hi, hv, h⟩ := h
    refine ⟨a, n, c, hu, Nat.lt_of_lt_of_le hi hle.n, Nat.le_trans hv (hle.ver hi), fun e => ?_⟩
    rcases hle.id id hi with ⟨h1, h2, h3, h4, h5⟩ | hlt
    · rw [h2, h4, h5]; exact h (by omega)
    · omega
  | .view id ver lo n, u, h => by
    simp only [VRel] at h ⊢
    obtain ⟨a, c, hu, hc, hi, hv, h⟩ := h
    refine ⟨a, c, hu, hc, Nat.lt_of_lt_of_le hi hle.n, Nat.le_trans hv (hle.ver hi), fun e => ?_⟩
    rcases hle.id id hi with ⟨h1, h2, h3, h4, h5⟩ | hlt
    · rw [h2, h3]; exact h (by omega)
    · omega
  | .fn f first caps, u, h => by
    simp only [VRel] at h ⊢
    obtain ⟨fs, cs, rfl, h1, h2⟩ := h
    exact ⟨fs, cs, rfl, VsRel.mono hle h1, VsRel.mono hle h2⟩
  | .mp id, u, h => by
    simp only [VRel] at h ⊢
    obtain ⟨b, hu, hi, h⟩ := h
    refine ⟨b, hu, Nat.lt_of_lt_of_le hi hle.n, fun e => ?_⟩
    rcases hle.id id hi with ⟨h1, h2, h3, h4, h5⟩ | hlt
    · rw [h2]; exact h (by omega)
    · omega
  | .dead, u, h => by simp [VRel]
theorem VsRel.mono {G G' : Gh} {w w' : World} (hle : Le G w G' w') : ∀ {l : List D} {us : List Value}, VsRel G w l us → VsRel G' w' l us
  | [], us, h => by simpa [VsRel] using h
  | d :: l, us, h => by
    simp only [VsRel] at h ⊢
    obtain ⟨u, r, rfl, h1, h2⟩ := h
    exact ⟨u, r, rfl, VRel.mono hle h1, VsRel.mono hle h2⟩
theorem RowAt.mono {G G' : Gh} {w w' : World} (hle : Le G w G' w') {b S : Nat} (hb : w'.heap[b]? = w.heap[b]?) :
    ∀ {l : List D} {off : Nat}, RowAt G w b S l off → RowAt G' w' b S l off
  | [], off, h => by simp [RowAt]
  | d :: l, off, h => by
    simp only [RowAt] at h ⊢
    obtain ⟨⟨u, h1, h2, h3⟩, h4⟩ := h
    exact ⟨⟨u, VRel.mono hle h1, h2, h3.mono hb⟩, RowAt.mono hle hb h4⟩
end

/-- A resource that this call may still change. -/
inductive Ent where
  | live (S ver : Nat) (l : List D)
  | mp (es : List (Value × D))
  | gone

/-- The entries of a map read as a list. -/
def MapRel (G : Gh) (w : World) : List (Value × D) → List MapEntry → Prop
  | [], es => es = []
  | (k, d) :: l, es => ∃ e r, es = e :: r ∧ e.key = k ∧ VRel G w d e.val ∧ MapRel G w l r

theorem MapRel.mono {G G' : Gh} {w w' : World} (hle : Le G w G' w') : ∀ {l : List (Value × D)} {es : List MapEntry}, MapRel G w l es → MapRel G' w' l es
  | [], es, h => h
  | (k, d) :: l, es, h => by
    obtain ⟨e, r, h0, h1, h2, h3⟩ := h
    exact ⟨e, r, h0, h1, h2.mono hle, h3.mono hle⟩

/-- Resource number i is as its entry says. -/
def EntRel (G : Gh) (w : World) (i : Nat) : Ent → Prop
  | .live S ver l => G.V i = ver ∧ G.S i = S ∧ G.N i = l.length ∧ l.length ≤ G.C i ∧
      ((G.B i = none ∧ G.C i = 0) ∨ ∃ b cs T, G.B i = some b ∧ ¬ G.F b ∧ w.heap[b]? = some (.cells cs T (0, 0)) ∧ G.C i * S ≤ cs.size ∧ RowAt G w b S l 0)
  | .mp es => G.V i = 0 ∧ ∃ b entries clock, G.B i = some b ∧ ¬ G.F b ∧ w.heap[b]? = some (.map entries clock) ∧ MapRel G w es entries.toList
  | .gone => True

def Ent.isLive : Ent → Bool
  | .gone => false
  | _ => true

structure Inv (G : Gh) (w : World) (m : List Ent) : Prop where
  n : G.n = m.length
  F : ∀ b, G.F b → b < w.heap.size
  ent : ∀ i e, m[i]? = some e → EntRel G w i e
  apart : ∀ i j e e', m[i]? = some e → m[j]? = some e' → e.isLive = true → e'.isLive = true → ∀ b, G.B i = some b → G.B j = some b → i = j

/-- Block b belongs to a resource. -/
def Owned (G : Gh) (m : List Ent) (b : Nat) : Prop := ∃ i e, m[i]? = some e ∧ e.isLive = true ∧ G.B i = some b

/-- From one state of memory to a later one. -/
structure Step (G : Gh) (w : World) (m : List Ent) (G' : Gh) (w' : World) (m' : List Ent) : Prop where
  le : Le G w G' w'
  os : w'.os = w.os
  tape : w'.tape = w.tape
  output : w'.output = w.output
  size : w.heap.size ≤ w'.heap.size
  keep : ∀ b, b < w.heap.size → ¬ Owned G m b → w'.heap[b]? = w.heap[b]?
  newF : ∀ b, b < w.heap.size → G'.F b → G.F b ∨ Owned G m b
  newB : ∀ b, b < w.heap.size → Owned G' m' b → Owned G m b

theorem Step.refl (G : Gh) (w : World) (m : List Ent) : Step G w m G w m :=
  ⟨Le.refl _ _, rfl, rfl, rfl, Nat.le_refl _, fun _ _ _ => rfl, fun _ _ h => .inl h, fun _ _ h => h⟩

theorem Step.trans {G G' G'' : Gh} {w w' w'' : World} {m m' m'' : List Ent} (h : Step G w m G' w' m') (k : Step G' w' m' G'' w'' m'') : Step G w m G'' w'' m'' where
  le := h.le.trans k.le
  os := k.os.trans h.os
  tape := k.tape.trans h.tape
  output := k.output.trans h.output
  size := Nat.le_trans h.size k.size
  keep b hb ho := (k.keep b (Nat.lt_of_lt_of_le hb h.size) fun h' => ho (h.newB b hb h')).trans (h.keep b hb ho)
  newF b hb hF := by
    rcases k.newF b (Nat.lt_of_lt_of_le hb h.size) hF with h' | h'
    · exact h.newF b hb h'
    · exact .inr (h.newB b hb h')
  newB b hb h' := h.newB b hb (k.newB b (Nat.lt_of_lt_of_le hb h.size) h')

/-- The state of a function at work. -/
structure St where
  t : List D
  m : List Ent

structure Rel (G : Gh) (w : World) (a : Act) (s : St) : Prop where
  t : VsRel G w s.t a.tmps.toList
  inv : Inv G w s.m
  defers : a.defers = []

def St.ev (s : St) : Operand → D
  | .tmp t => s.t.getD t .dead
  | .const x => .v x
  | .func f => .fn f [] []
  | .global _ => .dead

def St.put (s : St) (dst : Option Tmp) (d : D) : St :=
  match dst with
  | some i => { s with t := s.t.set i d }
  | none => s

theorem VsRel.length {G : Gh} {w : World} : ∀ {l : List D} {us : List Value}, VsRel G w l us → us.length = l.length
  | [], us, h => by simp [VsRel] at h; simp [h]
  | d :: l, us, h => by
    simp only [VsRel] at h
    obtain ⟨u, r, rfl, _, h2⟩ := h
    simp [VsRel.length h2]

theorem VsRel.get {G : Gh} {w : World} : ∀ {l : List D} {us : List Value} (i : Nat), VsRel G w l us → VRel G w (l.getD i .dead) (us.getD i undef)
  | [], us, i, h => by simp [VRel]
  | d :: l, us, i, h => by
    simp only [VsRel] at h
    obtain ⟨u, r, rfl, h1, h2⟩ := h
    cases i with
    | zero => simpa using h1
    | succ i => simpa using VsRel.get i h2

theorem VsRel.set {G : Gh} {w : World} {d : D} {x : Value} (hx : VRel G w d x) : ∀ {l : List D} {us : List Value} (i : Nat), VsRel G w l us → VsRel G w (l.set i d) (us.set i x)
  | [], us, i, h => by simp [VsRel] at h; simp [h, VsRel]
  | e :: l, us, i, h => by
    simp only [VsRel] at h
    obtain ⟨u, r, rfl, h1, h2⟩ := h
    cases i with
    | zero => simp only [List.set_cons_zero, VsRel]; exact ⟨x, r, rfl, hx, h2⟩
    | succ i => simp only [List.set_cons_succ, VsRel]; exact ⟨u, _, rfl, h1, VsRel.set hx i h2⟩

theorem Rel.ev {G : Gh} {w : World} {a : Act} {s : St} (h : Rel G w a s) (x : Operand) : VRel G w (s.ev x) (a.eval x) := by
  cases x with
  | tmp t =>
    have := VsRel.get t h.t
    simpa [St.ev, Act.eval] using this
  | const x => simp [St.ev, Act.eval, VRel]
  | global g => simp [St.ev, VRel]
  | func f =>
    simp only [St.ev, Act.eval, VRel]
    exact ⟨[], [], rfl, by simp [VsRel], by simp [VsRel]⟩

theorem Rel.put {G : Gh} {w : World} {a : Act} {s : St} (h : Rel G w a s) (dst : Option Tmp) {d : D} {x : Value} (hx : VRel G w d x) : Rel G w (a.put dst x) (s.put dst d) := by
  cases dst with
  | none => exact h
  | some i =>
    refine ⟨?_, h.inv, h.defers⟩
    have := VsRel.set hx i h.t
    simpa [St.put, Act.put] using this

/-- The same frame in a later world. -/
theorem Rel.step {G G' : Gh} {w w' : World} {a : Act} {s : St} {m' : List Ent} (h : Rel G w a s) (hs : Le G w G' w') (hi : Inv G' w' m') : Rel G' w' a { s with m := m' } :=
  ⟨h.t.mono hs, hi, h.defers⟩
end Go.Tm
