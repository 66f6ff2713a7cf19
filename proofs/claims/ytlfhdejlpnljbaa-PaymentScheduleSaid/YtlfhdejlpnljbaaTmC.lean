/-
  Memory: what a new block and a change of one resource do to what is known.
-/
import Derived.Test.YtlfhdejlpnljbaaTmB
set_option linter.unusedSimpArgs false
set_option linter.unusedVariables false
namespace Go.Tm
open Go.RowKit (Below)

theorem rowAt_iff {G : Gh} {w : World} {b S : Nat} : ∀ {l : List D} {off : Nat}, RowAt G w b S l off ↔ ∀ (i : Nat) d, l[i]? = some d → ∃ u, VRel G w d u ∧ u.cells.size = S ∧ HasAt w b (off + i * S) u
  | [], off => by simp [RowAt]
  | d :: l, off => by
    simp only [RowAt]
    constructor
    · rintro ⟨h1, h2⟩ i e he
      cases i with
      | zero => simp at he; subst he; simpa using h1
      | succ i =>
        have := rowAt_iff.1 h2 i e (by simpa using he)
        rwa [show off + S + i * S = off + (i + 1) * S by rw [Nat.succ_mul]; omega] at this
    · intro h
      refine ⟨by simpa using h 0 d rfl, rowAt_iff.2 fun i e he => ?_⟩
      have := h (i + 1) e (by simpa using he)
      rwa [show off + (i + 1) * S = off + S + i * S by rw [Nat.succ_mul]; omega] at this

/-- The elements of a list lie in the cells of an array, one after the other. -/
def RowIn (G : Gh) (w : World) (S : Nat) (l : List D) (cs : Array Value) : Prop :=
  ∀ (i : Nat) d, l[i]? = some d → ∃ u, VRel G w d u ∧ u.cells.size = S ∧ ∀ (j : Nat) c, u.cells[j]? = some c → one c = true ∧ cs[i * S + j]? = some c

theorem RowIn.mono {G G' : Gh} {w w' : World} {S : Nat} {l : List D} {cs : Array Value} (h : RowIn G w S l cs) (hle : Le G w G' w') : RowIn G' w' S l cs :=
  fun i d hd => let ⟨u, h1, h2, h3⟩ := h i d hd; ⟨u, h1.mono hle, h2, h3⟩

theorem cell_of_cells {w : World} {b j : Nat} {cs : Array Value} {T : TypeId} {fr : Nat × Nat} (h : w.heap[b]? = some (.cells cs T fr)) : w.cell? ⟨b, j, none⟩ = cs[j]? := by
  simp [World.cell?, h]

theorem rowAt_of_rowIn {G : Gh} {w : World} {b S : Nat} {l : List D} {cs : Array Value} {T : TypeId} {fr : Nat × Nat} (h : w.heap[b]? = some (.cells cs T fr)) (hr : RowIn G w S l cs) : RowAt G w b S l 0 :=
  rowAt_iff.2 fun i d hd => by
    obtain ⟨u, h1, h2, h3⟩ := hr i d hd
    exact ⟨u, h1, h2, fun j c hc => ⟨(h3 j c hc).1, by rw [cell_of_cells h, Nat.zero_add]; exact (h3 j c hc).2⟩⟩

theorem rowIn_of_rowAt {G : Gh} {w : World} {b S : Nat} {l : List D} {cs : Array Value} {T : TypeId} {fr : Nat × Nat} (h : w.heap[b]? = some (.cells cs T fr)) (hr : RowAt G w b S l 0) : RowIn G w S l cs := by
  intro i d hd
  obtain ⟨u, h1, h2, h3⟩ := rowAt_iff.1 hr i d hd
  refine ⟨u, h1, h2, fun j c hc => ⟨(h3 j c hc).1, ?_⟩⟩
  have := (h3 j c hc).2
  rwa [cell_of_cells h, Nat.zero_add] at this

/-- One resource more. -/
def Gh.add (G : Gh) (b : Option Nat) (S N C : Nat) : Gh :=
  ⟨G.F, G.n + 1, fun i => if i = G.n then b else G.B i, fun i => if i = G.n then 0 else G.V i, fun i => if i = G.n then S else G.S i,
    fun i => if i = G.n then N else G.N i, fun i => if i = G.n then C else G.C i⟩

theorem Le.add {G : Gh} {w w' : World} (hb : ∀ b, G.F b → w'.heap[b]? = w.heap[b]?) (b : Option Nat) (S N C : Nat) : Le G w (G.add b S N C) w' where
  F _ h := h
  heap := hb
  n := by simp [Gh.add]
  id i hi := by
    have : i ≠ G.n := by omega
    simp [Gh.add, this]

theorem EntRel.mono {G G' : Gh} {w w' : World} (hle : Le G w G' w') {i : Nat} {e : Ent} (h : EntRel G w i e)
    (hi : G'.V i = G.V i ∧ G'.B i = G.B i ∧ G'.S i = G.S i ∧ G'.N i = G.N i ∧ G'.C i = G.C i) (hb : ∀ b, G.B i = some b → w'.heap[b]? = w.heap[b]?)
    (hF : ∀ b, G.B i = some b → e.isLive = true → G'.F b → G.F b) : EntRel G' w' i e := by
  obtain ⟨h1, h2, h3, h4, h5⟩ := hi
  cases e with
  | live S ver l =>
    simp only [EntRel] at h ⊢
    obtain ⟨a1, a2, a3, a4, a5⟩ := h
    rw [h1, h2, h3, h4, h5]
    refine ⟨a1, a2, a3, a4, ?_⟩
    rcases a5 with a5 | ⟨b, cs, T, b1, b2, b3, b4, b5⟩
    · exact .inl a5
    · exact .inr ⟨b, cs, T, b1, fun hf => b2 (hF b b1 rfl hf), by rw [hb b b1]; exact b3, b4, RowAt.mono hle (hb b b1) b5⟩
  | mp es =>
    simp only [EntRel] at h ⊢
    obtain ⟨a1, b, en, cl, a2, a3, a4, a5⟩ := h
    rw [h1, h2]
    exact ⟨a1, b, en, cl, a2, fun hf => a3 (hF b a2 rfl hf), by rw [hb b a2]; exact a4, a5.mono hle⟩
  | gone => trivial

theorem EntRel.lt {G : Gh} {w : World} {i : Nat} {e : Ent} (h : EntRel G w i e) (hl : e.isLive = true) {b : Nat} (hb : G.B i = some b) : b < w.heap.size ∧ ¬ G.F b := by
  have key : ∀ o, w.heap[b]? = some o → b < w.heap.size := fun o ho => by
    rcases Nat.lt_or_ge b w.heap.size with h' | h'
    · exact h'
    · rw [Array.getElem?_eq_none h'] at ho; cases ho
  cases e with
  | live S ver l =>
    obtain ⟨_, _, _, _, h | ⟨b', cs, T, b1, b2, b3, _⟩⟩ := h
    · rw [h.1] at hb; cases hb
    · rw [b1] at hb; injection hb with hb; subst hb; exact ⟨key _ b3, b2⟩
  | mp es =>
    obtain ⟨_, b', en, cl, a2, a3, a4, _⟩ := h
    rw [a2] at hb; injection hb with hb; subst hb; exact ⟨key _ a4, a3⟩
  | gone => cases hl

theorem Owned.lt {G : Gh} {w : World} {m : List Ent} (hi : Inv G w m) {b : Nat} (h : Owned G m b) : b < w.heap.size ∧ ¬ G.F b := by
  obtain ⟨i, e, h1, h2, h3⟩ := h
  exact (hi.ent i e h1).lt h2 h3

/-- A world that holds the same memory. -/
structure Same (w w' : World) : Prop where
  heap : w'.heap = w.heap
  os : w'.os = w.os
  tape : w'.tape = w.tape
  output : w'.output = w.output

theorem Same.drew (w : World) : Same w w.drew := ⟨rfl, rfl, rfl, rfl⟩
theorem Same.refl (w : World) : Same w w := ⟨rfl, rfl, rfl, rfl⟩

theorem Same.le {w w' : World} (h : Same w w') (G : Gh) : Le G w G w' := ⟨fun _ h => h, fun _ _ => by rw [h.heap], Nat.le_refl _, fun _ _ => .inl ⟨rfl, rfl, rfl, rfl, rfl⟩⟩

theorem Same.step {w w' : World} (h : Same w w') (G : Gh) (m : List Ent) : Step G w m G w' m :=
  ⟨h.le G, h.os, h.tape, h.output, by rw [h.heap]; exact Nat.le_refl _, fun _ _ _ => by rw [h.heap], fun _ _ h => .inl h, fun _ _ h => h⟩

theorem Same.inv {w w' : World} (h : Same w w') {G : Gh} {m : List Ent} (hi : Inv G w m) : Inv G w' m :=
  ⟨hi.n, fun b hb => by rw [h.heap]; exact hi.F b hb, fun i e he => (hi.ent i e he).mono (h.le G) ⟨rfl, rfl, rfl, rfl, rfl⟩ (fun _ _ => by rw [h.heap]) (fun _ _ _ h => h), hi.apart⟩

/-- A new resource in a world w' that keeps all that was there: its block is new, or it has none. -/
theorem add_good {G : Gh} {w w' : World} {m : List Ent} (hi : Inv G w m) (b : Option Nat) (S N C : Nat) (e : Ent) (hl : e.isLive = true)
    (hos : w'.os = w.os) (htape : w'.tape = w.tape) (hout : w'.output = w.output) (hsize : w.heap.size ≤ w'.heap.size)
    (hkeep : ∀ k, k < w.heap.size → w'.heap[k]? = w.heap[k]?) (hb : ∀ k, b = some k → w.heap.size ≤ k)
    (he : EntRel (G.add b S N C) w' G.n e) :
    Inv (G.add b S N C) w' (m ++ [e]) ∧ Step G w m (G.add b S N C) w' (m ++ [e]) := by
  have hle : Le G w (G.add b S N C) w' := Le.add (fun k hk => hkeep k (hi.F k hk)) b S N C
  have hnew : ∀ i, i ≠ G.n → (G.add b S N C).B i = G.B i := fun i h => by simp [Gh.add, h]
  have hat : (G.add b S N C).B G.n = b := by simp [Gh.add]
  have hget : ∀ i x, (m ++ [e])[i]? = some x → (m[i]? = some x ∧ i ≠ G.n) ∨ (i = G.n ∧ x = e) := by
    intro i x hx
    rw [List.getElem?_append] at hx
    split at hx
    · exact .inl ⟨hx, by rw [hi.n]; omega⟩
    · rename_i hlt
      have : i = m.length := by
        rcases Nat.lt_or_ge i (m.length + 1) with h | h
        · omega
        · rw [List.getElem?_eq_none (by simp; omega)] at hx; cases hx
      subst this
      simp at hx
      exact .inr ⟨hi.n.symm, hx.symm⟩
  have hold : ∀ i x, m[i]? = some x → x.isLive = true → ∀ k, G.B i = some k → k < w.heap.size := fun i x hx hl k hk => ((hi.ent i x hx).lt hl hk).1
  refine ⟨⟨by simp [Gh.add, hi.n], fun k hk => Nat.lt_of_lt_of_le (hi.F k hk) hsize, ?_, ?_⟩, ⟨hle, hos, htape, hout, hsize, fun k hk _ => hkeep k hk, fun _ _ h => .inl h, ?_⟩⟩
  · intro i x hx
    rcases hget i x hx with ⟨h1, h2⟩ | ⟨rfl, rfl⟩
    · by_cases hlx : x.isLive = true
      · refine (hi.ent i x h1).mono hle (by simp [Gh.add, h2]) (fun k hk => hkeep k (hold i x h1 hlx k hk)) (fun _ _ _ h => h)
      · cases x with
        | gone => trivial
        | _ => simp [Ent.isLive] at hlx
    · exact he
  · intro i j x y hx hy lx ly k hk hk'
    rcases hget i x hx with ⟨h1, h2⟩ | ⟨rfl, rfl⟩ <;> rcases hget j y hy with ⟨h3, h4⟩ | ⟨rfl, rfl⟩
    · exact hi.apart i j x y h1 h3 lx ly k (by rwa [hnew i h2] at hk) (by rwa [hnew j h4] at hk')
    · rw [hnew i h2] at hk; rw [hat] at hk'
      have := hold i x h1 lx k hk
      have := hb k hk'
      omega
    · rw [hnew j h4] at hk'; rw [hat] at hk
      have := hold j y h3 ly k hk'
      have := hb k hk
      omega
    · rfl
  · rintro k hk ⟨i, x, hx, lx, hB⟩
    rcases hget i x hx with ⟨h1, h2⟩ | ⟨rfl, rfl⟩
    · exact ⟨i, x, h1, lx, by rwa [hnew i h2] at hB⟩
    · rw [hat] at hB
      have := hb k hB
      omega

/-- A new block of cells. -/
theorem alloc_good {G : Gh} {w : World} {m : List Ent} (hi : Inv G w m) (S : Nat) (l : List D) (C : Nat) (cs : Array Value) (T : TypeId)
    (hr : RowIn G w S l cs) (hC : l.length ≤ C) (hcs : C * S ≤ cs.size) :
    Inv (G.add (some w.heap.size) S l.length C) (w.alloc (.cells cs T)) (m ++ [.live S 0 l]) ∧ Step G w m (G.add (some w.heap.size) S l.length C) (w.alloc (.cells cs T)) (m ++ [.live S 0 l]) := by
  have hkeep : ∀ k, k < w.heap.size → (w.alloc (.cells cs T)).heap[k]? = w.heap[k]? := fun k hk => Below.heap_alloc _ _ _ hk
  refine add_good hi _ _ _ _ _ rfl rfl rfl rfl (by simp) hkeep (fun k h => by injection h; omega) ?_
  have hle : Le G w (G.add (some w.heap.size) S l.length C) (w.alloc (.cells cs T)) := Le.add (fun k hk => hkeep k (hi.F k hk)) _ _ _ _
  have hblk : (w.alloc (.cells cs T)).heap[w.heap.size]? = some (.cells cs T (0, 0)) := by
    show (w.heap.push (.cells cs T))[w.heap.size]? = _
    rw [Array.getElem?_push, if_pos rfl]
  refine ⟨by simp [Gh.add], by simp [Gh.add], by simp [Gh.add], by simpa [Gh.add] using hC, .inr ⟨w.heap.size, cs, T, by simp [Gh.add], fun h => ?_, hblk, by simpa [Gh.add] using hcs, rowAt_of_rowIn hblk (hr.mono hle)⟩⟩
  have := hi.F _ h
  omega

/-- One resource is another now. -/
def Gh.upd (G : Gh) (i : Nat) (b : Option Nat) (V N C : Nat) : Gh :=
  ⟨G.F, G.n, fun j => if j = i then b else G.B j, fun j => if j = i then V else G.V j, G.S, fun j => if j = i then N else G.N j, fun j => if j = i then C else G.C j⟩

theorem change_good {G : Gh} {w w' : World} {m : List Ent} (hi : Inv G w m) {id : Nat} {e e' : Ent} (hm : m[id]? = some e) (hl : e.isLive = true) (hl' : e'.isLive = true) (b : Option Nat) (V N C : Nat)
    (hV : G.V id < V ∨ (V = G.V id ∧ b = G.B id ∧ N = G.N id ∧ C = G.C id))
    (hos : w'.os = w.os) (htape : w'.tape = w.tape) (hout : w'.output = w.output) (hsize : w.heap.size ≤ w'.heap.size)
    (hkeep : ∀ k, k < w.heap.size → G.B id ≠ some k → w'.heap[k]? = w.heap[k]?) (hb : ∀ k, b = some k → G.B id = some k ∨ w.heap.size ≤ k)
    (he : EntRel (G.upd id b V N C) w' id e') :
    Inv (G.upd id b V N C) w' (m.set id e') ∧ Step G w m (G.upd id b V N C) w' (m.set id e') := by
  have hFb : ∀ k, G.F k → G.B id ≠ some k := fun k hF hB => ((hi.ent id e hm).lt hl hB).2 hF
  have hle : Le G w (G.upd id b V N C) w' := by
    refine ⟨fun _ h => h, fun k hk => hkeep k (hi.F k hk) (hFb k hk), Nat.le_refl _, fun i _ => ?_⟩
    by_cases h : i = id
    · subst h
      rcases hV with hV | ⟨h1, h2, h3, h4⟩
      · exact .inr (by simpa [Gh.upd] using hV)
      · exact .inl (by simp [Gh.upd, h1, h2, h3, h4])
    · exact .inl (by simp [Gh.upd, h])
  have hnew : ∀ i, i ≠ id → (G.upd id b V N C).B i = G.B i := fun i h => by simp [Gh.upd, h]
  have hat : (G.upd id b V N C).B id = b := by simp [Gh.upd]
  have hlen : id < m.length := by
    rcases Nat.lt_or_ge id m.length with h | h
    · exact h
    · rw [List.getElem?_eq_none h] at hm; cases hm
  have hget : ∀ i x, (m.set id e')[i]? = some x → (m[i]? = some x ∧ i ≠ id) ∨ (i = id ∧ x = e') := by
    intro i x hx
    by_cases h : i = id
    · subst h; rw [List.getElem?_set_self hlen] at hx; exact .inr ⟨rfl, by injection hx with hx; exact hx.symm⟩
    · rw [List.getElem?_set_ne (by omega)] at hx; exact .inl ⟨hx, h⟩
  have hold : ∀ i x, m[i]? = some x → x.isLive = true → ∀ k, G.B i = some k → k < w.heap.size := fun i x hx hl k hk => ((hi.ent i x hx).lt hl hk).1
  refine ⟨⟨by simp [Gh.upd, hi.n], fun k hk => Nat.lt_of_lt_of_le (hi.F k hk) hsize, ?_, ?_⟩, ⟨hle, hos, htape, hout, hsize, ?_, fun _ _ h => .inl h, ?_⟩⟩
  · intro i x hx
    rcases hget i x hx with ⟨h1, h2⟩ | ⟨rfl, rfl⟩
    · by_cases hlx : x.isLive = true
      · refine (hi.ent i x h1).mono hle (by simp [Gh.upd, h2]) (fun k hk => hkeep k (hold i x h1 hlx k hk) fun hB => h2 (hi.apart i id x e h1 hm hlx hl k hk hB)) (fun _ _ _ h => h)
      · cases x with
        | gone => trivial
        | _ => simp [Ent.isLive] at hlx
    · exact he
  · intro i j x y hx hy lx ly k hk hk'
    have other : ∀ i x, m[i]? = some x → i ≠ id → x.isLive = true → G.B i = some k → b = some k → False := fun i x h1 h2 lx hk hbk => by
      rcases hb k hbk with h | h
      · exact h2 (hi.apart i id x e h1 hm lx hl k hk h)
      · have := hold i x h1 lx k hk; omega
    rcases hget i x hx with ⟨h1, h2⟩ | ⟨rfl, rfl⟩ <;> rcases hget j y hy with ⟨h3, h4⟩ | ⟨rfl, rfl⟩
    · exact hi.apart i j x y h1 h3 lx ly k (by rwa [hnew i h2] at hk) (by rwa [hnew j h4] at hk')
    · exact (other i x h1 h2 lx (by rwa [hnew i h2] at hk) (by rwa [hat] at hk')).elim
    · exact (other j y h3 h4 ly (by rwa [hnew j h4] at hk') (by rwa [hat] at hk)).elim
    · rfl
  · intro k hk ho
    exact hkeep k hk fun hB => ho ⟨id, e, hm, hl, hB⟩
  · rintro k hk ⟨i, x, hx, lx, hB⟩
    rcases hget i x hx with ⟨h1, h2⟩ | ⟨rfl, rfl⟩
    · exact ⟨i, x, h1, lx, by rwa [hnew i h2] at hB⟩
    · rw [hat] at hB
      rcases hb k hB with h | h
      · exact ⟨i, e, hm, hl, h⟩
      · omega
end Go.Tm
