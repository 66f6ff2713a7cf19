/-
  Soundness of the instructions that change no memory, one by one.
-/
import Derived.Test.YtlfhdejlpnljbaaTmE
import Derived.Laws.Tables
set_option linter.unusedSimpArgs false
set_option linter.unusedVariables false
namespace Go.Tm
open Go.RowKit (Below)
section
variable {P : Program} {G : Gh} {w : World} {a : Act} {s : St} {d : D} {m' : List Ent}

theorem guard_int (op : BinOp) (t : TypeId) (x y : Operand) (j k : IntKind) (p q : Int) (w : World) : (eqGuard op t x y (.int j p) (.int k q)).run P w = .ok () w := by
  unfold eqGuard; cases op <;> rfl

theorem guard_string (op : BinOp) (t : TypeId) (x y : Operand) (p q : ByteArray) (w : World) : (eqGuard op t x y (.string p) (.string q)).run P w = .ok () w := by
  unfold eqGuard; cases op <;> rfl

theorem guard_bool (op : BinOp) (t : TypeId) (x y : Operand) (p q : Bool) (w : World) : (eqGuard op t x y (.bool p) (.bool q)).run P w = .ok () w := by
  unfold eqGuard; cases op <;> rfl

theorem binOp_int (op : BinOp) (t : TypeId) (j k : IntKind) (p q : Int) : binOp op t (.int j p) (.int k q) = binOp op 0 (.int j p) (.int k q) := by cases op <;> rfl
theorem binOp_string (op : BinOp) (t : TypeId) (p q : ByteArray) : binOp op t (.string p) (.string q) = binOp op 0 (.string p) (.string q) := by cases op <;> rfl

theorem g_bin (hr : Rel G w a s) {op : BinOp} {t : TypeId} {x y : Operand} {yt : TypeId} {o : Oper} (ho : o.op = .binOp op t x y yt) (he : evalI s (.bin op x y) = some (d, m')) :
    Good G w s.m ((execOp a.eval o).run P w) d m' := by
  have hx := hr.ev x
  have hy := hr.ev y
  simp only [evalI] at he
  unfold execOp
  simp only [ho]
  generalize s.ev x = dx at *
  generalize s.ev y = dy at *
  split at he
  · simp only [VRel] at hx hy
    simp only [hx, hy, Option.map_eq_some_iff, Prod.mk.injEq] at he ⊢
    obtain ⟨r, hp, rfl, rfl⟩ := he
    refine good_here (u := r) hr.inv ?_ (by simp [VRel])
    simp [guard_int, binOp_int op t, pureRun_run hp]
  · simp only [VRel] at hx hy
    simp only [hx, hy, Option.map_eq_some_iff, Prod.mk.injEq] at he ⊢
    obtain ⟨r, hp, rfl, rfl⟩ := he
    refine good_here (u := r) hr.inv ?_ (by simp [VRel])
    simp [guard_string, binOp_string op t, pureRun_run hp]
  · cases he

theorem run_equal_bool (t : TypeId) (ht : P.underlying t = some .bool) (p q : Bool) (w : World) : (Op.equal t (.bool p) (.bool q)).run P w = .ok (p == q) w := by
  unfold Op.equal Op.maxDepth
  rw [show (10000 : Nat) = 9999 + 1 from rfl, Op.equalIn]
  simp only [Sem.run_bind, run_underlying ht, Result.andThen_ok]
  rfl

theorem g_beq (hr : Rel G w a s) {op : BinOp} {t : TypeId} {x y : Operand} {yt : TypeId} {o : Oper} (ho : o.op = .binOp op t x y yt) (ht : P.underlying t = some .bool) {neg : Bool}
    (hop : (op = .eql ∧ neg = false) ∨ (op = .neq ∧ neg = true)) (he : evalI s (.beq neg x y) = some (d, m')) :
    Good G w s.m ((execOp a.eval o).run P w) d m' := by
  have hx := hr.ev x
  have hy := hr.ev y
  simp only [evalI] at he
  unfold execOp
  simp only [ho]
  generalize s.ev x = dx at *
  generalize s.ev y = dy at *
  split at he
  · simp only [VRel] at hx hy
    simp only [hx, hy] at he ⊢
    injection he with he
    injection he with h1 h2
    subst h1; subst h2
    rename_i p q
    rcases hop with ⟨rfl, rfl⟩ | ⟨rfl, rfl⟩
    · refine good_here (u := .bool (p == q)) hr.inv ?_ (by simp [VRel])
      have hb : binOp .eql t (.bool p) (.bool q) = (do pure (.bool (← Op.equal t (.bool p) (.bool q)))) := rfl
      simp [guard_bool, hb, run_equal_bool t ht]
    · refine good_here (u := .bool (!(p == q))) hr.inv ?_ (by simp [VRel])
      have hb : binOp .neq t (.bool p) (.bool q) = (do pure (.bool (!(← Op.equal t (.bool p) (.bool q))))) := rfl
      simp [guard_bool, hb, run_equal_bool t ht]
  · cases he

theorem g_un (hr : Rel G w a s) {op : UnOp} {t : TypeId} {x : Operand} {o : Oper} (ho : o.op = .unOp op t x) (he : evalI s (.un op x) = some (d, m')) :
    Good G w s.m ((execOp a.eval o).run P w) d m' := by
  have hx := hr.ev x
  simp only [evalI] at he
  unfold execOp
  simp only [ho]
  generalize s.ev x = dx at *
  split at he
  · simp only [VRel] at hx
    simp only [hx, Option.map_eq_some_iff, Prod.mk.injEq] at he ⊢
    obtain ⟨r, hp, rfl, rfl⟩ := he
    refine good_here (u := r) hr.inv ?_ (by simp [VRel])
    simp [pureRun_run hp]
  · cases he

theorem g_mv (hr : Rel G w a s) {x : Operand} {o : Oper} (ho : o.op = .move x ∨ o.op = .assign x) (he : evalI s (.mv x) = some (d, m')) :
    Good G w s.m ((execOp a.eval o).run P w) d m' := by
  have hx := hr.ev x
  simp only [evalI] at he
  injection he with he
  injection he with h1 h2
  subst h1; subst h2
  refine good_here (u := a.eval x) hr.inv ?_ hx
  unfold execOp
  rcases ho with ho | ho <;> simp [ho]

theorem g_pick (hr : Rel G w a s) {c x y : Operand} {o : Oper} (ho : o.op = .pick c x y) (he : evalI s (.pick c x y) = some (d, m')) :
    Good G w s.m ((execOp a.eval o).run P w) d m' := by
  have hc := hr.ev c
  have hx := hr.ev x
  have hy := hr.ev y
  simp only [evalI] at he
  unfold execOp
  simp only [ho]
  generalize s.ev c = dc at *
  split at he
  · simp only [VRel] at hc
    simp only [hc] at he ⊢
    injection he with he
    injection he with h1 h2
    subst h1; subst h2
    rename_i b
    refine good_here (u := if b then a.eval x else a.eval y) hr.inv ?_ ?_
    · simp [asBool]
    · cases b <;> assumption
  · cases he

theorem g_conv (hr : Rel G w a s) {k : IntKind} {x : Operand} {o : Oper} {src dst : TypeId} {j : IntKind} (ho : o.op = .convert src dst x) (h1 : P.underlying src = some (.int j)) (h2 : P.underlying dst = some (.int k)) (he : evalI s (.conv k x) = some (d, m')) :
    Good G w s.m ((execOp a.eval o).run P w) d m' := by
  have hx := hr.ev x
  simp only [evalI] at he
  unfold execOp
  simp only [ho]
  generalize s.ev x = dx at *
  split at he
  · simp only [VRel] at hx
    simp only [hx] at he ⊢
    injection he with he
    injection he with h3 h4
    subst h3; subst h4
    rename_i n
    refine good_here (u := .int k (k.wrap n)) hr.inv ?_ (by simp [VRel])
    simp [convert, run_underlying h1, run_underlying h2, Conv.intToInt]
  · cases he

theorem g_extract (hr : Rel G w a s) {x : Operand} {i : Nat} {o : Oper} (ho : o.op = .extract x i) (he : evalI s (.extract x i) = some (d, m')) :
    Good G w s.m ((execOp a.eval o).run P w) d m' := by
  have hx := hr.ev x
  simp only [evalI] at he
  unfold execOp
  simp only [ho]
  generalize s.ev x = dx at *
  split at he
  · simp only [VRel] at hx
    obtain ⟨cs, hx, hv⟩ := hx
    simp only [hx, Option.map_eq_some_iff, Prod.mk.injEq] at he ⊢
    obtain ⟨e, hl, rfl, rfl⟩ := he
    obtain ⟨u, hu, hd⟩ := hv.getElem hl
    refine good_here (u := u) hr.inv ?_ hd
    simp [Instr.extract, hu]
  · cases he

theorem g_mkfunc (hr : Rel G w a s) {f : FuncId} {first caps : Array Operand} {o : Oper} (ho : o.op = .makeFunc (.func f) first caps) (he : evalI s (.mkfunc f first.toList caps.toList) = some (d, m')) :
    Good G w s.m ((execOp a.eval o).run P w) d m' := by
  simp only [evalI] at he
  injection he with he
  injection he with h1 h2
  subst h1; subst h2
  have all : ∀ l : List Operand, VsRel G w (l.map s.ev) (l.map a.eval) := by
    intro l
    induction l with
    | nil => simp [VsRel]
    | cons x l ih => simp only [List.map_cons, VsRel]; exact ⟨_, _, rfl, hr.ev x, ih⟩
  refine good_here (u := .func (.func f) (first.map a.eval) (caps.map a.eval)) hr.inv ?_ ?_
  · unfold execOp; simp [ho, Instr.makeFunc]
  · simp only [VRel]
    exact ⟨first.toList.map a.eval, caps.toList.map a.eval, by simp [← Array.toList_map], all _, all _⟩

theorem g_nilc (hr : Rel G w a s) {x : Operand} {o : Oper} (ho : o.op = .nilCheck x) (he : evalI s (.nilc x) = some (d, m')) :
    Good G w s.m ((execOp a.eval o).run P w) d m' := by
  have hx := hr.ev x
  simp only [evalI] at he
  unfold execOp
  simp only [ho]
  generalize s.ev x = dx at *
  split at he
  · injection he with he
    injection he with h1 h2
    subst h1; subst h2
    have hx' := hx
    simp only [VRel] at hx
    obtain ⟨p, hx, -⟩ := hx
    exact good_here (u := a.eval x) hr.inv (by simp [hx]) hx'
  · injection he with he
    injection he with h1 h2
    subst h1; subst h2
    have hx' := hx
    simp only [VRel] at hx
    obtain ⟨b, off, u, hx, -⟩ := hx
    exact good_here (u := a.eval x) hr.inv (by simp [hx]) hx'
  · cases he

theorem foldl_splice (off : Nat) : ∀ (vs : List Value) (k : Nat) (cells : Array Value), off + k + vs.length ≤ cells.size →
    ((vs.zipIdx k).foldl (fun cs (x : Value × Nat) => cs.setIfInBounds (off + x.2) x.1) cells).toList = cells.toList.take (off + k) ++ vs ++ cells.toList.drop (off + k + vs.length)
  | [], k, cells, h => by simp
  | v :: vs, k, cells, h => by
    simp only [List.length_cons] at h
    rw [List.zipIdx_cons, List.foldl_cons, foldl_splice off vs (k + 1) _ (by simp; omega)]
    have e := list_seg_step cells.toList (off + k) v vs (by simp; omega)
    simpa [Array.toList_setIfInBounds, Nat.add_assoc, Nat.add_comm 1] using e

/-- The parts of a literal and their places. -/
def Fits (place : Nat → Option (Nat × Nat)) : List (Nat × Operand) → List (Nat × Nat × Operand) → Prop
  | [], qs => qs = []
  | (i, x) :: ps, qs => ∃ off n r, qs = (off, n, x) :: r ∧ place i = some (off, n) ∧ Fits place ps r

theorem g_fill (hr : Rel G w a s) {place : Nat → Option (Nat × Nat)} : ∀ {ps : List (Nat × Operand)} {qs : List (Nat × Nat × Operand)} {l l' : List D} {cells : Array Value},
    Fits place ps qs → buildD s qs l = some l' → VsRel G w l cells.toList → (∀ c ∈ cells.toList, one c = true) →
    ∃ cells' : Array Value, Instr.fill place cells (ps.map fun p => (p.1, a.eval p.2)) = some cells' ∧ VsRel G w l' cells'.toList ∧ ∀ c ∈ cells'.toList, one c = true
  | [], _, l, l', cells, hps, hb, hv, h1 => by
    simp only [Fits] at hps
    subst hps
    simp only [buildD] at hb
    injection hb with hb; subst hb
    exact ⟨cells, rfl, hv, h1⟩
  | (i, x) :: ps, _, l, l', cells, hps, hb, hv, h1 => by
    simp only [Fits] at hps
    obtain ⟨off, n, qs, rfl, hp, hps⟩ := hps
    simp only [buildD] at hb
    split at hb
    · rename_i hc
      obtain ⟨hok, hlen, hoff⟩ := hc
      obtain ⟨hcells, hones⟩ := (hr.ev x).cells hok
      have hl1 := hcells.length
      have hl2 := hv.length
      have hsz : (a.eval x).cells.size = n := by rw [← Array.length_toList, hl1, hlen]
      have hsz2 : cells.size = l.length := by rw [← Array.length_toList, hl2]
      have hf := foldl_splice off (a.eval x).cells.toList 0 cells (by simp; omega)
      refine ?_
      have key := g_fill hr (place := place) (ps := ps) (qs := qs) (l := splice l off (s.ev x).cells) (l' := l')
        (cells := (a.eval x).cells.zipIdx.foldl (fun cs (x : Value × Nat) => cs.setIfInBounds (off + x.2) x.1) cells) hps hb
      have hlist : ((a.eval x).cells.zipIdx.foldl (fun cs (x : Value × Nat) => cs.setIfInBounds (off + x.2) x.1) cells).toList = cells.toList.take off ++ (a.eval x).cells.toList ++ cells.toList.drop (off + (a.eval x).cells.toList.length) := by
        rw [← Array.foldl_toList, Array.toList_zipIdx]
        simpa using hf
      obtain ⟨cells', hc1, hc2, hc3⟩ := key (by
        rw [hlist, splice, ← hl1]
        exact ((hv.take off).append hcells).append (hv.drop _)) (by
        rw [hlist]
        intro c hc
        simp only [List.mem_append] at hc
        rcases hc with (hc | hc) | hc
        · exact h1 c (List.mem_of_mem_take hc)
        · exact hones c hc
        · exact h1 c (List.mem_of_mem_drop hc))
      refine ⟨cells', ?_, hc2, hc3⟩
      simp only [List.map_cons, Instr.fill, hp]
      rw [if_neg (by simp [hsz]; omega)]
      exact hc1
    · cases hb

theorem vsRel_leaf : ∀ (l : List Value), VsRel G w (l.map .v) l
  | [] => by simp [VsRel]
  | x :: l => by simp only [List.map_cons, VsRel]; exact ⟨x, l, rfl, by simp [VRel], vsRel_leaf l⟩

theorem fits_parts (places : List (Nat × Nat)) : ∀ {ps : List (Nat × Operand)} {qs : List (Nat × Nat × Operand)}, partsOf places ps = some qs → Fits (places[·]?) ps qs
  | [], qs, h => by simp [partsOf] at h; simp [Fits, h]
  | (i, x) :: ps, qs, h => by
    simp only [partsOf] at h
    split at h
    · rename_i off n r h1 h2
      injection h with h; subst h
      simp only [Fits]
      exact ⟨off, n, r, rfl, h1, fits_parts places h2⟩
    · cases h

theorem fits_array (n : Nat) : ∀ (ps : List (Nat × Operand)), Fits (fun k => some (k * n, n)) ps (ps.map fun (k, x) => (k * n, n, x))
  | [] => by simp [Fits]
  | (i, x) :: ps => by simp only [Fits, List.map_cons]; exact ⟨_, _, _, rfl, rfl, fits_array n ps⟩

theorem g_build (hr : Rel G w a s) {t : TypeId} {ps : Array (Nat × Operand)} {fs : Array Field} {z : Value} {places : List (Nat × Nat)} {qs : List (Nat × Nat × Operand)} {o : Oper} (ho : o.op = .build t ps)
    (ht : P.underlying t = some (.struct fs)) (hz : zeroOf P t = some z) (hp : (fs.toList.mapM fun f => (P.info? f.type).map fun i => (f.offset, i.size)) = some places) (hq : partsOf places ps.toList = some qs)
    (he : evalI s (.build (z.cells.toList.map .v) qs) = some (d, m')) : Good G w s.m ((execOp a.eval o).run P w) d m' := by
  simp only [evalI, Option.map_eq_some_iff, Prod.mk.injEq] at he
  obtain ⟨l', hb, rfl, rfl⟩ := he
  obtain ⟨hz1, hz2, -⟩ := run_zero hz w
  obtain ⟨cells', h1, h2, h3⟩ := g_fill hr (ps := ps.toList) (place := (places[·]?)) (cells := z.cells) (fits_parts places hq) hb (vsRel_leaf _) (fun c hc => by simp only [Array.all_eq_true] at hz2; obtain ⟨i, hi, rfl⟩ := List.getElem_of_mem hc; simpa using hz2 i (by simpa using hi))
  refine good_here (u := .agg cells') hr.inv ?_ ?_
  · unfold execOp
    simp only [ho]
    have hpl := run_places (P := P) w fs.toList places hp
    have hmap : (ps.map fun (i, x) => (i, a.eval x)).toList = ps.toList.map fun p => (p.1, a.eval p.2) := by simp
    simp [Instr.build, hz1, run_underlying ht, Array.mapM_eq_mapM_toList, hpl, h1]
  · simp only [VRel]; exact ⟨cells'.toList, by simp, h2, h3⟩

theorem g_buildA (hr : Rel G w a s) {t e : TypeId} {n : Nat} {ps : Array (Nat × Operand)} {i : TypeInfo} {z : Value} {o : Oper} (ho : o.op = .build t ps)
    (ht : P.underlying t = some (.array n e)) (hz : zeroOf P t = some z) (hi : P.info? e = some i)
    (he : evalI s (.build (z.cells.toList.map .v) (ps.toList.map fun (k, x) => (k * i.size, i.size, x))) = some (d, m')) : Good G w s.m ((execOp a.eval o).run P w) d m' := by
  simp only [evalI, Option.map_eq_some_iff, Prod.mk.injEq] at he
  obtain ⟨l', hb, rfl, rfl⟩ := he
  obtain ⟨hz1, hz2, -⟩ := run_zero hz w
  obtain ⟨cells', h1, h2, h3⟩ := g_fill hr (ps := ps.toList) (place := fun k => some (k * i.size, i.size)) (cells := z.cells) (fits_array i.size ps.toList) hb (vsRel_leaf _) (fun c hc => by simp only [Array.all_eq_true] at hz2; obtain ⟨i, hi, rfl⟩ := List.getElem_of_mem hc; simpa using hz2 i (by simpa using hi))
  refine good_here (u := .agg cells') hr.inv ?_ ?_
  · unfold execOp
    simp only [ho]
    simp [Instr.build, hz1, run_underlying ht, run_sizeOf' hi, h1]
  · simp only [VRel]; exact ⟨cells'.toList, by simp, h2, h3⟩
end
end Go.Tm
