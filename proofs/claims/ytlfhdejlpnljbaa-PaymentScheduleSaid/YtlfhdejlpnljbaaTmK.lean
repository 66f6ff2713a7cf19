/-
  Soundness of the instructions that make memory and write it.
-/
import Derived.Test.YtlfhdejlpnljbaaTmH
set_option linter.unusedSimpArgs false
set_option linter.unusedVariables false
namespace Go.Tm
open Go.RowKit (Below)
section
variable {P : Program} {G : Gh} {w : World} {a : Act} {s : St} {d : D} {m' : List Ent}

theorem one_cells {u : Value} (h : one u = true) : u.cells = #[u] := by cases u <;> first | rfl | simp [one] at h

theorem leaf_rel (z : Value) (h : z.cells.all one = true) : VRel G w (leaf z) z := by
  unfold leaf
  split
  · rename_i cs
    simp only [VRel]
    refine ⟨cs.toList, rfl, vsRel_leaf _, fun c hc => ?_⟩
    simp only [Value.cells, Array.all_eq_true] at h
    obtain ⟨i, hi, rfl⟩ := List.getElem_of_mem hc
    simpa using h i (by simpa using hi)
  · simp [VRel]

theorem all_get {cs : Array Value} (h : cs.all one = true) (j : Nat) (c : Value) (hc : cs[j]? = some c) : one c = true := by
  simp only [Array.all_eq_true] at h
  obtain ⟨hj, rfl⟩ := Array.getElem?_eq_some_iff.1 hc
  exact h j hj

theorem rowIn_one {S : Nat} {d : D} {u : Value} (hv : VRel G w d u) (hs : u.cells.size = S) (h1 : ∀ (j : Nat) c, u.cells[j]? = some c → one c = true) : RowIn G w S [d] u.cells := by
  intro i e he
  cases i with
  | zero =>
    simp at he; subst he
    exact ⟨u, hv, hs, fun j c hc => ⟨h1 j c hc, by simpa using hc⟩⟩
  | succ i => simp at he

theorem ref_new {w' : World} {S : Nat} {C : Nat} (hn : G.n = s.m.length) : VRel (G.add (some w.heap.size) S 1 C) w' (.ref s.m.length 0 0 0) (.pointer (some ⟨w.heap.size, 0, none⟩)) := by
  simp only [VRel]
  exact ⟨_, rfl, by simp [Gh.add, hn], Nat.zero_le _, fun _ => ⟨w.heap.size, by simp [Gh.add, hn], by simp⟩⟩

theorem own_new {w' : World} {S N C : Nat} (hn : G.n = s.m.length) : VRel (G.add (some w.heap.size) S N C) w' (.own s.m.length 0) (.slice (some ⟨w.heap.size, 0, none⟩) N C) := by
  simp only [VRel]
  exact ⟨_, _, _, rfl, by simp [Gh.add, hn], Nat.zero_le _, fun _ => ⟨by simp [Gh.add, hn], by simp [Gh.add, hn], by simp [Gh.add, hn]⟩⟩

theorem g_alloc (hr : Rel G w a s) {t : TypeId} {z : Value} {o : Oper} (ho : o.op = .alloc t) (hz : zeroOf P t = some z) (he : evalI s (.alloc z.cells.size (leaf z)) = some (d, m')) :
    Good G w s.m ((execOp a.eval o).run P w) d m' := by
  simp only [evalI] at he
  injection he with he
  injection he with h1 h2
  subst h1; subst h2
  obtain ⟨hz1, hz2, hz3, -⟩ := run_zero hz w
  obtain ⟨g1, g2⟩ := alloc_good hr.inv z.cells.size [leaf z] 1 z.cells t (rowIn_one (leaf_rel z hz2) rfl (all_get hz2)) (by simp) (by simp)
  refine ⟨_, _, _, ?_, .inl ⟨_, rfl, ref_new (C := 1) hr.inv.n⟩, g1, g2⟩
  unfold execOp
  simp only [ho]
  simp [Instr.alloc, hz1, newVar, newRow]

theorem g_box (hr : Rel G w a s) {t : TypeId} {x : Operand} {S : Nat} {o : Oper} (ho : o.op = .box t x) (he : evalI s (.box S x) = some (d, m')) :
    Good G w s.m ((execOp a.eval o).run P w) d m' := by
  simp only [evalI] at he
  split at he
  · rename_i hc
    injection he with he
    injection he with h1 h2
    subst h1; subst h2
    have hx := hr.ev x
    obtain ⟨hv, h1⟩ := hx.cells hc.1
    have hsz : (a.eval x).cells.size = S := by rw [← Array.length_toList, hv.length]; exact hc.2
    obtain ⟨g1, g2⟩ := alloc_good hr.inv S [s.ev x] 1 (a.eval x).cells t (rowIn_one hx hsz (fun j c hj => h1 c (by rw [← Array.getElem?_toList] at hj; exact List.mem_of_getElem? hj))) (by simp) (by simp [hsz])
    refine ⟨_, _, _, ?_, .inl ⟨_, rfl, ref_new (C := 1) hr.inv.n⟩, g1, g2⟩
    unfold execOp
    simp only [ho]
    simp [Instr.box, newVar, newRow]
  · cases he

theorem splice_get (cells vs : List Value) (off k : Nat) (h : off + vs.length ≤ cells.length) :
    (cells.take off ++ vs ++ cells.drop (off + vs.length))[k]? = if off ≤ k ∧ k < off + vs.length then vs[k - off]? else cells[k]? := by
  rw [List.append_assoc, List.getElem?_append]
  simp only [List.length_take, List.getElem?_take]
  split
  · rename_i h1
    rw [if_pos (by omega), if_neg (by omega)]
  · rename_i h1
    rw [List.getElem?_append]
    have : min off cells.length = off := by omega
    rw [this]
    split
    · rename_i h2
      rw [if_pos (by omega)]
    · rename_i h2
      rw [if_neg (by omega), List.getElem?_drop]
      congr 1
      omega

theorem RowIn.set {S : Nat} {l : List D} {cs cs' : Array Value} (h : RowIn G w S l cs) {i : Nat} {d : D} {u : Value} (hi : i < l.length) (hv : VRel G w d u) (hs : u.cells.size = S)
    (h1 : ∀ (j : Nat) c, u.cells[j]? = some c → one c = true) (hin : ∀ (j : Nat) c, u.cells[j]? = some c → cs'[i * S + j]? = some c)
    (hout : ∀ k, (k < i * S ∨ i * S + S ≤ k) → cs'[k]? = cs[k]?) : RowIn G w S (l.set i d) cs' := by
  intro j e he
  by_cases hij : i = j
  · subst hij
    rw [List.getElem?_set_self hi] at he
    injection he with he
    subst he
    exact ⟨u, hv, hs, fun k c hc => ⟨h1 k c hc, hin k c hc⟩⟩
  · rw [List.getElem?_set_ne hij] at he
    obtain ⟨v, g1, g2, g3⟩ := h j e he
    refine ⟨v, g1, g2, fun k c hc => ⟨(g3 k c hc).1, ?_⟩⟩
    have hk : k < S := by rw [← g2]; exact (Array.getElem?_eq_some_iff.1 hc).1
    rw [hout _ ?_]
    · exact (g3 k c hc).2
    · rcases Nat.lt_or_gt_of_ne hij with h' | h'
      · right
        have := Nat.mul_le_mul_right S (show i + 1 ≤ j from h')
        rw [Nat.add_mul] at this
        omega
      · left
        have := Nat.mul_le_mul_right S (show j + 1 ≤ i from h')
        rw [Nat.add_mul] at this
        omega

theorem foldl_splice_arr (off : Nat) (vs : Array Value) (cells : Array Value) (h : off + vs.size ≤ cells.size) :
    (vs.zipIdx.foldl (fun cs (x : Value × Nat) => cs.setIfInBounds (off + x.2) x.1) cells).toList = cells.toList.take off ++ vs.toList ++ cells.toList.drop (off + vs.toList.length) := by
  have hf := foldl_splice off vs.toList 0 cells (by simpa using h)
  rw [← Array.foldl_toList, Array.toList_zipIdx]
  simpa using hf

theorem g_fillS (hr : Rel G w a s) {S : Nat} : ∀ {ps : List (Nat × Operand)} {l l' : List D} {cells : Array Value},
    bsliceD s S ps l = some l' → RowIn G w S l cells → cells.size = l.length * S →
    ∃ cells' : Array Value, Instr.fill (fun i => some (i * S, S)) cells (ps.map fun p => (p.1, a.eval p.2)) = some cells' ∧ RowIn G w S l' cells' ∧ cells'.size = l'.length * S ∧ l'.length = l.length
  | [], l, l', cells, hb, hv, h1 => by
    simp only [bsliceD] at hb
    injection hb with hb; subst hb
    exact ⟨cells, rfl, hv, h1, rfl⟩
  | (i, x) :: ps, l, l', cells, hb, hv, h1 => by
    simp only [bsliceD] at hb
    split at hb
    · rename_i hc
      obtain ⟨hok, hlen, hi⟩ := hc
      obtain ⟨hcells, hones⟩ := (hr.ev x).cells hok
      have hl1 := hcells.length
      have hsz : (a.eval x).cells.size = S := by rw [← Array.length_toList, hl1, hlen]
      have hbound : i * S + S ≤ cells.size := by
        rw [h1, ← Nat.succ_mul]; exact Nat.mul_le_mul_right S hi
      have hlist := foldl_splice_arr (i * S) (a.eval x).cells cells (by omega)
      have hget := fun k => splice_get cells.toList (a.eval x).cells.toList (i * S) k (by simp; omega)
      have hsize : ((a.eval x).cells.zipIdx.foldl (fun cs (x : Value × Nat) => cs.setIfInBounds (i * S + x.2) x.1) cells).size = cells.size := by
        rw [← Array.length_toList, hlist]
        simp
        omega
      have hnew : RowIn G w S (l.set i (s.ev x)) ((a.eval x).cells.zipIdx.foldl (fun cs (x : Value × Nat) => cs.setIfInBounds (i * S + x.2) x.1) cells) := by
        refine hv.set hi (hr.ev x) hsz (fun j c hj => hones c (by rw [← Array.getElem?_toList] at hj; exact List.mem_of_getElem? hj)) (fun j c hj => ?_) (fun k hk => ?_)
        · have hjlt : j < S := by rw [← hsz]; exact (Array.getElem?_eq_some_iff.1 hj).1
          rw [← Array.getElem?_toList, hlist, hget, if_pos (by simp [hsz]; omega)]
          rw [← Array.getElem?_toList] at hj
          rw [show i * S + j - i * S = j by omega]; exact hj
        · rw [← Array.getElem?_toList, hlist, hget, if_neg (by simp [hsz]; omega), Array.getElem?_toList]
      obtain ⟨cells', hc1, hc2, hc3, hc4⟩ := g_fillS hr hb hnew (by rw [hsize, h1]; simp)
      refine ⟨cells', ?_, hc2, hc3, by simpa using hc4⟩
      simp only [List.map_cons, Instr.fill]
      rw [if_neg (by simp [hsz]; omega)]
      exact hc1
    · cases hb

theorem rowIn_zeros {z : Value} (hz : z.cells.all one = true) (n : Nat) : RowIn G w z.cells.size (List.replicate n (leaf z)) ((Array.range (n * z.cells.size)).map (z.cells[· % z.cells.size]!)) := by
  intro i e he
  rw [List.getElem?_replicate] at he
  split at he
  · rename_i hi
    injection he with he
    subst he
    refine ⟨z, leaf_rel z hz, rfl, fun j c hc => ⟨all_get hz j c hc, ?_⟩⟩
    obtain ⟨hj, rfl⟩ := Array.getElem?_eq_some_iff.1 hc
    have hlt : i * z.cells.size + j < n * z.cells.size := by
      have := Nat.mul_le_mul_right z.cells.size (show i + 1 ≤ n from hi)
      rw [Nat.add_mul] at this
      omega
    have hmod : (i * z.cells.size + j) % z.cells.size = j := by
      rw [Nat.add_comm, Nat.mul_comm, Nat.add_mul_mod_self_left, Nat.mod_eq_of_lt hj]
    rw [Array.getElem?_map, Array.getElem?_range]
    simp [hlt, hmod, hj]
  · cases he

theorem g_bslice (hr : Rel G w a s) {t e : TypeId} {n : Nat} {ps : Array (Nat × Operand)} {z : Value} {o : Oper} (ho : o.op = .buildSlice t n ps)
    (ht : P.underlying t = some (.slice e)) (hz : zeroOf P e = some z) (hsmall : n * z.cells.size ≤ 2 ^ 24) (he : evalI s (.bslice z.cells.size n (leaf z) ps.toList) = some (d, m')) :
    Good G w s.m ((execOp a.eval o).run P w) d m' := by
  simp only [evalI, Option.map_eq_some_iff, Prod.mk.injEq] at he
  obtain ⟨l, hb, rfl, rfl⟩ := he
  obtain ⟨hz1, hz2, hz3, i, hi, hsz, hzz⟩ := run_zero hz w
  obtain ⟨cells, hf, hrow, hcs, hlen⟩ := g_fillS hr hb (rowIn_zeros hz2 n) (by simp)
  simp only [List.length_replicate] at hlen
  obtain ⟨g1, g2⟩ := alloc_good hr.inv z.cells.size l n cells e hrow (by omega) (by rw [hcs, hlen]; exact Nat.le_refl _)
  refine ⟨_, _, _, ?_, .inl ⟨_, rfl, own_new (N := l.length) (C := n) hr.inv.n⟩, g1, g2⟩
  unfold execOp
  simp only [ho]
  have hnb : ¬ (2 ^ 24 < n * i.size) := by rw [hsz]; omega
  by_cases h0 : n * i.size = 0
  · have hn0 : n = 0 := by
      rcases Nat.mul_eq_zero.1 h0 with h | h
      · exact h
      · omega
    subst hn0
    rw [hsz.symm] at hf
    rw [Nat.zero_mul, show Array.range 0 = #[] from rfl, Array.map_empty] at hf
    have hf' : Instr.fill (fun k => some (k * i.size, i.size)) #[] (ps.toList.map fun p => (p.1, a.eval p.2)) = some cells := hf
    have hr0 : ∀ f : Nat → Value, Array.map f (Array.range 0) = #[] := fun f => by apply Array.ext'; simp
    simp [Instr.buildSlice, run_underlying ht, run_sizeOf' hi, hr0, hf', newRow, hlen]
  · rw [hsz.symm] at hf
    simp [Instr.buildSlice, run_underlying ht, run_sizeOf' hi, hnb, h0, hz1, hf, newRow, hlen, hsz.symm]

theorem g_mkslice (hr : Rel G w a s) {t e : TypeId} {l c : Operand} {z : Value} {o : Oper} (ho : o.op = .makeSlice t l c)
    (ht : P.underlying t = some (.slice e)) (hz : zeroOf P e = some z) (he : evalI s (.mkslice z.cells.size (P.bytesOf e) (leaf z) l c) = some (d, m')) :
    Good G w s.m ((execOp a.eval o).run P w) d m' := by
  have hl := hr.ev l
  have hc := hr.ev c
  simp only [evalI] at he
  unfold execOp
  simp only [ho]
  generalize s.ev l = dl at *
  generalize s.ev c = dc at *
  split at he
  · rename_i n k
    split at he
    · rename_i hk
      obtain ⟨k1, k2, k3, k4⟩ := hk
      injection he with he
      injection he with h1 h2
      subst h1; subst h2
      simp only [VRel] at hl hc
      obtain ⟨hz1, hz2, hz3, i, hi, hsz, hzz⟩ := run_zero hz w
      have hby : P.bytesOf e = i.bytes := by simp [Program.bytesOf, hi]
      rw [hby] at k4
      have hrun := run_make (P := P) w t e i z ht hi hzz .i64 .i64 n k k1 k2 (by
        have : ((k.toNat * i.bytes : Nat) : Int) ≤ 281474976710656 := by omega
        rw [Int.natCast_mul, Int.toNat_of_nonneg (by omega), Int.mul_comm] at this
        exact this) (by omega)
      have hrow : RowIn G w z.cells.size (List.replicate n.toNat (leaf z)) (madeCells z.cells (k.toNat * i.size)) := by
        intro j e' hj
        have hlt : j < n.toNat := by
          rw [List.getElem?_replicate] at hj
          split at hj
          · assumption
          · cases hj
        have := rowIn_zeros (G := G) (w := w) hz2 k.toNat j e' (by rw [List.getElem?_replicate] at hj ⊢; rw [if_pos hlt] at hj; rw [if_pos (by omega)]; exact hj)
        rw [hsz]
        exact this
      obtain ⟨g1, g2⟩ := alloc_good hr.inv z.cells.size (List.replicate n.toNat (leaf z)) k.toNat _ e hrow (by simp; omega) (by rw [size_madeCells, hsz]; exact Nat.le_refl _)
      refine ⟨_, _, _, ?_, .inl ⟨_, rfl, own_new (N := (List.replicate n.toNat (leaf z)).length) (C := k.toNat) hr.inv.n⟩, g1, g2⟩
      simp [hl, hc, hrun]
    · cases he
  · cases he

theorem one_eq (v : Value) : v.oneCell' = one v := by cases v <;> rfl

theorem same_upd (i : Nat) : G.upd i (G.B i) (G.V i) (G.N i) (G.C i) = G := by
  cases G
  simp only [Gh.upd, Gh.mk.injEq, true_and]
  refine ⟨?_, ?_, ?_, ?_⟩ <;> (funext j; split <;> simp_all)

theorem size_setRow' (w : World) (g : Nat) (cs : Array Value) : (w.setRow g cs).heap.size = w.heap.size := by simp [World.setRow]

theorem g_store (hr : Rel G w a s) {t : TypeId} {i : TypeInfo} {x y : Operand} {o : Oper} (ho : o.op = .store t x y) (hi : P.info? t = some i) (he : evalI s (.store i.size x y) = some (d, m')) :
    Good G w s.m ((execOp a.eval o).run P w) d m' := by
  have hx := hr.ev x
  have hy := hr.ev y
  simp only [evalI] at he
  generalize s.ev x = dx at *
  generalize s.ev y = dy at *
  split at he
  · rename_i id ver idx sub
    split at he
    · rename_i S ver' l hm
      split at he
      · rename_i hc
        obtain ⟨rfl, hok, hn⟩ := hc
        simp only [Option.bind_eq_some_iff] at he
        obtain ⟨e, hl, he⟩ := he
        split at he
        · rename_i hc
          obtain ⟨heok, hn0, hsub⟩ := hc
          injection he with he
          injection he with h1 h2
          subst h1; subst h2
          simp only [VRel] at hx
          obtain ⟨p, hp, hid, hver, hx⟩ := hx
          obtain ⟨a1, a2, a3, a4, a5⟩ := hr.inv.ent _ _ hm
          obtain ⟨b, hb, rfl⟩ := hx a1
          rcases a5 with a5 | ⟨b', cs, T, hb', hF, hblk, hsz, hrow⟩
          · rw [a5.1] at hb; cases hb
          · rw [hb] at hb'; injection hb' with hb'; subst hb'
            obtain ⟨hyc, hy1⟩ := hy.cells hok
            have hylen : (a.eval y).cells.toList.length = i.size := by rw [hyc.length]; exact hn
            have hin := rowIn_of_rowAt hblk hrow
            obtain ⟨u, hv, husz, huin⟩ := hin idx e hl
            obtain ⟨huc, hu1⟩ := hv.cells heok
            have hulen : u.cells.toList.length = S := by simpa using husz
            have hidx : idx < l.length := by
              rcases Nat.lt_or_ge idx l.length with h | h
              · exact h
              · rw [List.getElem?_eq_none h] at hl; cases hl
            have helen : e.cells.length = S := by rw [← huc.length]; exact hulen
            have hS : idx * S + S ≤ cs.size := by
              have h1 := Nat.mul_le_mul_right S (show idx + 1 ≤ G.C id by omega)
              rw [Nat.add_mul] at h1
              omega
            rw [a2] at hp
            -- the run
            have hst := run_storeCells_at P b (idx * S + sub) T (a.eval y).cells.toList 0 cs w hblk (by simp only [Nat.add_zero]; omega) (fun v hv => by rw [one_eq]; exact hy1 v hv)
            simp only [Nat.add_zero] at hst
            have hnewcs : ∃ cs' : Array Value, cs' = (cs.toList.take (idx * S + sub) ++ (a.eval y).cells.toList ++ cs.toList.drop (idx * S + sub + (a.eval y).cells.toList.length)).toArray := ⟨_, rfl⟩
            obtain ⟨cs', hcs'⟩ := hnewcs
            rw [← hcs'] at hst
            have hget : ∀ k, cs'[k]? = if idx * S + sub ≤ k ∧ k < idx * S + sub + i.size then (a.eval y).cells.toList[k - (idx * S + sub)]? else cs[k]? := by
              intro k
              rw [hcs', List.getElem?_toArray, splice_get _ _ _ _ (by rw [hylen, Array.length_toList]; omega), hylen]
              simp only [Array.getElem?_toList]
            have hsz' : cs'.size = cs.size := by
              rw [hcs', List.size_toArray, List.length_append, List.length_append, List.length_take, List.length_drop, hylen, Array.length_toList]; omega
            have run : (execOp a.eval o).run P w = .ok .skip (w.setRow b cs') := by
              unfold execOp
              simp only [ho, hp]
              have hszy : (a.eval y).cells.size = i.size := by simpa using hylen
              simp [Instr.storeAt, Instr.sureAddr, storeVar, run_sizeOf' hi, hszy, hst]
            have hkeep : ∀ k, G.B id ≠ some k → (w.setRow b cs').heap[k]? = w.heap[k]? := fun k hk => setRow_other w b k cs' fun h => hk (by rw [h]; exact hb)
            have hle : Le G w G (w.setRow b cs') := ⟨fun _ h => h, fun k hk => hkeep k fun h => by rw [hb] at h; injection h with h; subst h; exact hF hk, Nat.le_refl _, fun _ _ => .inl ⟨rfl, rfl, rfl, rfl, rfl⟩⟩
            have hblk' := setRow_heap w b cs cs' T (0, 0) hblk
            clear hst hcs'
            generalize hys : (a.eval y).cells.toList = ys at hyc hy1 hylen hget
            -- the element that is written
            have hnew : ∃ u' : Value, VRel G (w.setRow b cs') (e.upd sub dy.cells) u' ∧ u'.cells.size = S ∧ ∀ (j : Nat) c, u'.cells[j]? = some c → one c = true ∧ cs'[idx * S + j]? = some c := by
              by_cases hagg : ∃ le, e = .agg le
              · obtain ⟨le, rfl⟩ := hagg
                simp only [VRel] at hv
                obtain ⟨us, rfl, hvs, hus1⟩ := hv
                simp only [D.cells] at helen hsub
                have huslen : us.length = S := by simpa [Value.cells] using husz
                refine ⟨.agg (us.take sub ++ ys ++ us.drop (sub + ys.length)).toArray, ?_, ?_, ?_⟩
                · simp only [D.upd, VRel, splice]
                  refine ⟨_, rfl, ?_, ?_⟩
                  · rw [← hyc.length]
                    exact ((((hvs.take sub).append hyc).append (hvs.drop _)).mono hle)
                  · intro c hc
                    simp only [List.mem_append] at hc
                    rcases hc with (hc | hc) | hc
                    · exact hus1 c (List.mem_of_mem_take hc)
                    · exact hy1 c hc
                    · exact hus1 c (List.mem_of_mem_drop hc)
                · simp [Value.cells]; omega
                · intro j c hj
                  simp only [Value.cells, List.getElem?_toArray] at hj
                  rw [splice_get _ _ _ _ (by omega), hylen] at hj
                  rw [hget]
                  split at hj
                  · rename_i hjr
                    rw [if_pos (by omega), show idx * S + j - (idx * S + sub) = j - sub by omega]
                    exact ⟨hy1 c (List.mem_of_getElem? hj), hj⟩
                  · rename_i hjr
                    rw [if_neg (by omega)]
                    exact huin j c (by simpa [Value.cells] using hj)
              · have hc1 : e.cells = [e] := by cases e <;> first | rfl | exact (hagg ⟨_, rfl⟩).elim
                have hup : e.upd sub dy.cells = dy.cells.headD .dead := by cases e <;> first | rfl | exact (hagg ⟨_, rfl⟩).elim
                rw [hc1] at helen hsub
                simp only [List.length_singleton] at helen hsub
                have hn1 : i.size = 1 := by omega
                have hs0 : sub = 0 := by omega
                subst hs0
                rw [hn1] at hn hylen
                obtain ⟨e1, he1⟩ : ∃ e1, dy.cells = [e1] := by
                  cases hdc : dy.cells with
                  | nil => rw [hdc] at hn; simp at hn
                  | cons q r => rw [hdc] at hn; simp at hn; exact ⟨q, by simp [hn]⟩
                rw [he1] at hyc
                simp only [VsRel] at hyc
                obtain ⟨c1, r1, hcl, hv1, rfl⟩ := hyc
                have g1 := hy1 c1 (by rw [hcl]; simp)
                rw [hup, he1]
                refine ⟨c1, by simpa using hv1.mono hle, by rw [one_cells g1]; simpa using helen, fun j c hj => ?_⟩
                rw [one_cells g1] at hj
                cases j with
                | zero =>
                  simp at hj; subst hj
                  refine ⟨g1, ?_⟩
                  rw [hget, if_pos (by omega), hcl]
                  simp
                | succ j => simp at hj
            obtain ⟨u', hu'v, hu's, hu'c⟩ := hnew
            have hrow' : RowIn G (w.setRow b cs') S (l.set idx (e.upd sub dy.cells)) cs' := by
              refine RowIn.set ((?_ : RowIn G (w.setRow b cs') S l cs)) hidx hu'v hu's (fun j c hj => (hu'c j c hj).1) (fun j c hj => (hu'c j c hj).2) (fun k hk => ?_)
              · exact hin.mono hle
              · rw [hget, if_neg (by omega)]
            have hent : EntRel G (w.setRow b cs') id (.live S ver' (l.set idx (e.upd sub dy.cells))) :=
              ⟨a1, a2, by simpa using a3, by simpa using a4, .inr ⟨b, cs', T, hb, hF, hblk', by rw [hsz']; exact hsz, rowAt_of_rowIn hblk' hrow'⟩⟩
            have key := change_good (w' := w.setRow b cs') hr.inv (e' := .live S ver' (l.set idx (e.upd sub dy.cells))) hm rfl rfl (G.B id) (G.V id) (G.N id) (G.C id) (.inr ⟨rfl, rfl, rfl, rfl⟩) rfl rfl rfl
              (by rw [size_setRow']; exact Nat.le_refl _) (fun k _ hk => hkeep k hk) (fun k hk => .inl hk) (by rw [same_upd]; exact hent)
            rw [same_upd] at key
            exact ⟨_, _, G, run, .inr ⟨rfl, rfl⟩, key.1, key.2⟩
        · cases he
      · cases he
    · cases he
  · cases he
end
end Go.Tm
