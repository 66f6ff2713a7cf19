/-
  Soundness: max and min, struct comparison, strings, maps.
-/
import Derived.Test.YtlfhdejlpnljbaaTmL
import Derived.Laws.StructEq
import Derived.MapKept
set_option linter.unusedSimpArgs false
set_option linter.unusedVariables false
namespace Go.Tm
open Go.RowKit (Below)
section
variable {P : Program} {G : Gh} {w : World} {a : Act} {s : St} {d : D} {m' : List Ent}

theorem leaves_vals (hr : Rel G w a s) : ∀ {xs : List Operand} {vs : List Value}, leaves (xs.map s.ev) = some vs → xs.map a.eval = vs
  | [], vs, h => by simp [leaves] at h; simp [h]
  | x :: xs, vs, h => by
    have hx := hr.ev x
    simp only [List.map_cons] at h
    generalize s.ev x = dx at *
    cases dx <;> simp only [leaves, reduceCtorEq] at h
    simp only [Option.map_eq_some_iff] at h
    obtain ⟨us, h1, rfl⟩ := h
    simp only [VRel] at hx
    simp [hx, leaves_vals hr h1]

theorem g_mm (hr : Rel G w a s) {isMax : Bool} {xs : Array Operand} {tys : Array TypeId} {o : Oper} (ho : o.op = .call { callee := .builtin (if isMax then .max else .min), args := xs, argTypes := tys })
    (he : evalI s (.mm isMax xs.toList) = some (d, m')) : Good G w s.m ((execOp a.eval o).run P w) d m' := by
  simp only [evalI] at he
  split at he
  · rename_i vs hvs
    simp only [Option.map_eq_some_iff, Prod.mk.injEq] at he
    obtain ⟨r, hp, rfl, rfl⟩ := he
    have hl := leaves_vals hr hvs
    have harr : xs.map a.eval = vs.toArray := by
      apply Array.ext'
      rw [Array.toList_map, hl]
    refine good_here (u := r) hr.inv ?_ (by simp [VRel])
    unfold execOp
    simp only [ho]
    cases isMax with
    | true =>
      have : ∀ t n, Builtin.max_ t n vs.toArray = Builtin.max_ #[] 0 vs.toArray := fun _ _ => rfl
      simp only [if_true] at hp
      simp [resolve, invoke, builtin, harr, this, pureRun_run hp]
    | false =>
      have : ∀ t n, Builtin.min_ t n vs.toArray = Builtin.min_ #[] 0 vs.toArray := fun _ _ => rfl
      simp only [Bool.false_eq_true, if_false] at hp
      simp [resolve, invoke, builtin, harr, this, pureRun_run hp]
  · cases he

theorem run_part_one {t : TypeId} {ds : TypeDesc} (hd : P.underlying t = some ds) (hA : isAggD ds = false) {cs : Array Value} {off : Nat} {u : Value} (hu : cs[off]? = some u) : (Go.part t cs off).run P w = .ok u w := by
  unfold Go.part
  simp [run_isAgg' hd, hA, hu]

theorem eqFields_run {dep : Nat} {xs ys : List Value} {w : World} : ∀ {fs : List Field} {ks : List Nat} {off : Nat} {l r : List D} {t : Bool}, eqPlan P fs off = some ks → eqLeaves ks l r = some t → VsRel G w l (xs.drop off) → VsRel G w r (ys.drop off) →
    (Op.eqFields (dep + 1) xs.toArray ys.toArray fs).run P w = .ok t w
  | [], ks, off, l, r, t, hp, he, hl, hr => by
    simp only [eqPlan] at hp
    injection hp with hp; subst hp
    cases l <;> cases r <;> simp [eqLeaves] at he
    subst he
    simp [Op.eqFields]
  | f :: fs, ks, off, l, r, t, hp, he, hl, hr => by
    simp only [eqPlan] at hp
    split at hp
    · rename_i hc
      obtain ⟨hname, hoff⟩ := hc
      have key : ∀ {k : Nat} {ks' : List Nat} {ds : TypeDesc}, P.underlying f.type = some ds → isAggD ds = false → eqPlan P fs (off + 1) = some ks' → ks = k :: ks' →
          (∀ x y b, eqLeaf k x y = some b → ∀ u v, VRel G w x u → VRel G w y v → (Op.equalIn (dep + 1) f.type u v).run P w = .ok b w) → (Op.eqFields (dep + 1) xs.toArray ys.toArray (f :: fs)).run P w = .ok t w := by
        intro k ks' ds hd hA hp' hk heq
        subst hk
        cases l with
        | nil => simp [eqLeaves] at he
        | cons x l =>
          cases r with
          | nil => simp [eqLeaves] at he
          | cons y r =>
            simp only [eqLeaves] at he
            split at he
            · rename_i b c hb hcc
              injection he with he
              subst he
              simp only [VsRel] at hl hr
              obtain ⟨u, us, hu, hx, hl⟩ := hl
              obtain ⟨v, vs, hv, hy, hr⟩ := hr
              have hxu : xs[off]? = some u := by have := congrArg (fun l => l[0]?) hu; simpa using this
              have hyv : ys[off]? = some v := by have := congrArg (fun l => l[0]?) hv; simpa using this
              have hxs : xs.drop (off + 1) = us := by have := congrArg List.tail hu; simpa [List.tail_drop] using this
              have hys : ys.drop (off + 1) = vs := by have := congrArg List.tail hv; simpa [List.tail_drop] using this
              have ih := eqFields_run (dep := dep) (xs := xs) (ys := ys) hp' hcc (by rw [hxs]; exact hl) (by rw [hys]; exact hr)
              have e1 := run_part_one (w := w) (P := P) (cs := xs.toArray) (off := off) hd hA (by simpa using hxu)
              have e2 := run_part_one (w := w) (P := P) (cs := ys.toArray) (off := off) hd hA (by simpa using hyv)
              have e3 := heq x y b hb u v hx hy
              simp only [Op.eqFields, hname, hoff, ne_eq, not_false_eq_true, if_true, Sem.run_bind, e1, e2, e3, Result.andThen_ok]
              cases b
              · simp
              · simpa using ih
            · cases he
      split at hp
      · rename_i k' ks' hd hp'
        injection hp with hp
        refine key hd rfl hp' hp.symm ?_
        intro x y b hb u v hx hy
        cases x <;> cases y <;> simp only [eqLeaf, reduceCtorEq] at hb
        rename_i x y
        cases x <;> cases y <;> simp only [eqLeaf, reduceCtorEq] at hb
        split at hb
        · rename_i hk
          injection hb with hb
          simp only [VRel] at hx hy
          subst hx; subst hy; subst hk; subst hb
          exact run_equalIn_int w dep f.type _ _ _ _ hd
        · cases hb
      · rename_i ks' hd hp'
        injection hp with hp
        refine key hd rfl hp' hp.symm ?_
        intro x y b hb u v hx hy
        cases x <;> cases y <;> simp only [eqLeaf, reduceCtorEq] at hb
        rename_i x y
        cases x <;> cases y <;> simp only [eqLeaf, reduceCtorEq] at hb
        injection hb with hb
        simp only [VRel] at hx hy
        subst hx; subst hy; subst hb
        exact run_equalIn_bool' w dep f.type _ _ hd
      · rename_i ks' hd hp'
        injection hp with hp
        refine key hd rfl hp' hp.symm ?_
        intro x y b hb u v hx hy
        cases x <;> cases y <;> simp only [eqLeaf, reduceCtorEq] at hb
        rename_i x y
        cases x <;> cases y <;> simp only [eqLeaf, reduceCtorEq] at hb
        injection hb with hb
        simp only [VRel] at hx hy
        subst hx; subst hy; subst hb
        exact run_equalIn_string w dep f.type _ _ hd
      · cases hp
    · cases hp

theorem g_ceq (hr : Rel G w a s) {op : BinOp} {t : TypeId} {x y : Operand} {yt : TypeId} {fs : Array Field} {ks : List Nat} {o : Oper} (ho : o.op = .binOp op t x y yt) (ht : P.underlying t = some (.struct fs)) (hop : op = .eql ∨ op = .neq)
    (h1 : P.stoodInHeld t = false) (h2 : P.eqGuardType P.depth t = false) (hk : eqPlan P fs.toList 0 = some ks) (he : evalI s (.ceq (decide (op = .neq)) ks x y) = some (d, m')) :
    Good G w s.m ((execOp a.eval o).run P w) d m' := by
  have hx := hr.ev x
  have hy := hr.ev y
  simp only [evalI] at he
  unfold execOp
  simp only [ho]
  generalize s.ev x = dx at *
  generalize s.ev y = dy at *
  split at he
  · rename_i l r
    simp only [VRel] at hx hy
    obtain ⟨xs, hx, hl, -⟩ := hx
    obtain ⟨ys, hy, hr', -⟩ := hy
    simp only [Option.map_eq_some_iff, Prod.mk.injEq] at he
    obtain ⟨b, hb, rfl, rfl⟩ := he
    have hfo : P.fieldsOf t = fs := by simp [Program.fieldsOf, ht]
    have hrun : (Op.equalIn 10000 t (.agg xs.toArray) (.agg ys.toArray)).run P w = .ok b w := by
      rw [show (10000 : Nat) = 9998 + 1 + 1 from rfl, run_equalIn_struct w _ t _ _ (by rw [hfo]; exact ht) h1, hfo]
      exact eqFields_run (dep := 9998) (G := G) (off := 0) hk hb (by simpa using hl) (by simpa using hr')
    have hg := run_eqGuard_agg (P := P) w op t x y xs.toArray ys.toArray h2
    rcases hop with rfl | rfl
    · refine good_here (u := .bool b) hr.inv ?_ (by simp [VRel])
      simp [hx, hy, hg, run_eql_struct, hrun]
    · refine good_here (u := .bool (!b)) hr.inv ?_ (by simp [VRel])
      simp [hx, hy, hg, run_neq_struct, hrun]
  · cases he

theorem g_sidx (hr : Rel G w a s) {t : TypeId} {x y : Operand} {o : Oper} (ho : o.op = .index t x y) (ht : P.underlying t = some .string) (he : evalI s (.sidx x y) = some (d, m')) :
    Good G w s.m ((execOp a.eval o).run P w) d m' := by
  have hx := hr.ev x
  have hy := hr.ev y
  simp only [evalI] at he
  unfold execOp
  simp only [ho]
  generalize s.ev x = dx at *
  generalize s.ev y = dy at *
  split at he
  · rename_i b jk k
    split at he
    · rename_i hk
      injection he with he
      injection he with h1 h2
      subst h1; subst h2
      simp only [VRel] at hx hy
      refine good_here (u := .int .u8 (b[k.toNat]'hk.2).toNat) hr.inv ?_ (by simp [VRel])
      have hg : b[k.toNat]? = some (b[k.toNat]'hk.2) := by simp [hk.2]
      simp [Instr.index, hx, hy, asIntOf, run_underlying ht, hk.1, hg]
    · cases he
  · cases he

theorem g_sslice (hr : Rel G w a s) {t : TypeId} {x : Operand} {lo hi : Option Operand} {o : Oper} (ho : o.op = .slice t x lo hi none) (ht : P.underlying t = some .string) (he : evalI s (.sslice x lo hi) = some (d, m')) :
    Good G w s.m ((execOp a.eval o).run P w) d m' := by
  have hx := hr.ev x
  simp only [evalI] at he
  have one : ∀ {x : Option Operand} {dflt r : Nat}, bound s dflt x = some r → (x = none ∧ r = dflt) ∨ ∃ y j, x = some y ∧ a.eval y = .int j (r : Int) := by
    intro x dflt r hb
    cases x with
    | none => simp [bound] at hb; exact .inl ⟨rfl, hb.symm⟩
    | some y =>
      have hy := hr.ev y
      simp only [bound] at hb
      generalize s.ev y = dy at *
      split at hb
      · rename_i j q
        split at hb
        · rename_i hq
          injection hb with hb
          simp only [VRel] at hy
          exact .inr ⟨y, j, rfl, by rw [hy, ← hb, Int.toNat_of_nonneg hq]⟩
        · cases hb
      · cases hb
  have rb : ∀ (x : Value) (y : Nat) (code : BoundsCode) (j : IntKind) (r : Nat), x = .int j (r : Int) → r ≤ y → (Instr.sliceBound x y code).run P w = .ok r w := fun x y code j r hx hr' => by
    have := run_bound (P := P) x y code hx (Int.natCast_nonneg r) (by omega) w
    simpa using this
  unfold execOp
  simp only [ho]
  generalize s.ev x = dx at *
  split at he
  · rename_i b
    split at he
    · rename_i l h hl hh
      split at he
      · rename_i hc
        injection he with he
        injection he with h1 h2
        subst h1; subst h2
        simp only [VRel] at hx
        refine good_here (u := .string (b.extract l h)) hr.inv ?_ (by simp [VRel])
        rcases one hl with ⟨rfl, rfl⟩ | ⟨yl, jl, rfl, el⟩ <;> rcases one hh with ⟨rfl, rfl⟩ | ⟨yh, jh, rfl, eh⟩
        · simp [Instr.sliceAt, Instr.slice, run_underlying ht, hx, Instr.sliceBounds]
        · simp [Instr.sliceAt, Instr.slice, run_underlying ht, hx, Instr.sliceBounds, rb _ b.size _ _ _ eh hc.2]
        · simp [Instr.sliceAt, Instr.slice, run_underlying ht, hx, Instr.sliceBounds, rb _ b.size _ _ _ el hc.1]
        · simp [Instr.sliceAt, Instr.slice, run_underlying ht, hx, Instr.sliceBounds, rb _ b.size _ _ _ eh hc.2, rb _ h _ _ _ el hc.1]
      · cases he
    · cases he
  · cases he

theorem cell?_freeze (w : World) (b n k : Nat) (p : Addr) : (w.freeze ⟨b, n, none⟩ k).cell? p = w.cell? p := by
  unfold World.freeze
  by_cases hk : k = 0
  · rw [if_pos hk]
  · rw [if_neg hk]
    simp only [World.cell?, Array.getElem?_modify]
    by_cases h : b = p.block
    · rw [if_pos h]
      cases hh : w.heap[p.block]? with
      | none => simp
      | some o => cases o <;> simp
    · rw [if_neg h]

theorem heap_freeze_other (w : World) (b n k j : Nat) (h : j ≠ b) : (w.freeze ⟨b, n, none⟩ k).heap[j]? = w.heap[j]? := by
  unfold World.freeze
  split
  · rfl
  · simp only [Array.getElem?_modify]
    rw [if_neg (Ne.symm h)]

theorem size_freeze (w : World) (b n k : Nat) : (w.freeze ⟨b, n, none⟩ k).heap.size = w.heap.size := by
  unfold World.freeze
  split <;> simp

theorem rows_freeze (w : World) (b n k : Nat) : (w.freeze ⟨b, n, none⟩ k).os = w.os ∧ (w.freeze ⟨b, n, none⟩ k).tape = w.tape ∧ (w.freeze ⟨b, n, none⟩ k).output = w.output := by
  unfold World.freeze
  split <;> exact ⟨rfl, rfl, rfl⟩

/-- The ghost behind it. -/
def Gh.fz (G : Gh) (id : Nat) : Gh := { G with F := fun b => G.F b ∨ G.B id = some b, V := fun i => if i = id then G.V i + 1 else G.V i }

theorem Le.fzW {G : Gh} {w w' : World} (id : Nat) (h : ∀ b, G.F b → w'.heap[b]? = w.heap[b]?) : Le G w (G.fz id) w' := by
  refine ⟨fun _ h => .inl h, h, Nat.le_refl _, fun i _ => ?_⟩
  by_cases h : i = id
  · exact .inr (by simp [Gh.fz, h])
  · exact .inl (by simp [Gh.fz, h])

/-- A resource is let be, and nothing else has changed. -/
theorem gone_good {G : Gh} {w w' : World} {m : List Ent} (hi : Inv G w m) {id : Nat} {e : Ent} (hm : m[id]? = some e) (hl : e.isLive = true)
    (hos : w'.os = w.os) (htape : w'.tape = w.tape) (hout : w'.output = w.output) (hsize : w'.heap.size = w.heap.size) (hkeep : ∀ k, G.B id ≠ some k → w'.heap[k]? = w.heap[k]?) :
    Inv (G.fz id) w' (m.set id .gone) ∧ Step G w m (G.fz id) w' (m.set id .gone) := by
  have hle : Le G w (G.fz id) w' := Le.fzW id fun b hb => hkeep b fun h => ((hi.ent id e hm).lt hl h).2 hb
  have hget : ∀ i x, (m.set id .gone)[i]? = some x → (i = id ∧ x = .gone) ∨ (i ≠ id ∧ m[i]? = some x) := by
    intro i x hx
    rw [List.getElem?_set] at hx
    split at hx
    · rename_i hij
      subst hij
      split at hx
      · injection hx with hx; exact .inl ⟨rfl, hx.symm⟩
      · cases hx
    · rename_i hij
      exact .inr ⟨fun h => hij h.symm, hx⟩
  refine ⟨⟨by simp [Gh.fz, hi.n], ?_, ?_, ?_⟩, ⟨hle, hos, htape, hout, by rw [hsize]; exact Nat.le_refl _, ?_, ?_, ?_⟩⟩
  · rintro b (h | h)
    · rw [hsize]; exact hi.F b h
    · rw [hsize]; exact ((hi.ent _ _ hm).lt hl h).1
  · intro i x hx
    rcases hget i x hx with ⟨rfl, rfl⟩ | ⟨hne, hx'⟩
    · trivial
    · by_cases hlx : x.isLive = true
      · refine (hi.ent i x hx').mono hle (by simp [Gh.fz, hne]) (fun b hb => hkeep b fun h => hne (hi.apart i id x e hx' hm hlx hl b hb h)) ?_
        rintro b hb _ (h | h)
        · exact h
        · exact (hne (hi.apart i id x e hx' hm hlx hl b hb h)).elim
      · cases x with
        | gone => trivial
        | _ => simp [Ent.isLive] at hlx
  · intro i j x y hx hy lx ly b hb hb'
    rcases hget i x hx with ⟨rfl, rfl⟩ | ⟨_, hx'⟩
    · cases lx
    · rcases hget j y hy with ⟨rfl, rfl⟩ | ⟨_, hy'⟩
      · cases ly
      · exact hi.apart i j x y hx' hy' lx ly b hb hb'
  · intro b _ ho
    exact hkeep b fun h => ho ⟨id, e, hm, hl, h⟩
  · rintro b _ (h | h)
    · exact .inl h
    · exact .inr ⟨id, e, hm, hl, h⟩
  · rintro b _ ⟨i, x, hx, lx, hB⟩
    rcases hget i x hx with ⟨rfl, rfl⟩ | ⟨_, hx'⟩
    · cases lx
    · exact ⟨i, x, hx', lx, hB⟩

theorem vrel_isV {G G' : Gh} {w w' : World} {d : D} {u : Value} (h : isV d = true) (hv : VRel G w d u) : VRel G' w' d u := by
  cases d <;> simp [isV] at h
  simpa [VRel] using hv

theorem g_strb (hr : Rel G w a s) {t e : TypeId} {S : Nat} {x : Operand} {o : Oper} (ho : o.op = .convert t t x) (ht : P.underlying t = some (.slice e)) (hu : P.underlying e = some (.int .u8)) (he : evalI s (.strb S x) = some (d, m')) :
    Good G w s.m ((execOp a.eval o).run P w) d m' := by
  have hx := hr.ev x
  simp only [evalI] at he
  generalize s.ev x = dx at *
  split at he
  · rename_i id ver
    split at he
    · rename_i S ver' l hm
      split at he
      · rename_i hc
        obtain ⟨rfl, rfl, hpos, hv⟩ := hc
        injection he with he
        injection he with h1 h2
        subst h1; subst h2
        simp only [VRel] at hx
        obtain ⟨p, n, c, hp, hid, hver, hx⟩ := hx
        have hinv := hr.inv
        obtain ⟨a1, a2, a3, a4, a5⟩ := hinv.ent _ _ hm
        obtain ⟨rfl, rfl, rfl⟩ := hx a1
        rcases a5 with a5 | ⟨b, cs, T, hb, hF, hblk, hsz, hrow⟩
        · have := a5.2; omega
        · rw [hb] at hp
          have hp' : a.eval x = .slice (some ⟨b, 0, none⟩) (G.N id) (G.C id) := hp
          have hshape : w.shape? b = some (T, cs.size) := by simp [World.shape?, hblk]
          have hrun : (execOp a.eval o).run P w = .ok (.value (a.eval x)) (w.freeze ⟨b, cs.size, none⟩ 1) := by
            unfold execOp
            simp only [ho, hp']
            simp [convert, run_underlying ht, run_underlying hu, markStringish, hshape]
          obtain ⟨r1, r2, r3⟩ := rows_freeze w b cs.size 1
          obtain ⟨g1, g2⟩ := gone_good (w' := w.freeze ⟨b, cs.size, none⟩ 1) hinv hm rfl r1 r2 r3 (size_freeze _ _ _ _) fun k hk => heap_freeze_other w b _ _ k fun h => hk (by rw [h]; exact hb)
          refine ⟨_, _, _, hrun, .inl ⟨_, rfl, ?_⟩, g1, g2⟩
          rw [hp']
          simp only [VRel]
          refine ⟨_, _, _, rfl, a3, by rw [a3]; exact a4, .inr ⟨b, 0, rfl, .inr hb, rowAt_iff.2 fun i e he => ?_⟩⟩
          obtain ⟨u, k1, k2, k3⟩ := rowAt_iff.1 hrow i e he
          exact ⟨u, vrel_isV (List.all_eq_true.1 hv e (List.mem_of_getElem? he)) k1, k2, fun j c hj => ⟨(k3 j c hj).1, by rw [cell?_freeze]; exact (k3 j c hj).2⟩⟩
      · cases he
    · cases he
  · cases he

theorem key_kind {t : TypeId} {K : Nat} (h : keyKind P t = some K) : (K = 0 ∧ P.underlying t = some (.int .i64)) ∨ (K = 2 ∧ P.underlying t = some .string) := by
  unfold keyKind at h
  split at h
  · rename_i ht; injection h with h; exact .inl ⟨h.symm, ht⟩
  · rename_i ht; injection h with h; exact .inr ⟨h.symm, ht⟩
  · cases h

theorem run_checkKey {t : TypeId} {K : Nat} (h : keyKind P t = some K) {kv : Value} (hk : isKey K kv = true) (b : Bool) (w : World) : (Instr.checkKey b 10000 t kv).run P w = .ok () w := by
  rw [show (10000 : Nat) = 9999 + 1 from rfl, Instr.checkKey]
  rcases key_kind h with ⟨rfl, ht⟩ | ⟨rfl, ht⟩
  · cases kv <;> simp [isKey] at hk
    simp [run_underlying ht]
  · cases kv <;> simp [isKey] at hk
    simp [run_underlying ht]

theorem same_now {t : TypeId} {K : Nat} (h : keyKind P t = some K) {p q : Value} (hp : isKey K p = true) (hq : isKey K q = true) : ∃ ds, P.underlying t = some ds ∧ Instr.sameNow ds p q = some (keyEq p q) := by
  rcases key_kind h with ⟨rfl, ht⟩ | ⟨rfl, ht⟩
  · refine ⟨_, ht, ?_⟩
    cases p <;> simp [isKey] at hp
    cases q <;> simp [isKey] at hq
    rename_i j a k b
    cases j <;> simp at hp
    cases k <;> simp at hq
    simp [Instr.sameNow, keyEq]
  · refine ⟨_, ht, ?_⟩
    cases p <;> simp [isKey] at hp
    cases q <;> simp [isKey] at hq
    simp [Instr.sameNow, keyEq]

/-- The search through a map's entries. -/
theorem find_now {t : TypeId} {K : Nat} (h : keyKind P t = some K) {kv : Value} (hk : isKey K kv = true) {ds : TypeDesc} (hds : P.underlying t = some ds) : ∀ {es : List (Value × D)} {en : List MapEntry} (i : Nat), (es.all fun e => isKey K e.1) = true → MapRel G w es en →
    (lookD kv es = none ∧ Instr.findNow ds kv en i = some none) ∨ ∃ d j e, lookD kv es = some d ∧ Instr.findNow ds kv en i = some (some (i + j, e.val)) ∧ en[j]? = some e ∧ VRel G w d e.val ∧ keyEq kv e.key = true ∧ isKey K e.key = true ∧
      ∀ (G' : Gh) (w' : World) (x : D) (u : Value), MapRel G' w' es en → VRel G' w' x u → MapRel G' w' (putD kv x es) (en.modify j fun e => { e with key := kv, val := u })
  | [], en, i, _, hm => by
    simp only [MapRel] at hm
    subst hm
    exact .inl ⟨rfl, rfl⟩
  | (q, d) :: es, en, i, hall, hm => by
    simp only [MapRel] at hm
    obtain ⟨e, r, rfl, rfl, hv, hm⟩ := hm
    simp only [List.all_cons, Bool.and_eq_true] at hall
    obtain ⟨ds', hds', hsn⟩ := same_now h hk hall.1
    rw [hds] at hds'
    injection hds' with hds'
    subst hds'
    simp only [lookD, Instr.findNow, hsn]
    by_cases hkq : keyEq kv e.key = true
    · rw [if_pos hkq, hkq]
      refine .inr ⟨d, 0, e, rfl, rfl, rfl, hv, hkq, hall.1, fun G' w' x u hm' hx => ?_⟩
      simp only [putD, if_pos hkq, List.modify_zero_cons, MapRel] at hm' ⊢
      obtain ⟨e', r', h1, h2, h3, h4⟩ := hm'
      injection h1 with h1 h1'
      subst h1; subst h1'
      exact ⟨_, _, rfl, rfl, hx, h4⟩
    · have hf : keyEq kv e.key = false := by simpa using hkq
      rw [if_neg hkq, hf]
      simp only
      rcases find_now h hk hds (i + 1) hall.2 hm with ⟨h1, h2⟩ | ⟨d', j, e', h1, h2, h3, h4, h5, h5', h6⟩
      · exact .inl ⟨h1, h2⟩
      · refine .inr ⟨d', j + 1, e', h1, by rw [h2]; congr 3; omega, by simpa using h3, h4, h5, h5', fun G' w' x u hm' hx => ?_⟩
        simp only [putD, if_neg hkq, List.modify_succ_cons, MapRel] at hm' ⊢
        obtain ⟨e'', r', k1, k2, k3, k4⟩ := hm'
        injection k1 with k1 k1'
        subst k1; subst k1'
        exact ⟨e, _, rfl, rfl, k3, h6 G' w' x u k4 hx⟩

theorem look_none_put {kv : Value} {x : D} : ∀ {es : List (Value × D)}, lookD kv es = none → putD kv x es = es ++ [(kv, x)]
  | [], _ => rfl
  | (q, d) :: es, h => by
    simp only [lookD] at h
    split at h
    · cases h
    · rename_i hk
      simp only [putD, if_neg hk, look_none_put h, List.cons_append]

theorem mapRel_push {G : Gh} {w : World} {kv : Value} {x : D} {u : Value} {b : Nat} (hx : VRel G w x u) : ∀ {es : List (Value × D)} {en : List MapEntry}, MapRel G w es en → MapRel G w (es ++ [(kv, x)]) (en ++ [⟨kv, u, b⟩])
  | [], en, h => by
    simp only [MapRel] at h
    subst h
    simp only [List.nil_append, MapRel]
    exact ⟨_, _, rfl, rfl, hx, rfl⟩
  | (q, d) :: es, en, h => by
    simp only [MapRel] at h
    obtain ⟨e, r, rfl, h1, h2, h3⟩ := h
    simp only [List.cons_append, MapRel]
    exact ⟨e, _, rfl, h1, h2, mapRel_push hx h3⟩

theorem g_mkmap (hr : Rel G w a s) {t : TypeId} {o : Oper} (ho : o.op = .makeMap t none) (he : evalI s .mkmap = some (d, m')) : Good G w s.m ((execOp a.eval o).run P w) d m' := by
  simp only [evalI] at he
  injection he with he
  injection he with h1 h2
  subst h1; subst h2
  have hblk : (w.alloc (.map #[] 0)).heap[w.heap.size]? = some (.map #[] 0) := heap_alloc_new w _
  obtain ⟨g1, g2⟩ := add_good (w' := w.alloc (.map #[] 0)) hr.inv (some w.heap.size) 0 0 0 (.mp []) rfl rfl rfl rfl (by simp) (fun k hk => Below.heap_alloc _ _ _ hk) (fun k h => by injection h; omega)
    ⟨by simp [Gh.add], w.heap.size, #[], 0, by simp [Gh.add], fun hF => by have := hr.inv.F _ hF; omega, hblk, by simp [MapRel]⟩
  refine ⟨.value (.map (some w.heap.size)), _, _, ?_, .inl ⟨_, rfl, ?_⟩, g1, g2⟩
  · unfold execOp
    simp only [ho]
    simp [Instr.makeMap]
  · simp only [VRel]
    exact ⟨w.heap.size, rfl, by simp [Gh.add, hr.inv.n], fun _ => by simp [Gh.add, hr.inv.n]⟩

theorem run_findKey {t : TypeId} {K : Nat} (h : keyKind P t = some K) {kv : Value} {en : List MapEntry} {ds : TypeDesc} (hds : P.underlying t = some ds) {r : Option (Nat × Value)} (hf : Instr.findNow ds kv en 0 = some r) (w : World) :
    (Instr.findKey t kv en).run P w = .ok r w := by
  unfold Instr.findKey
  simp [run_underlying hds, hf]

theorem g_mlook (hr : Rel G w a s) {t kt et : TypeId} {K : Nat} {ok : Bool} {z : Value} {x k : Operand} {o : Oper} (ho : o.op = .lookup t x k ok) (ht : P.underlying t = some (.map kt et)) (hK : keyKind P kt = some K) (hz : zeroOf P et = some z)
    (he : evalI s (.mlook K ok (leaf z) x k) = some (d, m')) : Good G w s.m ((execOp a.eval o).run P w) d m' := by
  have hx := hr.ev x
  have hk := hr.ev k
  obtain ⟨hz1, hz2, hz3, -⟩ := run_zero hz w
  simp only [evalI] at he
  unfold execOp
  simp only [ho]
  generalize s.ev x = dx at *
  generalize s.ev k = dk at *
  split at he
  · rename_i kv
    simp only [VRel] at hk
    split at he
    · rename_i hkey
      have hck := fun b => run_checkKey hK hkey b w
      have hds : ∃ ds, P.underlying kt = some ds := by rcases key_kind hK with ⟨-, h⟩ | ⟨-, h⟩ <;> exact ⟨_, h⟩
      obtain ⟨ds, hds⟩ := hds
      have fin : ∀ (u : Value) (e : D) (b : Bool), VRel G w e u → some (if ok = true then D.tup [e, .v (.bool b)] else e, s.m) = some (d, m') →
          (Sem.run P (do let r ← Instr.lookup t (a.eval x) kv ok; pure (Next.value r)) w = .ok (.value (if ok = true then .tuple #[u, .bool b] else u)) w) → Good G w s.m (Sem.run P (do let r ← Instr.lookup t (a.eval x) kv ok; pure (Next.value r)) w) d m' := by
        intro u e b hv hd hrun
        injection hd with hd
        injection hd with h1 h2
        subst h1; subst h2
        refine good_here hr.inv hrun ?_
        cases ok with
        | true =>
          simp only [if_true, VRel]
          refine ⟨[u, .bool b], rfl, ?_⟩
          simp only [VsRel]
          exact ⟨u, _, rfl, hv, _, _, rfl, by simp [VRel], rfl⟩
        | false => simpa using hv
      rw [hk]
      split at he
      · simp only [VRel] at hx
        refine fin z (leaf z) false (leaf_rel z hz2) he ?_
        rw [hx]
        have hf : Instr.findNow ds kv [] 0 = some none := rfl
        simp [Instr.lookup, run_underlying ht, hck, run_findKey hK hds hf, hz1]
      · rename_i id
        split at he
        · rename_i es hm
          split at he
          · rename_i hall
            simp only [VRel] at hx
            obtain ⟨b, hxv, hid, hb⟩ := hx
            obtain ⟨a1, b', en, cl, a2, a3, a4, a5⟩ := hr.inv.ent _ _ hm
            rw [hb a1] at a2
            injection a2 with a2
            subst a2
            rcases find_now hK hkey hds 0 hall a5 with ⟨h1, h2⟩ | ⟨d', j, e', h1, h2, h3, h4, h5, h5', h6⟩
            · rw [h1] at he
              refine fin z (leaf z) false (leaf_rel z hz2) he ?_
              rw [hxv]
              simp [Instr.lookup, run_underlying ht, getObj, Sem.run, a4, hck, run_findKey hK hds h2, hz1]
            · rw [h1] at he
              refine fin e'.val d' true h4 he ?_
              rw [hxv]
              simp [Instr.lookup, run_underlying ht, getObj, Sem.run, a4, hck, run_findKey hK hds h2]
          · cases he
        · cases he
      · cases he
    · cases he
  · cases he

theorem g_mlen (hr : Rel G w a s) {t kt et : TypeId} {x : Operand} {o : Oper} (ho : o.op = .call { callee := .builtin .len, args := #[x], argTypes := #[t] })
    (ht : P.underlying t = some (.map kt et)) (he : evalI s (.mlen x) = some (d, m')) : Good G w s.m ((execOp a.eval o).run P w) d m' := by
  have hx := hr.ev x
  simp only [evalI] at he
  unfold execOp
  simp only [ho]
  generalize s.ev x = dx at *
  split at he
  · injection he with he
    injection he with h1 h2
    subst h1; subst h2
    simp only [VRel] at hx
    refine good_here (u := .int .i64 0) hr.inv ?_ (by simp [VRel])
    simp [resolve, invoke, builtin, Builtin.len_, hx, run_underlying ht, goInt]
  · rename_i id
    split at he
    · rename_i es hm
      injection he with he
      injection he with h1 h2
      subst h1; subst h2
      simp only [VRel] at hx
      obtain ⟨b, hxv, hid, hb⟩ := hx
      obtain ⟨a1, b', en, cl, a2, a3, a4, a5⟩ := hr.inv.ent _ _ hm
      rw [hb a1] at a2
      injection a2 with a2
      subst a2
      have hlen : en.size = es.length := by
        have : ∀ {es : List (Value × D)} {en : List MapEntry}, MapRel G w es en → en.length = es.length := by
          intro es
          induction es with
          | nil => intro en h; simp only [MapRel] at h; simp [h]
          | cons p es ih =>
            intro en h
            obtain ⟨k, d⟩ := p
            simp only [MapRel] at h
            obtain ⟨e, r, rfl, _, _, h⟩ := h
            simp [ih h]
        simpa using this a5
      refine good_here (u := .int .i64 es.length) hr.inv ?_ (by simp [VRel])
      simp [resolve, invoke, builtin, Builtin.len_, hxv, run_underlying ht, goInt, getObj, Sem.run, a4, hlen]
    · cases he
  · cases he

theorem isKey_cases {K : Nat} {v : Value} (h : isKey K v = true) : (∃ a, v = .int .i64 a) ∨ ∃ b, v = .string b := by
  unfold isKey at h
  split at h
  · exact .inl ⟨_, rfl⟩
  · exact .inr ⟨_, rfl⟩
  · cases h

theorem bytes_beq {b c : ByteArray} (h : (b == c) = true) : b = c := by
  cases b with | mk b => cases c with | mk c =>
    have h' : (b == c) = true := h
    rw [eq_of_beq h']

theorem sameBits_key {K : Nat} {p q : Value} (hp : isKey K p = true) (hq : isKey K q = true) (h : keyEq p q = true) : Instr.sameBits 10000 q p = true := by
  rcases isKey_cases hp with ⟨a, rfl⟩ | ⟨a, rfl⟩ <;> rcases isKey_cases hq with ⟨b, rfl⟩ | ⟨b, rfl⟩ <;> simp only [keyEq, Bool.false_eq_true] at h
  · have : a = b := by simpa using h
    subst this
    simp [Instr.sameBits]
  · have : a = b := bytes_beq h
    subst this
    simp only [Instr.sameBits]
    exact h

theorem g_mput (hr : Rel G w a s) {t kt et : TypeId} {K : Nat} {m k x : Operand} {o : Oper} (ho : o.op = .mapUpdate t m k x) (ht : P.underlying t = some (.map kt et)) (hK : keyKind P kt = some K)
    (he : evalI s (.mput K m k x) = some (d, m')) : Good G w s.m ((execOp a.eval o).run P w) d m' := by
  have hx := hr.ev x
  have hk := hr.ev k
  have hmv := hr.ev m
  simp only [evalI] at he
  unfold execOp
  simp only [ho]
  generalize s.ev x = dx at *
  generalize s.ev k = dk at *
  generalize s.ev m = dm at *
  split at he
  · rename_i kv id
    split at he
    · rename_i es hm
      split at he
      · rename_i hc
        obtain ⟨hkey, hall⟩ := hc
        injection he with he
        injection he with h1 h2
        subst h1; subst h2
        simp only [VRel] at hk hmv
        obtain ⟨b, hxv, hid, hb⟩ := hmv
        obtain ⟨a1, b', en, cl, a2, a3, a4, a5⟩ := hr.inv.ent _ _ hm
        rw [hb a1] at a2
        injection a2 with a2
        subst a2
        have hblt : b < w.heap.size := (Array.getElem?_eq_some_iff.1 a4).1
        have hck := fun c => run_checkKey hK hkey c w
        have hds : ∃ ds, P.underlying kt = some ds := by rcases key_kind hK with ⟨-, h⟩ | ⟨-, h⟩ <;> exact ⟨_, h⟩
        obtain ⟨ds, hds⟩ := hds
        have fin : ∀ (en' : Array MapEntry) (cl' : Nat), (∀ G' w', Le G w G' w' → MapRel G' w' (putD kv dx es) en'.toList) → (Instr.mapUpdate t (.map (some b)) kv (a.eval x)).run P w = .ok () { w with heap := w.heap.setIfInBounds b (.map en' cl') } →
            Good G w s.m (Sem.run P (do Instr.mapUpdate t (a.eval m) (a.eval k) (a.eval x); pure Next.skip) w) .dead (s.m.set id (.mp (putD kv dx es))) := by
          intro en' cl' hrel hrun
          have hother : ∀ j, j ≠ b → ({ w with heap := w.heap.setIfInBounds b (.map en' cl') } : World).heap[j]? = w.heap[j]? := fun j hj => by
            show (w.heap.setIfInBounds b _)[j]? = _
            rw [Array.getElem?_setIfInBounds_ne (Ne.symm hj)]
          have hself : ({ w with heap := w.heap.setIfInBounds b (.map en' cl') } : World).heap[b]? = some (.map en' cl') := by
            show (w.heap.setIfInBounds b _)[b]? = _
            rw [Array.getElem?_setIfInBounds_self_of_lt hblt]
          have hle : Le G w G { w with heap := w.heap.setIfInBounds b (.map en' cl') } := ⟨fun _ h => h, fun j hj => hother j fun h => a3 (h ▸ hj), Nat.le_refl _, fun _ _ => .inl ⟨rfl, rfl, rfl, rfl, rfl⟩⟩
          have key := change_good (w' := { w with heap := w.heap.setIfInBounds b (.map en' cl') }) hr.inv (e' := .mp (putD kv dx es)) hm rfl rfl (G.B id) (G.V id) (G.N id) (G.C id) (.inr ⟨rfl, rfl, rfl, rfl⟩) rfl rfl rfl
            (by simp) (fun j _ hj => hother j fun h => hj (by rw [h]; exact hb a1)) (fun j hj => .inl hj)
            (by rw [same_upd]; exact ⟨a1, b, en', cl', hb a1, a3, hself, hrel _ _ hle⟩)
          rw [same_upd] at key
          refine ⟨_, _, G, ?_, .inr ⟨rfl, rfl⟩, key.1, key.2⟩
          rw [hxv, hk]
          simp [hrun]
        rcases find_now hK hkey hds 0 hall a5 with ⟨h1, h2⟩ | ⟨d', j, e', h1, h2, h3, h4, h5, h5', h6⟩
        · refine fin (en.push ⟨kv, a.eval x, cl⟩) (cl + 1) (fun G' w' hle => ?_) ?_
          · rw [look_none_put h1, Array.toList_push]
            exact mapRel_push (hx.mono hle) (a5.mono hle)
          · simp [Instr.mapUpdate, run_underlying ht, getObj, setObj, Sem.run, a4, hck, run_findKey hK hds h2]
        · refine fin (en.modify j fun e => { e with key := kv, val := a.eval x }) cl (fun G' w' hle => ?_) ?_
          · rw [Array.toList_modify]
            exact h6 G' w' dx (a.eval x) (a5.mono hle) (hx.mono hle)
          · have hej : en[j]? = some e' := by rw [← Array.getElem?_toList]; exact h3
            have hsb := sameBits_key hkey h5' h5
            rw [Nat.zero_add] at h2
            simp [Instr.mapUpdate, run_underlying ht, getObj, setObj, Sem.run, a4, hck, run_findKey hK hds h2, hej, Instr.keyThatStays, hsb]
      · cases he
    · cases he
  · cases he
end
end Go.Tm
