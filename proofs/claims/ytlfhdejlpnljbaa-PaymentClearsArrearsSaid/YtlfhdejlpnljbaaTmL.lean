/-
  Soundness of append.
-/
import Derived.Test.YtlfhdejlpnljbaaTmK
set_option linter.unusedSimpArgs false
set_option linter.unusedVariables false
namespace Go.Tm
open Go.RowKit (Below)
section
variable {P : Program} {G : Gh} {w : World} {a : Act} {s : St} {d : D} {m' : List Ent}

/-- The cells of a row of elements, as a list. -/
theorem rowAt_cells {b S : Nat} {l : List D} {off : Nat} (h : RowAt G w b S l off) : ∃ news : List Value, news.length = l.length * S ∧ (∀ c ∈ news, one c = true) ∧ (∀ (j : Nat) v, news[j]? = some v → w.cell? ⟨b, off + j, none⟩ = some v) ∧ RowIn G w S l news.toArray := by
  have hcell : ∀ k, k < l.length * S → ∃ c, one c = true ∧ w.cell? ⟨b, off + k, none⟩ = some c := by
    intro k hk
    have hS : 0 < S := by
      rcases Nat.eq_zero_or_pos S with h | h
      · rw [h] at hk; simp at hk
      · exact h
    have hi : k / S < l.length := Nat.div_lt_of_lt_mul (by rwa [Nat.mul_comm])
    obtain ⟨u, hv, hs, hh⟩ := rowAt_iff.1 h (k / S) l[k / S] (List.getElem?_eq_getElem hi)
    have hj : k % S < u.cells.size := by rw [hs]; exact Nat.mod_lt _ hS
    obtain ⟨g1, g2⟩ := hh (k % S) u.cells[k % S] (Array.getElem?_eq_getElem hj)
    refine ⟨_, g1, ?_⟩
    rwa [show off + k / S * S + k % S = off + k by rw [Nat.add_assoc, Nat.mul_comm, Nat.div_add_mod]] at g2
  refine ⟨(List.range (l.length * S)).map fun k => (w.cell? ⟨b, off + k, none⟩).getD undef, by simp, ?_, ?_, ?_⟩
  · intro c hc
    simp only [List.mem_map, List.mem_range] at hc
    obtain ⟨k, hk, rfl⟩ := hc
    obtain ⟨c, h1, h2⟩ := hcell k hk
    rw [h2]; exact h1
  · intro j v hv
    rw [List.getElem?_map] at hv
    rcases Nat.lt_or_ge j (l.length * S) with hj | hj
    · obtain ⟨c, h1, h2⟩ := hcell j hj
      rw [List.getElem?_range hj] at hv
      simp [h2] at hv
      rw [h2, hv]
    · rw [List.getElem?_eq_none (by simpa using hj)] at hv; simp at hv
  · intro i d hd
    obtain ⟨u, hv, hs, hh⟩ := rowAt_iff.1 h i d hd
    refine ⟨u, hv, hs, fun j c hc => ⟨(hh j c hc).1, ?_⟩⟩
    have hi : i < l.length := by
      rcases Nat.lt_or_ge i l.length with h | h
      · exact h
      · rw [List.getElem?_eq_none h] at hd; cases hd
    have hj : j < S := by rw [← hs]; exact (Array.getElem?_eq_some_iff.1 hc).1
    have hlt : i * S + j < l.length * S := by
      have := Nat.mul_le_mul_right S (show i + 1 ≤ l.length from hi)
      rw [Nat.add_mul] at this
      omega
    rw [List.getElem?_toArray, List.getElem?_map, List.getElem?_range hlt]
    have := (hh j c hc).2
    rw [Nat.add_assoc] at this
    simp [this]

theorem rowIn_nil (S : Nat) (cs : Array Value) : RowIn G w S [] cs := fun i d hd => by simp at hd

/-- What append reads of the slice that it appends. -/
structure Src (P : Program) (G : Gh) (w : World) (S : Nat) (r : List D) (u : Value) (news : List Value) : Prop where
  len : news.length = r.length * S
  ones : ∀ c ∈ news, one c = true
  row : RowIn G w S r news.toArray
  form : ∃ p c, u = .slice p r.length c
  run : ∀ w', w'.heap = w.heap → (Builtin.firstCells S r.length u).run P w' = .ok news.toArray w'

theorem src_addr {b S : Nat} {r : List D} {off c : Nat} (h : RowAt G w b S r off) : ∃ news, Src P G w S r (.slice (some ⟨b, off, none⟩) r.length c) news := by
  obtain ⟨news, h1, h2, h3, h4⟩ := rowAt_cells h
  refine ⟨news, h1, h2, h4, ⟨_, _, rfl⟩, fun w' hw => ?_⟩
  have := run_loadCells_list (P := P) w' ⟨b, off, none⟩ news (fun j v hv => by
    rw [addr_add]
    have := h3 j v hv
    simpa [World.cell?, hw] using this)
  rw [h1] at this
  simpa [Builtin.firstCells] using this

theorem src_empty {S : Nat} {p : Option Addr} {c : Nat} : Src P G w S [] (.slice p 0 c) [] := by
  refine ⟨by simp, by simp, rowIn_nil _ _, ⟨_, _, rfl⟩, fun w' _ => ?_⟩
  cases p <;> simp [Builtin.firstCells, loadCells, loadCellsFrom]

theorem contents_src (hi : Inv G w s.m) {x : D} {u : Value} (hx : VRel G w x u) {S : Nat} {r : List D} (h : contents S s.m x = some r) : ∃ news, Src P G w S r u news := by
  unfold contents at h
  split at h
  · injection h with h; subst h
    simp only [VRel] at hx
    subst hx
    exact ⟨[], src_empty⟩
  · rename_i S' l
    split at h
    · rename_i hS
      subst hS
      injection h with h; subst h
      simp only [VRel] at hx
      obtain ⟨p, n, c, rfl, rfl, hc, hx⟩ := hx
      rcases hx with rfl | ⟨b, off, rfl, hF, hrow⟩
      · exact ⟨[], src_empty⟩
      · exact src_addr hrow
    · cases h
  · rename_i id ver
    split at h
    · rename_i S' ver' l hm
      split at h
      · rename_i hc
        obtain ⟨rfl, rfl⟩ := hc
        injection h with h; subst h
        simp only [VRel] at hx
        obtain ⟨p, n, c, rfl, hid, hver, hx⟩ := hx
        obtain ⟨a1, a2, a3, a4, a5⟩ := hi.ent _ _ hm
        obtain ⟨rfl, rfl, rfl⟩ := hx a1
        rw [a3]
        rcases a5 with a5 | ⟨b', cs, T, hb', hF, hblk, hsz, hrow⟩
        · have : l = [] := List.eq_nil_of_length_eq_zero (by omega)
          subst this
          exact ⟨[], src_empty⟩
        · rw [hb']
          exact src_addr hrow
      · cases h
    · cases h
  · rename_i id ver lo n
    split at h
    · rename_i S' ver' l hm
      split at h
      · rename_i hc
        obtain ⟨rfl, rfl, hle⟩ := hc
        injection h with h; subst h
        simp only [VRel] at hx
        obtain ⟨p, c, rfl, hnc, hid, hver, hx⟩ := hx
        obtain ⟨a1, a2, a3, a4, a5⟩ := hi.ent _ _ hm
        have hlen : ((l.drop lo).take n).length = n := by simp; omega
        rcases hx a1 with rfl | ⟨b, hb, rfl⟩
        · simp; exact ⟨[], src_empty⟩
        · rcases a5 with a5 | ⟨b', cs, T, hb', hF, hblk, hsz, hrow⟩
          · rw [a5.1] at hb; cases hb
          · rw [hb] at hb'; injection hb' with hb'; subst hb'
            have := src_addr (P := P) (c := c) (rowAt_take (rowAt_drop hrow lo) n)
            rw [hlen, Nat.zero_add] at this
            rw [a2]
            exact this
      · cases h
    · cases h
  · cases h

theorem run_app_none {t ty e : TypeId} {i : TypeInfo} (ht : P.underlying t = some (.slice e)) (hi : P.info? e = some i) {S : Nat} {u : Value} {news : List Value} (hu : Src P G w S [] u news) (hS : i.size = S) :
    (Builtin.append_ #[t, t] ty #[.slice none 0 0, u]).run P w = .ok (.slice none 0 0) w := by
  obtain ⟨p, c, rfl⟩ := hu.form
  have hr := hu.run w rfl
  subst hS
  simp only [List.length_nil] at hr
  simp [Builtin.append_, run_underlying ht, sizeOf, typeInfo, hi, Builtin.lenOf, hr]

theorem run_app_room {t ty e : TypeId} {i : TypeInfo} (ht : P.underlying t = some (.slice e)) (hi : P.info? e = some i) {S : Nat} {r : List D} {u : Value} {news : List Value} (hu : Src P G w S r u news) (hS : i.size = S)
    {g sLen sCap : Nat} {cur : Array Value} {T : TypeId} (hg : w.heap[g]? = some (.cells cur T (0, 0))) (hroom : sLen + r.length ≤ sCap) (hfit : sLen * S + news.length ≤ cur.size) :
    (Builtin.append_ #[t, t] ty #[.slice (some ⟨g, 0, none⟩) sLen sCap, u]).run P w =
      .ok (.slice (some ⟨g, 0, none⟩) (sLen + r.length) sCap) (w.setRow g (cur.toList.take (sLen * S) ++ news ++ cur.toList.drop (sLen * S + news.length)).toArray) := by
  obtain ⟨p, c, rfl⟩ := hu.form
  have hr := hu.run w rfl
  subst hS
  have hst := run_storeCells_at P g (sLen * i.size) T news 0 cur w hg (by simpa using hfit) (fun v hv => by rw [one_eq]; exact hu.ones v hv)
  simp only [Nat.add_zero] at hst
  simp [Builtin.append_, run_underlying ht, sizeOf, typeInfo, hi, Builtin.lenOf, hroom, hr, addr_add, hst]

theorem run_app_grow {t ty e : TypeId} {i : TypeInfo} {z : Value} (ht : P.underlying t = some (.slice e)) (hi : P.info? e = some i) (hz : i.zero = some z) {S : Nat} {r l : List D} {u x : Value} {news olds : List Value} (hu : Src P G w S r u news) (hx : Src P G w S l x olds) (hS : i.size = S)
    {p : Option Addr} {sCap : Nat} (hxe : x = .slice p l.length sCap) (hroom : sCap < l.length + r.length) (hb : (l.length + r.length) * i.bytes ≤ 140737488355328) (h63 : l.length + r.length ≤ 9223372036854775807) :
    (Builtin.append_ #[t, t] ty #[x, u]).run P w =
      .ok (.slice (some ⟨w.heap.size, 0, none⟩) (l.length + r.length) (grownCap w (l.length + r.length) sCap e))
        (w.drew.alloc (.cells (olds.toArray ++ news.toArray ++ Builtin.zeroCells z.cells (grownCap w (l.length + r.length) sCap e - (l.length + r.length))) e)) := by
  obtain ⟨q, c, rfl⟩ := hu.form
  subst hxe
  have hr := hu.run w.drew rfl
  have hr' := hx.run w.drew rfl
  subst hS
  have hn : ¬ (l.length + r.length ≤ sCap) := by omega
  have h63' : ¬ (9223372036854775807 < ((l.length : Int) + (r.length : Int))) := by omega
  have hfit := growslice_fits (old := sCap) hroom hb
  have h48' : ¬ (281474976710656 < Builtin.nextslicecap (l.length + r.length) sCap * i.bytes) := by omega
  simp [Builtin.append_, run_underlying ht, sizeOf, typeInfo, zeroValue, hi, hz, Builtin.lenOf, hn, h63', h48', Question.forced, hr, hr', newRow, grownCap]
  congr 2
  apply Array.ext'
  simp [List.append_assoc]

theorem RowIn.append {S : Nat} {l r : List D} {olds news : List Value} (h1 : RowIn G w S l olds.toArray) (h2 : RowIn G w S r news.toArray) (hl : olds.length = l.length * S) (rest : Array Value) :
    RowIn G w S (l ++ r) (olds.toArray ++ news.toArray ++ rest) := by
  intro i d hd
  rw [List.getElem?_append] at hd
  split at hd
  · rename_i hi
    obtain ⟨u, g1, g2, g3⟩ := h1 i d hd
    refine ⟨u, g1, g2, fun j c hc => ⟨(g3 j c hc).1, ?_⟩⟩
    have := (g3 j c hc).2
    have hlt : i * S + j < olds.length := by
      have := (Array.getElem?_eq_some_iff.1 this).1
      simpa using this
    rw [Array.append_assoc, Array.getElem?_append_left (by simpa using hlt)]
    exact this
  · rename_i hi
    obtain ⟨u, g1, g2, g3⟩ := h2 (i - l.length) d hd
    refine ⟨u, g1, g2, fun j c hc => ⟨(g3 j c hc).1, ?_⟩⟩
    have := (g3 j c hc).2
    have hlt : (i - l.length) * S + j < news.length := by
      have := (Array.getElem?_eq_some_iff.1 this).1
      simpa using this
    have hge : l.length * S ≤ i * S := Nat.mul_le_mul_right S (by omega)
    have hidx : i * S + j - olds.length = (i - l.length) * S + j := by rw [hl, Nat.sub_mul]; omega
    rw [Array.getElem?_append_left (by simp; omega), Array.getElem?_append_right (by simp; omega)]
    simp only [List.size_toArray, hidx]
    exact this

theorem own_upd {b : Option Nat} {id V N C : Nat} {w' : World} (hid : id < G.n) : VRel (G.upd id b V N C) w' (.own id V) (.slice (b.map fun b => ⟨b, 0, none⟩) N C) := by
  simp only [VRel]
  exact ⟨_, _, _, rfl, hid, by simp [Gh.upd], fun _ => ⟨by simp [Gh.upd], by simp [Gh.upd], by simp [Gh.upd]⟩⟩

theorem own_newB {b : Option Nat} {S N C : Nat} {w' : World} (hn : G.n = s.m.length) : VRel (G.add b S N C) w' (.own s.m.length 0) (.slice (b.map fun b => ⟨b, 0, none⟩) N C) := by
  simp only [VRel]
  exact ⟨_, _, _, rfl, by simp [Gh.add, hn], Nat.zero_le _, fun _ => ⟨by simp [Gh.add, hn], by simp [Gh.add, hn], by simp [Gh.add, hn]⟩⟩

theorem grownCap_need (w : World) (need old : Nat) (e : TypeId) : need ≤ grownCap w need old e := grownCap_ge w need old e

theorem size_zeros (z : Array Value) (n : Nat) : (Builtin.zeroCells z n).size = n * z.size := size_zeroCells z n

theorem g_append (hr : Rel G w a s) {t e : TypeId} {i : TypeInfo} {z : Value} {x y : Operand} {o : Oper} (ho : o.op = .call { callee := .builtin .append, args := #[x, y], argTypes := #[t, t] })
    (ht : P.underlying t = some (.slice e)) (hi : P.info? e = some i) (hz : zeroOf P e = some z) (hb0 : 0 < i.bytes) (he : evalI s (.append i.size i.bytes x y) = some (d, m')) :
    Good G w s.m ((execOp a.eval o).run P w) d m' := by
  obtain ⟨hz1, hz2, hz3, i', hi', hsz, hzz⟩ := run_zero hz w
  rw [hi] at hi'
  injection hi' with hi'
  subst hi'
  have hx := hr.ev x
  have hy := hr.ev y
  simp only [evalI] at he
  unfold execOp
  simp only [ho]
  generalize s.ev x = dx at *
  generalize s.ev y = dy at *
  split at he
  · rename_i r hcont
    obtain ⟨news, hu⟩ := contents_src (P := P) hr.inv hy hcont
    have lift : ∀ v w', (Builtin.append_ #[t, t] o.type #[a.eval x, a.eval y]).run P w = .ok v w' →
        (Sem.run P (do let d ← resolve a.eval { callee := .builtin .append, args := #[x, y], argTypes := #[t, t] } o.type; invoke d.target d.args) w) = .ok (.value v) w' := by
      intro v w' h
      simp [resolve, invoke, builtin, h]
    have b47 : (2 : Nat) ^ 47 = 140737488355328 := by decide
    split at he
    · split at he
      · rename_i hbytes
        injection he with he
        injection he with h1 h2
        subst h1; subst h2
        simp only [VRel] at hx
        by_cases hr0 : r = []
        · subst hr0
          have hrun := run_app_none (w := w) (ty := o.type) ht hi hu rfl
          rw [← hx] at hrun
          have hadd := add_good (w' := w) hr.inv none i.size 0 0 (.live i.size 0 []) rfl rfl rfl rfl (Nat.le_refl _) (fun _ _ => rfl) (fun k h => by cases h)
            ⟨by simp [Gh.add], by simp [Gh.add], by simp [Gh.add], by simp, .inl ⟨by simp [Gh.add], by simp [Gh.add]⟩⟩
          refine ⟨_, _, _, lift _ _ hrun, .inl ⟨_, rfl, ?_⟩, hadd.1, hadd.2⟩
          rw [hx]
          exact own_newB (b := none) hr.inv.n
        · have hpos : 0 < r.length := List.length_pos_iff.2 hr0
          have hmul : r.length ≤ r.length * i.bytes := Nat.le_mul_of_pos_right _ hb0
          have hrun := run_app_grow (w := w) (ty := o.type) ht hi hzz (l := []) hu src_empty rfl (p := none) (sCap := 0) rfl (by simpa using hpos) (by simp; omega) (by simp; omega)
          simp only [List.length_nil, Nat.zero_add] at hrun
          rw [← hx] at hrun
          have hcap := grownCap_need w r.length 0 e
          have hrow : RowIn G w i.size r ([].toArray ++ news.toArray ++ Builtin.zeroCells z.cells (grownCap w r.length 0 e - r.length)) := RowIn.append (l := []) (rowIn_nil _ _) hu.row (by simp) _
          have hd := (Same.drew w).inv hr.inv
          obtain ⟨g1, g2⟩ := alloc_good hd i.size r (grownCap w r.length 0 e) _ e (hrow.mono ((Same.drew w).le G)) hcap (by
            simp only [Array.size_append, List.size_toArray, List.length_nil, Nat.zero_add, hu.len, size_zeros, ← hsz]
            rw [← Nat.add_mul]
            exact Nat.mul_le_mul_right _ (by omega))
          refine ⟨_, _, _, lift _ _ hrun, .inl ⟨_, rfl, ?_⟩, g1, ((Same.drew w).step G s.m).trans g2⟩
          exact own_newB (b := some w.heap.size) hr.inv.n
      · cases he
    · rename_i id ver
      split at he
      · rename_i S' ver' l hm
        split at he
        · rename_i hc
          obtain ⟨rfl, rfl, hbytes⟩ := hc
          injection he with he
          injection he with h1 h2
          subst h1; subst h2
          have hcx : contents i.size s.m (.own id ver') = some l := by simp [contents, hm]
          obtain ⟨olds, hsx⟩ := contents_src (P := P) hr.inv hx hcx
          simp only [VRel] at hx
          obtain ⟨p, n, c, hp, hid, hver, hx⟩ := hx
          obtain ⟨a1, a2, a3, a4, a5⟩ := hr.inv.ent _ _ hm
          obtain ⟨rfl, rfl, rfl⟩ := hx a1
          have hmul : l.length + r.length ≤ (l.length + r.length) * i.bytes := Nat.le_mul_of_pos_right _ hb0
          by_cases hroom : l.length + r.length ≤ G.C id
          · rcases a5 with a5 | ⟨b', cs, T, hb', hF, hblk, hcs, hrow⟩
            · -- nothing is there and nothing comes
              have hl0 : l = [] := List.eq_nil_of_length_eq_zero (by omega)
              have hr0 : r = [] := List.eq_nil_of_length_eq_zero (by omega)
              subst hl0; subst hr0
              have hrun := run_app_none (w := w) (ty := o.type) ht hi hu rfl
              have hxe : a.eval x = .slice none 0 0 := by rw [hp, a5.1, a3, a5.2]; rfl
              rw [← hxe] at hrun
              have key := change_good (w' := w) hr.inv (e' := .live i.size (ver' + 1) ([] ++ [])) hm rfl rfl none (ver' + 1) 0 0 (.inl (by omega)) rfl rfl rfl (Nat.le_refl _) (fun _ _ _ => rfl) (fun k h => by cases h)
                ⟨by simp [Gh.upd], by simpa [Gh.upd] using a2, by simp [Gh.upd], by simp, .inl ⟨by simp [Gh.upd], by simp [Gh.upd]⟩⟩
              exact ⟨_, _, _, lift _ _ hrun, .inl ⟨_, rfl, by rw [hxe]; exact own_upd (b := none) hid⟩, key.1, key.2⟩
            · -- behind what is there
              have hmulC := Nat.mul_le_mul_right i.size hroom
              rw [Nat.add_mul] at hmulC
              have hfit : l.length * i.size + news.length ≤ cs.size := by rw [hu.len]; omega
              have hrun := run_app_room (ty := o.type) ht hi hu rfl (sLen := l.length) (sCap := G.C id) hblk hroom hfit
              have hxe : a.eval x = .slice (some ⟨b', 0, none⟩) l.length (G.C id) := by rw [hp, hb', a3]; rfl
              rw [← hxe] at hrun
              obtain ⟨cs', hcs'⟩ : ∃ cs' : Array Value, cs' = (cs.toList.take (l.length * i.size) ++ news ++ cs.toList.drop (l.length * i.size + news.length)).toArray := ⟨_, rfl⟩
              rw [← hcs'] at hrun
              have hget : ∀ k, cs'[k]? = if l.length * i.size ≤ k ∧ k < l.length * i.size + news.length then news[k - l.length * i.size]? else cs[k]? := by
                intro k
                rw [hcs', List.getElem?_toArray, splice_get _ _ _ _ (by rw [Array.length_toList]; omega)]
                simp only [Array.getElem?_toList]
              have hsz' : cs'.size = cs.size := by
                have e1 := List.length_take (i := l.length * i.size) (l := cs.toList)
                have e2 := List.length_drop (i := l.length * i.size + news.length) (l := cs.toList)
                have e3 := Array.length_toList (xs := cs)
                rw [hcs', List.size_toArray, List.length_append, List.length_append]; omega
              have hkeep : ∀ k, G.B id ≠ some k → (w.setRow b' cs').heap[k]? = w.heap[k]? := fun k hk => setRow_other w b' k cs' fun h => hk (by rw [h]; exact hb')
              have hle : Le G w (G.upd id (some b') (ver' + 1) (l.length + r.length) (G.C id)) (w.setRow b' cs') := by
                refine ⟨fun _ h => h, fun k hk => hkeep k fun h => by rw [hb'] at h; injection h with h; subst h; exact hF hk, Nat.le_refl _, fun j _ => ?_⟩
                by_cases h : j = id
                · subst h; exact .inr (by simp [Gh.upd]; omega)
                · exact .inl (by simp [Gh.upd, h])
              have hblk' := setRow_heap w b' cs cs' T (0, 0) hblk
              have hin := rowIn_of_rowAt hblk hrow
              have hrow' : RowIn G w i.size (l ++ r) cs' := by
                intro j q hq
                rw [List.getElem?_append] at hq
                split at hq
                · rename_i hj
                  obtain ⟨u, g1, g2, g3⟩ := hin j q hq
                  refine ⟨u, g1, g2, fun k c hk => ⟨(g3 k c hk).1, ?_⟩⟩
                  have hks : k < i.size := by rw [← g2]; exact (Array.getElem?_eq_some_iff.1 hk).1
                  have hmj := Nat.mul_le_mul_right i.size (show j + 1 ≤ l.length from hj)
                  rw [Nat.add_mul] at hmj
                  rw [hget, if_neg (by omega)]
                  exact (g3 k c hk).2
                · rename_i hj
                  obtain ⟨u, g1, g2, g3⟩ := hu.row (j - l.length) q hq
                  refine ⟨u, g1, g2, fun k c hk => ⟨(g3 k c hk).1, ?_⟩⟩
                  have hk' := (g3 k c hk).2
                  have hlt : (j - l.length) * i.size + k < news.length := by simpa using (Array.getElem?_eq_some_iff.1 hk').1
                  have hge : l.length * i.size ≤ j * i.size := Nat.mul_le_mul_right i.size (by omega)
                  have hidx : j * i.size + k - l.length * i.size = (j - l.length) * i.size + k := by rw [Nat.sub_mul]; omega
                  rw [hget, if_pos (by omega), hidx]
                  simpa using hk'
              have key := change_good (w' := w.setRow b' cs') hr.inv (e' := .live i.size (ver' + 1) (l ++ r)) hm rfl rfl (some b') (ver' + 1) (l.length + r.length) (G.C id) (.inl (by omega)) rfl rfl rfl
                (by rw [size_setRow']; exact Nat.le_refl _) (fun k _ hk => hkeep k hk) (fun k hk => .inl (by rw [hb']; exact hk))
                ⟨by simp [Gh.upd], by simpa [Gh.upd] using a2, by simp [Gh.upd], by simpa [Gh.upd] using hroom, .inr ⟨b', cs', T, by simp [Gh.upd], hF, hblk', by simpa [Gh.upd, hsz'] using hcs, rowAt_of_rowIn hblk' (hrow'.mono hle)⟩⟩
              exact ⟨_, _, _, lift _ _ hrun, .inl ⟨_, rfl, own_upd (b := some b') hid⟩, key.1, key.2⟩
          · -- a new block
            have hrun := run_app_grow (w := w) (ty := o.type) ht hi hzz hu hsx rfl (sCap := G.C id) (by rw [hp, a3]) (by omega) (by omega) (by omega)
            have hcap := grownCap_need w (l.length + r.length) (G.C id) e
            have hrow : RowIn G w i.size (l ++ r) (olds.toArray ++ news.toArray ++ Builtin.zeroCells z.cells (grownCap w (l.length + r.length) (G.C id) e - (l.length + r.length))) := RowIn.append hsx.row hu.row hsx.len _
            generalize hcells : (olds.toArray ++ news.toArray ++ Builtin.zeroCells z.cells (grownCap w (l.length + r.length) (G.C id) e - (l.length + r.length))) = cells at hrow hrun
            have hcsz : grownCap w (l.length + r.length) (G.C id) e * i.size ≤ cells.size := by
              rw [← hcells]
              simp only [Array.size_append, List.size_toArray, hu.len, hsx.len, size_zeros, ← hsz]
              rw [← Nat.add_mul, ← Nat.add_mul]
              exact Nat.mul_le_mul_right _ (by omega)
            have hkeep : ∀ k, k < w.heap.size → (w.drew.alloc (.cells cells e)).heap[k]? = w.heap[k]? := fun k hk => Below.heap_alloc w.drew _ _ hk
            have hblk' : (w.drew.alloc (.cells cells e)).heap[w.heap.size]? = some (.cells cells e (0, 0)) := heap_alloc_new w.drew _
            have hle : Le G w (G.upd id (some w.heap.size) (ver' + 1) (l.length + r.length) (grownCap w (l.length + r.length) (G.C id) e)) (w.drew.alloc (.cells cells e)) := by
              refine ⟨fun _ h => h, fun k hk => hkeep k (hr.inv.F k hk), Nat.le_refl _, fun j _ => ?_⟩
              by_cases h : j = id
              · subst h; exact .inr (by simp [Gh.upd]; omega)
              · exact .inl (by simp [Gh.upd, h])
            have key := change_good (w' := w.drew.alloc (.cells cells e)) hr.inv (e' := .live i.size (ver' + 1) (l ++ r)) hm rfl rfl (some w.heap.size) (ver' + 1) (l.length + r.length) (grownCap w (l.length + r.length) (G.C id) e)
              (.inl (by omega)) rfl rfl rfl (by simp) (fun k hk _ => hkeep k hk) (fun k hk => .inr (by injection hk with hk; omega))
              ⟨by simp [Gh.upd], by simpa [Gh.upd] using a2, by simp [Gh.upd], by simpa [Gh.upd] using hcap, .inr ⟨w.heap.size, cells, e, by simp [Gh.upd], fun hF => by have := hr.inv.F _ hF; omega, hblk', by simpa [Gh.upd] using hcsz, rowAt_of_rowIn hblk' (hrow.mono hle)⟩⟩
            exact ⟨_, _, _, lift _ _ hrun, .inl ⟨_, rfl, own_upd (b := some w.heap.size) hid⟩, key.1, key.2⟩
        · cases he
      · cases he
    · cases he
  · cases he
end
end Go.Tm
