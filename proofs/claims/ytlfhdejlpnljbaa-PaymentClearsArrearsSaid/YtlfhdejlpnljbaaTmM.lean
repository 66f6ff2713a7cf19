/-
  The instructions together; regions; code; functions.
-/
import Derived.Test.YtlfhdejlpnljbaaTmJ
import Derived.Tactics
set_option linter.unusedSimpArgs false
set_option linter.unusedVariables false
namespace Go.Tm
open Go.RowKit (Below)
section
variable {P : Program} {G : Gh} {w : World} {a : Act} {s : St} {d : D} {m' : List Ent}

theorem sound_I {o : Oper} {i : I} (hc : compI P o.op = some i) (hr : Rel G w a s) (he : evalI s i = some (d, m')) : Good G w s.m ((execOp a.eval o).run P w) d m' := by
  unfold compI at hc
  split at hc
  case h_1 x ho => injection hc with hc; subst hc; exact g_mv hr (.inl ho) he
  case h_2 x ho => injection hc with hc; subst hc; exact g_mv hr (.inr ho) he
  case h_3 c x y ho => injection hc with hc; subst hc; exact g_pick hr ho he
  case h_4 t ho =>
    simp only [Option.map_eq_some_iff] at hc
    obtain ⟨z, hz, rfl⟩ := hc
    exact g_alloc hr ho hz he
  case h_5 t x ho => injection hc with hc; subst hc; exact g_box hr ho he
  case h_6 t ps ho =>
    split at hc
    · rename_i fs z ht hz
      split at hc
      · rename_i places hp
        simp only [Option.map_eq_some_iff] at hc
        obtain ⟨qs, hq, rfl⟩ := hc
        exact g_build hr ho ht hz hp hq he
      · cases hc
    · rename_i n e z ht hz
      simp only [Option.map_eq_some_iff] at hc
      obtain ⟨i, hi, rfl⟩ := hc
      exact g_buildA hr ho ht hz hi he
    · cases hc
  case h_7 t n ps ho =>
    split at hc
    · rename_i e ht
      split at hc
      · rename_i z hz
        split at hc
        · rename_i hs
          injection hc with hc; subst hc
          exact g_bslice hr ho ht hz hs he
        · cases hc
      · cases hc
    · cases hc
  case h_8 t x ho =>
    simp only [Option.map_eq_some_iff] at hc
    obtain ⟨r, hs, rfl⟩ := hc
    exact g_load hr ho hs he
  case h_9 t x y ho =>
    simp only [Option.map_eq_some_iff] at hc
    obtain ⟨i, hi, rfl⟩ := hc
    exact g_store hr ho hi he
  case h_10 x ho => injection hc with hc; subst hc; exact g_nilc hr ho he
  case h_11 op t x y yt ho =>
    split at hc
    · rename_i ht
      split at hc
      · rename_i h; subst h; injection hc with hc; subst hc; exact g_beq hr ho ht (.inl ⟨rfl, rfl⟩) he
      · split at hc
        · rename_i h; subst h; injection hc with hc; subst hc; exact g_beq hr ho ht (.inr ⟨rfl, rfl⟩) he
        · cases hc
    · rename_i fs ht
      split at hc
      · rename_i h
        split at hc
        · rename_i ks hk
          injection hc with hc; subst hc
          exact g_ceq hr ho ht h.1 h.2.1 h.2.2 hk he
        · cases hc
      · cases hc
    · injection hc with hc; subst hc; exact g_bin hr ho he
    · cases hc
  case h_12 op t x ho => injection hc with hc; subst hc; exact g_un hr ho he
  case h_13 src dst x ho =>
    split at hc
    · rename_i j k h1 h2; injection hc with hc; subst hc; exact g_conv hr ho h1 h2 he
    · rename_i e e' h1 h2
      split at hc
      · rename_i i h3 h4
        split at hc
        · rename_i h5
          subst h5
          injection hc with hc; subst hc
          exact g_strb hr ho h2 h3 he
        · cases hc
      · cases hc
    · cases hc
  case h_14 f first caps ho => injection hc with hc; subst hc; exact g_mkfunc hr ho he
  case h_15 t l c ho =>
    split at hc
    · rename_i e ht
      split at hc
      · rename_i z hz; injection hc with hc; subst hc; exact g_mkslice hr ho ht hz he
      · cases hc
    · cases hc
  case h_16 t x lo hi mx ho =>
    split at hc
    · rename_i e ht
      split at hc
      · cases hc
      · rename_i hm
        simp only [Option.map_eq_some_iff] at hc
        obtain ⟨i, hi', rfl⟩ := hc
        refine g_slice hr ho ht hi' (fun h => ?_) he
        cases hi with
        | none => simp [h] at hm
        | some _ => rfl
    · rename_i ht
      split at hc
      · cases hc
      · rename_i hm
        injection hc with hc; subst hc
        cases mx with
        | some _ => simp at hm
        | none => exact g_sslice hr ho ht he
    · cases hc
  case h_17 t x f ho =>
    split at hc
    · rename_i fs ht
      split at hc
      · rename_i fl hf
        split at hc
        · rename_i r hs
          split at hc
          · rename_i h0
            injection hc with hc; subst hc
            exact g_faddr hr ho ht hf hs h0 he
          · cases hc
        · cases hc
      · cases hc
    · cases hc
  case h_18 t x f ho =>
    split at hc
    · rename_i fs ht
      split at hc
      · rename_i fl hf
        simp only [Option.map_eq_some_iff] at hc
        obtain ⟨r, hs, rfl⟩ := hc
        exact g_field hr ho ht hf hs he
      · cases hc
    · cases hc
  case h_19 t x y ho =>
    split at hc
    · rename_i e ht
      simp only [Option.map_eq_some_iff] at hc
      obtain ⟨i, hi, rfl⟩ := hc
      exact g_iaddr hr ho ht hi he
    · rename_i n e ht
      simp only [Option.map_eq_some_iff] at hc
      obtain ⟨r, hs, rfl⟩ := hc
      exact g_aaddr hr ho ht hs he
    · cases hc
  case h_20 t x y ho =>
    split at hc
    · rename_i n e ht
      simp only [Option.map_eq_some_iff] at hc
      obtain ⟨r, hs, rfl⟩ := hc
      exact g_index hr ho ht hs he
    · rename_i ht; injection hc with hc; subst hc; exact g_sidx hr ho ht he
    · cases hc
  case h_21 x i ho => injection hc with hc; subst hc; exact g_extract hr ho he
  case h_22 => injection hc with hc; subst hc; simp [evalI] at he
  case h_23 t ho => injection hc with hc; subst hc; exact g_mkmap hr ho he
  case h_24 t x k ok ho =>
    split at hc
    · rename_i kt et ht
      split at hc
      · rename_i K z hK hz
        injection hc with hc; subst hc
        exact g_mlook hr ho ht hK hz he
      · cases hc
    · cases hc
  case h_25 t m k x ho =>
    split at hc
    · rename_i kt et ht
      simp only [Option.map_eq_some_iff] at hc
      obtain ⟨K, hK, rfl⟩ := hc
      exact g_mput hr ho ht hK he
    · cases hc
  case h_26 c ho =>
    obtain ⟨cal, args, tys⟩ := c
    have ha : args = args.toList.toArray := by simp
    have hty : tys = tys.toList.toArray := by simp
    simp only at hc
    split at hc
    · rename_i x t h2 h3
      rw [h2] at ha
      rw [h3] at hty
      subst ha; subst hty
      split at hc
      · rename_i e ht; injection hc with hc; subst hc; exact g_len hr ho ht he
      · rename_i ht; injection hc with hc; subst hc; exact g_slen hr ho ht he
      · rename_i kt et ht; injection hc with hc; subst hc; exact g_mlen hr ho ht he
      · cases hc
    · injection hc with hc; subst hc
      exact g_mm (isMax := true) hr ho he
    · injection hc with hc; subst hc
      exact g_mm (isMax := false) hr ho he
    · rename_i x y t u h2 h3
      rw [h2] at ha
      rw [h3] at hty
      subst ha; subst hty
      split at hc
      · rename_i e e' ht hu
        split at hc
        · rename_i htu
          subst htu
          split at hc
          · rename_i i z hi hz
            split at hc
            · rename_i hb
              injection hc with hc; subst hc
              exact g_append hr ho ht hi hz hb he
            · cases hc
          · cases hc
        · cases hc
      · cases hc
    · cases hc
  case h_27 => cases hc

/-- The function has a body that a call enters. -/
def Enters (P : Program) (f : FuncId) : Prop := ∃ fn, P.funcs[f]? = some fn ∧ (fn.name == "runtime.NumGoroutine") = false ∧ fn.body.isNone = false

/-- What a call of function f at these trees and resources comes to. -/
def CallT (P : Program) (f : FuncId) (ds : List D) (m : List Ent) (R : D → List Ent → Prop) : Prop :=
  Enters P f ∧ ∀ (G : Gh) (w : World) (vs : List Value), VsRel G w ds vs → Inv G w m →
    Calls P f vs.toArray w fun e w' => ∃ v d m' G', e = .returned v ∧ R d m' ∧ VRel G' w' d v ∧ Inv G' w' m' ∧ Step G w m G' w' m'

theorem CallT.mono {f : FuncId} {ds : List D} {m : List Ent} {R R' : D → List Ent → Prop} (h : CallT P f ds m R) (hR : ∀ d m', R d m' → R' d m') : CallT P f ds m R' :=
  ⟨h.1, fun G w vs hv hi => (h.2 G w vs hv hi).mono fun _ _ ⟨v, d, m', G', h1, h2, h3⟩ => ⟨v, d, m', G', h1, hR _ _ h2, h3⟩⟩

/-- Is the operation behind the guard carried out: yes, no, or not known. -/
def gate (s : St) : Option (Tmp × Bool) → Option (Option (Bool × Bool))
  | none => some none
  | some (t, b) =>
    match s.t.getD t .dead with
    | .v (.bool c) => some (some (c, b))
    | .v _ => some (some (!b, b))
    | _ => none

/-- A region's operations, one after the other. -/
def RegT (P : Program) : List RI → (St → Prop) → St → Prop
  | [], K, s => K s
  | .op dst g i :: l, K, s =>
    match gate s g with
    | none => False
    | some none => ∃ d m', evalI s i = some (d, m') ∧ RegT P l K ({ s with m := m' }.put dst d)
    | some (some (c, b)) => (c = b → ∃ d m', evalI s i = some (d, m') ∧ RegT P l K ({ s with m := m' }.put dst d)) ∧ (c ≠ b → RegT P l K (s.put dst (.v undef)))
  | .call dst g f args :: l, K, s =>
    match s.ev f with
    | .fn k first caps =>
      match gate s g with
      | none => False
      | some none => CallT P k (first ++ args.map s.ev ++ caps) s.m fun d m' => RegT P l K ({ s with m := m' }.put dst d)
      | some (some (c, b)) => (c = b → CallT P k (first ++ args.map s.ev ++ caps) s.m fun d m' => RegT P l K ({ s with m := m' }.put dst d)) ∧ (c ≠ b → RegT P l K (s.put dst (.v undef)))
    | _ => False

theorem gate_wanted {ops : Array Oper} (hr : Rel G w a s) {g : Option (Nat × Bool)} {g' : Option (Tmp × Bool)} (hg : guardOf ops g = some g') :
    (gate s g' = some none → ∀ o : Oper, o.guard = g → Region.wanted o (yielded ops a.tmps) = true) ∧
    (∀ c b, gate s g' = some (some (c, b)) → ∀ o : Oper, o.guard = g → Region.wanted o (yielded ops a.tmps) = (c == b)) := by
  cases g with
  | none =>
    simp only [guardOf] at hg
    injection hg with hg
    subst hg
    exact ⟨fun _ o ho => by simp [Region.wanted, ho], fun c b h => by simp [gate] at h⟩
  | some p =>
    obtain ⟨j, b⟩ := p
    simp only [guardOf] at hg
    split at hg
    · rename_i t ht
      injection hg with hg
      subst hg
      have hx := VsRel.get t hr.t
      refine ⟨fun h => ?_, fun c b' h o ho => ?_⟩
      · simp only [gate] at h
        split at h <;> first | cases h | (injection h with h; cases h)
      · have hy : yielded ops a.tmps j = (match a.tmps[t]? with | some (.bool b) => some b | _ => none) := by
          unfold yielded
          rw [ht]
          rfl
        simp only [Region.wanted, ho, hy]
        simp only [gate] at h
        have hlen := hr.t.length
        split at h
        · rename_i c' hd
          injection h with h; injection h with h; injection h with h1 h2
          subst h1; subst h2
          rw [hd] at hx
          simp only [VRel] at hx
          have hlt : t < a.tmps.size := by
            rcases Nat.lt_or_ge t a.tmps.size with h | h
            · exact h
            · rw [List.getD_eq_getElem?_getD, List.getElem?_eq_none (by rw [← hlen]; simpa using h)] at hd
              simp at hd
          have : a.tmps[t]? = some (.bool c') := by
            rw [Array.getElem?_eq_getElem hlt]
            simpa [List.getD_eq_getElem?_getD, hlt] using hx
          rw [this]
          cases c' <;> cases b <;> rfl
        · rename_i x hne hd
          injection h with h; injection h with h; injection h with h1 h2
          subst h1; subst h2
          rw [hd] at hx
          simp only [VRel] at hx
          have hlt : t < a.tmps.size := by
            rcases Nat.lt_or_ge t a.tmps.size with h | h
            · exact h
            · rw [List.getD_eq_getElem?_getD, List.getElem?_eq_none (by rw [← hlen]; simpa using h)] at hd
              simp at hd
          have : a.tmps[t]? = some x := by
            rw [Array.getElem?_eq_getElem hlt]
            simpa [List.getD_eq_getElem?_getD, hlt] using hx
          rw [this]
          cases x <;> first | (cases b <;> rfl) | exact (hne _ rfl).elim
        · cases h
    · cases hg

theorem rel_skip (hr : Rel G w a s) (dst : Option Tmp) : Rel G w (a.put dst undef) (s.put dst (.v undef)) := hr.put dst (by simp [VRel])

theorem Rel.good {r : Result Next} {o : Oper} {next : Act → World → Prop} {Q : Exit → Act → World → Prop} (hr : Rel G w a s) (hg : Good G w s.m r d m')
    (h : ∀ G' w' u, Rel G' w' (a.put o.dst u) ({ s with m := m' }.put o.dst d) → Step G w s.m G' w' m' → next (a.put o.dst u) w') : o.upon P a next Q r := by
  obtain ⟨nx, w', G', rfl, hnx, hi, hs⟩ := hg
  have hr' := hr.step hs.le hi
  rcases hnx with ⟨u, rfl, hv⟩ | ⟨rfl, rfl⟩
  · exact h G' w' u (hr'.put o.dst hv) hs
  · exact h G' w' undef (hr'.put o.dst (by simp [VRel])) hs

theorem vs_map (hr : Rel G w a s) : ∀ l : List Operand, VsRel G w (l.map s.ev) (l.map a.eval)
  | [] => by simp [VsRel]
  | x :: l => by simp only [List.map_cons, VsRel]; exact ⟨_, _, rfl, hr.ev x, vs_map hr l⟩

theorem put_m (s : St) (dst : Option Tmp) (d : D) : (s.put dst d).m = s.m := by cases dst <;> rfl

/-- A call's run: the function is entered. -/
theorem run_call {o : Oper} {f : Operand} {args : Array Operand} {tys : Array TypeId} (ho : o.op = .call ⟨.value f, args, tys⟩) {k : FuncId} {fs cs : List Value} (hf : a.eval f = .func (.func k) fs.toArray cs.toArray)
    {fn : Func} (hfn : P.funcs[k]? = some fn) (hname : (fn.name == "runtime.NumGoroutine") = false) (hbody : fn.body.isNone = false) :
    (execOp a.eval o).run P w = .ok (.enter k ((fs ++ args.toList.map a.eval ++ cs).toArray)) w := by
  unfold execOp
  simp only [ho]
  simp only [resolve, hf, Deferred.ofValue, Sem.run_bind, Sem.run_pure, Result.andThen_ok, invoke, callFunc, run_program, hfn, hname, hbody]
  simp only [Bool.false_eq_true, if_false, Sem.run_pure]
  congr 2
  apply Array.ext'
  simp

/-- A region's operations, carried out in the text's order. -/
theorem regT_sound {ops : Array Oper} {Q : Exit → Act → World → Prop} {K : St → Prop} : ∀ {l : List Oper} {rl : List RI} {s : St} {G : Gh} {w : World} {a : Act}, compOps P ops l = some rl → RegT P rl K s → Rel G w a s →
    (∀ s' G' w' a', K s' → Rel G' w' a' s' → Step G w s.m G' w' s'.m → Q .normal a' w') → wpList P ops Q l a w
  | [], rl, s, G, w, a, hc, hK, hr, hQ => by
    simp only [compOps] at hc
    injection hc with hc
    subst hc
    exact wpList_nil (hQ s G w a hK hr (Step.refl _ _ _))
  | o :: l, rl, s, G, w, a, hc, hK, hr, hQ => by
    simp only [compOps] at hc
    split at hc
    case h_2 => cases hc
    rename_i r rs h1 h2
    injection hc with hc
    subst hc
    -- the rest, once the operation is done
    have rest : ∀ {G' : Gh} {w' : World} {a' : Act} {s' : St}, RegT P rs K s' → Rel G' w' a' s' → Step G w s.m G' w' s'.m → wpList P ops Q l a' w' := fun hK' hr' hs' =>
      regT_sound h2 hK' hr' fun s'' G'' w'' a'' k1 k2 k3 => hQ s'' G'' w'' a'' k1 k2 (hs'.trans k3)
    unfold compOp at h1
    split at h1
    · cases h1
    · rename_i g hg
      obtain ⟨hgate1, hgate2⟩ := gate_wanted hr hg
      -- an instruction that is carried out
      have doI : ∀ {i : I} {d : D} {m' : List Ent}, compI P o.op = some i → evalI s i = some (d, m') → RegT P rs K ({ s with m := m' }.put o.dst d) → o.wp P a w (wpList P ops Q l) Q := by
        intro i d m' hi he hK'
        exact hr.good (sound_I hi hr he) fun G' w' u hr' hs' => rest hK' hr' (by rw [put_m]; exact hs')
      have skip : RegT P rs K (s.put o.dst (.v undef)) → wpList P ops Q l (a.put o.dst undef) w := fun hK' => rest hK' (rel_skip hr o.dst) (by rw [put_m]; exact Step.refl _ _ _)
      split at h1
      · rename_i f args tys ho
        injection h1 with h1
        subst h1
        simp only [RegT] at hK
        have hf := hr.ev f
        split at hK
        · rename_i k first caps hfe
          rw [hfe] at hf
          simp only [VRel] at hf
          obtain ⟨fs, cs, hfv, hv1, hv2⟩ := hf
          have doC : CallT P k (first ++ args.toList.map s.ev ++ caps) s.m (fun d m' => RegT P rs K ({ s with m := m' }.put o.dst d)) → o.wp P a w (wpList P ops Q l) Q := by
            rintro ⟨⟨fn, e1, e2, e3⟩, hcall⟩
            have hrun := run_call (P := P) (w := w) ho hfv e1 e2 e3
            have hcalls := hcall G w (fs ++ args.toList.map a.eval ++ cs) ((hv1.append (vs_map hr _)).append hv2) hr.inv
            unfold Oper.wp
            rw [hrun, Oper.upon_enter]
            refine hcalls.mono ?_
            rintro e w' ⟨v, d, m', G', rfl, hK', hvd, hi', hs'⟩
            exact rest hK' ((hr.step hs'.le hi').put o.dst hvd) (by rw [put_m]; exact hs')
          split at hK
          · exact hK.elim
          · rename_i hgt
            rw [wpList, if_pos (hgate1 hgt o rfl)]
            exact .inl (doC hK)
          · rename_i c b hgt
            rw [wpList, hgate2 c b hgt o rfl]
            by_cases hcb : c = b
            · rw [if_pos (by simp [hcb])]
              exact .inl (doC (hK.1 hcb))
            · rw [if_neg (by simp [hcb])]
              exact skip (hK.2 hcb)
        · exact hK.elim
      · rename_i op hno
        simp only [Option.map_eq_some_iff] at h1
        obtain ⟨i, hi, rfl⟩ := h1
        simp only [RegT] at hK
        split at hK
        · exact hK.elim
        · rename_i hgt
          obtain ⟨d, m', he, hK'⟩ := hK
          rw [wpList, if_pos (hgate1 hgt o rfl)]
          exact .inl (doI hi he hK')
        · rename_i c b hgt
          rw [wpList, hgate2 c b hgt o rfl]
          by_cases hcb : c = b
          · obtain ⟨d, m', he, hK'⟩ := hK.1 hcb
            rw [if_pos (by simp [hcb])]
            exact .inl (doI hi he hK')
          · rw [if_neg (by simp [hcb])]
            exact skip (hK.2 hcb)
end
end Go.Tm
