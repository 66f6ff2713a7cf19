/-
  recovery: configurations, balances, the limit, overpayments.
-/
import Derived.Test.YtlfhdejlpnljbaaMon4
import Derived.Test.YtlfhdejlpnljbaaAwk39
set_option linter.unusedSimpArgs false
set_option linter.unusedVariables false
set_option maxHeartbeats 2000000
namespace Go.Proofs.Ytlfhdejlpnljbaa
open Go.Tm
set_option maxRecDepth 10000

structure Cf where
  c0 : Int
  c1 : Int
  c2 : Int
  cap : Int
  floor : Int
  c5 : Int
  c6 : Int
  c7 : Int
structure Cf.Ok (c : Cf) : Prop where
  c0 : ok64 c.c0
  c1 : ok64 c.c1
  c2 : ok64 c.c2
  cap : ok64 c.cap
  floor : ok64 c.floor
  c5 : ok64 c.c5
  c6 : ok64 c.c6
  c7 : ok64 c.c7

/-- A configuration; x stands for the list of holidays. -/
def cfD (c : Cf) (x : D) : D := .agg [i64 c.c0, i64 c.c1, i64 c.c2, i64 c.cap, i64 c.floor, i64 c.c5, i64 c.c6, i64 c.c7, x]
theorem cf_free (c : Cf) {x : D} (hx : idfree x = true) : idfree (cfD c x) = true := by simp [cfD, idfree, idfrees, i64, hx]

structure Ba where
  m : Int
  d : Int
  r : Int
  w : Int
structure Ba.Ok (b : Ba) : Prop where
  m : ok64 b.m
  d : ok64 b.d
  r : ok64 b.r
  w : ok64 b.w
def baD (b : Ba) : D := .agg [i64 b.m, i64 b.d, i64 b.r, i64 b.w]
def basD (l : List Ba) : D := .sl 4 (l.map baD)
theorem bas_free : ∀ l : List Ba, idfrees (l.map baD) = true
  | [] => rfl
  | p :: l => by simp only [List.map_cons, idfrees, Bool.and_eq_true]; exact ⟨rfl, bas_free l⟩
theorem bas_get {l : List Ba} {i : Nat} (h : i < l.length) : (l.map baD)[i]? = some (.agg [.v (.int .i64 l[i].m), .v (.int .i64 l[i].d), .v (.int .i64 l[i].r), .v (.int .i64 l[i].w)]) := by
  rw [List.getElem?_map, List.getElem?_eq_getElem h]; rfl

theorem look_ba {ds : List D} (h : Look shPs ds) : ∃ p : Ba, p.Ok ∧ wrapD true ds = baD p := by
  simp only [shPs, Look, LookL] at h
  obtain ⟨_, _, rfl, ⟨a, rfl, ha⟩, _, _, rfl, ⟨b, rfl, hb⟩, _, _, rfl, ⟨c, rfl, hc⟩, _, _, rfl, ⟨d, rfl, hd⟩, rfl⟩ := h
  exact ⟨⟨a, b, c, d⟩, ⟨wf_i64 ha, wf_i64 hb, wf_i64 hc, wf_i64 hd⟩, rfl⟩

theorem arg_bas {d : D} (h : LookV false (.sl 4 true shPs) d) : ∃ l : List Ba, l.length < 2 ^ 63 ∧ (∀ p ∈ l, p.Ok) ∧ d = basD l := by
  obtain ⟨ds, h1, rfl⟩ := h
  simp only [Look] at h1
  obtain ⟨l, rfl, hl, h2⟩ := h1
  obtain ⟨ps, rfl, hok⟩ : ∃ ps : List Ba, l = ps.map baD ∧ ∀ p ∈ ps, p.Ok := list_of fun d hd => by
    obtain ⟨cs, h1, rfl⟩ := h2 d hd
    exact look_ba h1
  exact ⟨ps, by simp only [List.length_map, maxLen] at hl; omega, hok, rfl⟩

def shCf : Sh := .cat [.int .i64, .int .i64, .int .i64, .int .i64, .int .i64, .int .i64, .int .i64, .cat [.int .i64, .sl 1 false (.int .i64)]]
theorem arg_cf {d : D} (h : LookV true shCf d) : ∃ (c : Cf) (l : List D), c.Ok ∧ l.length < 2 ^ 63 ∧ idfrees l = true ∧ d = cfD c (.sl 1 l) := by
  obtain ⟨ds, h, rfl⟩ := h
  simp only [shCf, Look, LookL] at h
  obtain ⟨_, _, rfl, ⟨a, rfl, ha⟩, _, _, rfl, ⟨b, rfl, hb⟩, _, _, rfl, ⟨c, rfl, hc⟩, _, _, rfl, ⟨d, rfl, hd⟩, _, _, rfl, ⟨e, rfl, he⟩, _, _, rfl, ⟨f, rfl, hf⟩, _, _, rfl, ⟨g, rfl, hg⟩, _, _, rfl, ⟨_, _, rfl, ⟨i, rfl, hi⟩, _, _, rfl, ⟨l, rfl, hl, h2⟩, rfl⟩, rfl⟩ := h
  refine ⟨⟨a, b, c, d, e, f, g, i⟩, l, ⟨wf_i64 ha, wf_i64 hb, wf_i64 hc, wf_i64 hd, wf_i64 he, wf_i64 hf, wf_i64 hg, wf_i64 hi⟩, by simp only [maxLen] at hl; omega, ?_, rfl⟩
  rw [idfrees_iff]
  intro d hd
  obtain ⟨cs, ⟨n, rfl, _⟩, rfl⟩ := h2 d hd
  rfl

def i64s (l : List Int) : List D := l.map i64
theorem i64s_free : ∀ l : List Int, idfrees (i64s l) = true
  | [] => rfl
  | p :: l => by simp only [i64s, List.map_cons, idfrees, Bool.and_eq_true]; exact ⟨rfl, i64s_free l⟩
theorem i64s_get {l : List Int} {i : Nat} (h : i < l.length) : (i64s l)[i]? = some (.v (.int .i64 l[i])) := by
  rw [i64s, List.getElem?_map, List.getElem?_eq_getElem h]; rfl
theorem i64s_len (l : List Int) : (i64s l).length = l.length := by simp [i64s]
theorem arg_ints {d : D} (h : LookV false (.sl 1 false (.int .i64)) d) : ∃ l : List Int, l.length < 2 ^ 63 ∧ (∀ p ∈ l, ok64 p) ∧ d = .sl 1 (i64s l) := by
  obtain ⟨ds, h1, rfl⟩ := h
  simp only [Look] at h1
  obtain ⟨l, rfl, hl, h2⟩ := h1
  obtain ⟨ps, rfl, hok⟩ : ∃ ps : List Int, l = ps.map i64 ∧ ∀ p ∈ ps, ok64 p := list_of fun d hd => by
    obtain ⟨cs, ⟨n, rfl, hn⟩, rfl⟩ := h2 d hd
    exact ⟨n, wf_i64 hn, rfl⟩
  exact ⟨ps, by simp only [List.length_map, maxLen] at hl; omega, hok, rfl⟩
theorem arg_i64 {d : D} (h : LookV false (.int .i64) d) : ∃ n, ok64 n ∧ d = i64 n := by
  obtain ⟨n, rfl, hn⟩ := arg_int h
  exact ⟨n, wf_i64 hn, rfl⟩

theorem app34 (c r mode : Int) (hc : ok64 c) (hr : ok64 r) (m : List Ent) : CallT Try.prog 34 [i64 c, i64 r, i64 mode] m fun d m' => d = mdD (mdS c r 1000000 mode) ∧ m' = m := by
  simp only [i64]
  refine callT_of k34_ok k34_name (Z.T hmix ?_)
  simp only [k34, k34c, zz, leaves, undef, pin, Int.reduceLT, C.lps, C.isLoop, bsliceD, contents, gate, evalI, St.ev, St.put, List.replicate, Nat.reduceSub, Nat.reduceAdd, binJ, lenOfD, ressD, resD, D.ok, D.cells, one, reduceCtorEq, Nat.reduceEqDiff, Int.reduceEq]
  refine callX_eq (md40 c r 1000000 mode hc hr (by unfold ok64; omega) _) ?_
  simp only [zz, leaves, undef, pin, Int.reduceLT, C.lps, C.isLoop, bsliceD, contents, gate, evalI, St.ev, St.put, List.replicate, Nat.reduceSub, Nat.reduceAdd, binJ, lenOfD, ressD, resD, D.ok, D.cells, one, reduceCtorEq, Nat.reduceEqDiff, Int.reduceEq, mdD, i64]

theorem app35 (c r mode : Int) (hc : ok64 c) (hr : ok64 r) (m : List Ent) : CallT Try.prog 35 [i64 c, i64 r, i64 mode] m fun d m' => d = mdD (mdS c r 1000000 mode) ∧ m' = m := by
  simp only [i64]
  refine callT_of k35_ok k35_name (Z.T hmix ?_)
  simp only [k35, k35c, zz, leaves, undef, pin, Int.reduceLT, C.lps, C.isLoop, bsliceD, contents, gate, evalI, St.ev, St.put, List.replicate, Nat.reduceSub, Nat.reduceAdd, binJ, lenOfD, ressD, resD, D.ok, D.cells, one, reduceCtorEq, Nat.reduceEqDiff, Int.reduceEq]
  refine callX_eq (md41 c r 1000000 mode hc hr (by unfold ok64; omega) _) ?_
  simp only [zz, leaves, undef, pin, Int.reduceLT, C.lps, C.isLoop, bsliceD, contents, gate, evalI, St.ev, St.put, List.replicate, Nat.reduceSub, Nat.reduceAdd, binJ, lenOfD, ressD, resD, D.ok, D.cells, one, reduceCtorEq, Nat.reduceEqDiff, Int.reduceEq, mdD, i64]

/-- The amount that may be recovered. -/
def limS (pay cap floor : Int) : Int :=
  if pay < 1 then 0 else if (mdS pay cap 1000000 0).2 = 0 then max (min (pay - max floor 0) (mdS pay cap 1000000 0).1) 0 else 0

theorem lim12 (pay : Int) (c : Cf) (x : D) (hp : ok64 pay) (hc : c.Ok) (hx : idfree x = true) (m : List Ent) :
    CallT Try.prog 12 [i64 pay, cfD c x] m fun d m' => d = i64 (limS pay c.cap c.floor) ∧ m' = m := by
  have key : CallT Try.prog 12 [i64 pay, cfD c x] [] fun d m' => d = i64 (limS pay c.cap c.floor) := by
    simp only [cfD, i64]
    by_cases h : pay < 1
    · refine callT_of k12_ok k12_name (Z.T hmix ?_)
      simp only [k12, k12c, h, zc, Tm.part, Nat.reduceLeDiff, Nat.reduceLT, Int.reduceLE, Int.reduceToNat, Nat.reducePow, Int.reducePow, D.upd, splice, buildD, bound, sliceD, limS, zz, leaves, undef, pin, Int.reduceLT, C.lps, C.isLoop, bsliceD, contents, gate, evalI, St.ev, St.put, List.replicate, Nat.reduceSub, Nat.reduceAdd, binJ, lenOfD, ressD, resD, D.ok, D.cells, one, reduceCtorEq, Nat.reduceEqDiff, Int.reduceEq]
    · refine callT_of k12_ok k12_name (Z.T hmix ?_)
      simp only [k12, k12c, h, zc, Tm.part, Nat.reduceLeDiff, Nat.reduceLT, Int.reduceLE, Int.reduceToNat, Nat.reducePow, Int.reducePow, D.upd, splice, buildD, bound, sliceD, limS, zz, leaves, undef, pin, Int.reduceLT, C.lps, C.isLoop, bsliceD, contents, gate, evalI, St.ev, St.put, List.replicate, Nat.reduceSub, Nat.reduceAdd, binJ, lenOfD, ressD, resD, D.ok, D.cells, one, reduceCtorEq, Nat.reduceEqDiff, Int.reduceEq]
      refine callX_eq (app34 pay c.cap 0 hp hc.cap _) ?_
      obtain ⟨⟨a, e⟩, he⟩ : ∃ p, mdS pay c.cap 1000000 0 = p := ⟨_, rfl⟩
      simp only [he]
      by_cases h2 : e = 0
      · have w : wrapF .i64 (pay - max c.floor 0) = pay - max c.floor 0 := wrapI (by have := hc.floor; have := hp; unfold ok64 at *; omega)
        simp only [zz, leaves, undef, pin, Int.reduceLT, C.lps, C.isLoop, bsliceD, contents, gate, evalI, St.ev, St.put, List.replicate, Nat.reduceSub, Nat.reduceAdd, binJ, lenOfD, ressD, resD, D.ok, D.cells, one, reduceCtorEq, Nat.reduceEqDiff, Int.reduceEq, zc, Tm.part, Nat.reduceLeDiff, Nat.reduceLT, Int.reduceLE, Int.reduceToNat, Nat.reducePow, Int.reducePow, D.upd, splice, buildD, bound, sliceD, mdD, i64, h2, w]
      · simp only [zz, leaves, undef, pin, Int.reduceLT, C.lps, C.isLoop, bsliceD, contents, gate, evalI, St.ev, St.put, List.replicate, Nat.reduceSub, Nat.reduceAdd, binJ, lenOfD, ressD, resD, D.ok, D.cells, one, reduceCtorEq, Nat.reduceEqDiff, Int.reduceEq, zc, Tm.part, Nat.reduceLeDiff, Nat.reduceLT, Int.reduceLE, Int.reduceToNat, Nat.reducePow, Int.reducePow, D.upd, splice, buildD, bound, sliceD, mdD, i64, h2]
  exact (callP_of (R := fun d => d = i64 (limS pay c.cap c.floor)) 3 (by simp [idfrees, idfree, i64, cf_free c hx]) (key.mono fun _ _ h => by rw [h]; rfl) m).mono fun _ _ h => ⟨h.1.1, h.2⟩

theorem lim13 (pay : Int) (c : Cf) (x : D) (hp : ok64 pay) (hc : c.Ok) (hx : idfree x = true) (m : List Ent) :
    CallT Try.prog 13 [i64 pay, cfD c x] m fun d m' => d = i64 (limS pay c.cap c.floor) ∧ m' = m := by
  have key : CallT Try.prog 13 [i64 pay, cfD c x] [] fun d m' => d = i64 (limS pay c.cap c.floor) := by
    simp only [cfD, i64]
    refine callT_of k13_ok k13_name (Z.T hmix ?_)
    simp only [k13, k13c, zc, Tm.part, Nat.reduceLeDiff, Nat.reduceLT, Int.reduceLE, Int.reduceToNat, Nat.reducePow, Int.reducePow, D.upd, splice, buildD, bound, sliceD, zz, leaves, undef, pin, Int.reduceLT, C.lps, C.isLoop, bsliceD, contents, gate, evalI, St.ev, St.put, List.replicate, Nat.reduceSub, Nat.reduceAdd, binJ, lenOfD, ressD, resD, D.ok, D.cells, one, reduceCtorEq, Nat.reduceEqDiff, Int.reduceEq]
    refine callX_eq (app35 pay c.cap 0 hp hc.cap _) ?_
    unfold limS
    obtain ⟨⟨a, e⟩, he⟩ : ∃ p, mdS pay c.cap 1000000 0 = p := ⟨_, rfl⟩
    simp only [he]
    by_cases h2 : e = 0
    · by_cases h : pay < 1
      · simp only [zz, leaves, undef, pin, Int.reduceLT, C.lps, C.isLoop, bsliceD, contents, gate, evalI, St.ev, St.put, List.replicate, Nat.reduceSub, Nat.reduceAdd, binJ, lenOfD, ressD, resD, D.ok, D.cells, one, reduceCtorEq, Nat.reduceEqDiff, Int.reduceEq, zc, Tm.part, Nat.reduceLeDiff, Nat.reduceLT, Int.reduceLE, Int.reduceToNat, Nat.reducePow, Int.reducePow, D.upd, splice, buildD, bound, sliceD, mdD, i64, h2, h]
      · have w : wrapF .i64 (pay - max 0 c.floor) = pay - max c.floor 0 := by
          rw [Int.max_comm 0]; exact wrapI (by have := hc.floor; have := hp; unfold ok64 at *; omega)
        simp only [zz, leaves, undef, pin, Int.reduceLT, C.lps, C.isLoop, bsliceD, contents, gate, evalI, St.ev, St.put, List.replicate, Nat.reduceSub, Nat.reduceAdd, binJ, lenOfD, ressD, resD, D.ok, D.cells, one, reduceCtorEq, Nat.reduceEqDiff, Int.reduceEq, zc, Tm.part, Nat.reduceLeDiff, Nat.reduceLT, Int.reduceLE, Int.reduceToNat, Nat.reducePow, Int.reducePow, D.upd, splice, buildD, bound, sliceD, mdD, i64, h2, h, w]
        rw [Int.max_comm 0, Int.min_comm a]
    · simp only [zz, leaves, undef, pin, Int.reduceLT, C.lps, C.isLoop, bsliceD, contents, gate, evalI, St.ev, St.put, List.replicate, Nat.reduceSub, Nat.reduceAdd, binJ, lenOfD, ressD, resD, D.ok, D.cells, one, reduceCtorEq, Nat.reduceEqDiff, Int.reduceEq, zc, Tm.part, Nat.reduceLeDiff, Nat.reduceLT, Int.reduceLE, Int.reduceToNat, Nat.reducePow, Int.reducePow, D.upd, splice, buildD, bound, sliceD, mdD, i64, h2, ite_self]
  exact (callP_of (R := fun d => d = i64 (limS pay c.cap c.floor)) 3 (by simp [idfrees, idfree, i64, cf_free c hx]) (key.mono fun _ _ h => by rw [h]; rfl) m).mono fun _ _ h => ⟨h.1.1, h.2⟩

theorem limS_nn (pay cap floor : Int) : 0 ≤ limS pay cap floor := by
  unfold limS; split
  · omega
  · split <;> omega
theorem limS_le (pay cap floor : Int) : limS pay cap floor ≤ max 0 pay := by
  unfold limS; split
  · omega
  · split <;> omega
theorem limS_fl (pay cap floor : Int) : limS pay cap floor = 0 ∨ floor < 0 ∨ floor ≤ pay - limS pay cap floor := by
  unfold limS; split
  · omega
  · split <;> omega

theorem lawLimit (pay cap floor : Int) (h1 : ok64 pay) (h2 : ok64 cap) (h3 : ok64 floor) : CallT Try.prog 3 [i64 pay, i64 cap, i64 floor] [] fun d _ => d = .v (.bool true) := by
  have e := limS_nn pay cap floor
  have e1 := limS_le pay cap floor
  have e2 := limS_fl pay cap floor
  have z : ok64 0 := by unfold ok64; omega
  have hc : (⟨0, 0, 0, cap, floor, 0, 0, 0⟩ : Cf).Ok := ⟨z, z, z, h2, h3, z, z, z⟩
  simp only [i64]
  refine callT_of k3_ok k3_name (Z.T hmix ?_)
  simp only [k3, k3c, zc, Tm.part, Nat.reduceLeDiff, Nat.reduceLT, Int.reduceLE, Int.reduceToNat, Nat.reducePow, Int.reducePow, D.upd, splice, buildD, bound, sliceD, zz, leaves, undef, pin, Int.reduceLT, C.lps, C.isLoop, bsliceD, contents, gate, evalI, St.ev, St.put, List.replicate, Nat.reduceSub, Nat.reduceAdd, binJ, lenOfD, ressD, resD, D.ok, D.cells, one, reduceCtorEq, Nat.reduceEqDiff, Int.reduceEq]
  refine callX_eq (lim12 pay ⟨0, 0, 0, cap, floor, 0, 0, 0⟩ nilD h1 hc rfl _) ?_
  simp only [zz, leaves, undef, pin, Int.reduceLT, C.lps, C.isLoop, bsliceD, contents, gate, evalI, St.ev, St.put, List.replicate, Nat.reduceSub, Nat.reduceAdd, binJ, lenOfD, ressD, resD, D.ok, D.cells, one, reduceCtorEq, Nat.reduceEqDiff, Int.reduceEq, zc, Tm.part, Nat.reduceLeDiff, Nat.reduceLT, Int.reduceLE, Int.reduceToNat, Nat.reducePow, Int.reducePow, D.upd, splice, buildD, bound, sliceD, i64]
  refine callX_eq (lim13 pay ⟨0, 0, 0, cap, floor, 0, 0, 0⟩ nilD h1 hc rfl _) ?_
  have w : wrapF .i64 (pay - limS pay cap floor) = pay - limS pay cap floor := wrapI (by unfold ok64 at *; omega)
  generalize limS pay cap floor = n at e e1 e2 w ⊢
  by_cases c1 : n = 0
  · have e3 : (0 : Int) ≤ max 0 pay := by omega
    subst c1
    simp only [zz, leaves, undef, pin, Int.reduceLT, C.lps, C.isLoop, bsliceD, contents, gate, evalI, St.ev, St.put, List.replicate, Nat.reduceSub, Nat.reduceAdd, binJ, lenOfD, ressD, resD, D.ok, D.cells, one, reduceCtorEq, Nat.reduceEqDiff, Int.reduceEq, zc, Tm.part, Nat.reduceLeDiff, Nat.reduceLT, Int.reduceLE, Int.reduceToNat, Nat.reducePow, Int.reducePow, D.upd, splice, buildD, bound, sliceD, i64, e3]
    refine callX_eq (awake39 _) ?_
    simp only [zz, leaves, undef, pin, Int.reduceLT, C.lps, C.isLoop, bsliceD, contents, gate, evalI, St.ev, St.put, List.replicate, Nat.reduceSub, Nat.reduceAdd, binJ, lenOfD, ressD, resD, D.ok, D.cells, one, reduceCtorEq, Nat.reduceEqDiff, Int.reduceEq]
  · by_cases c2 : floor < 0
    · simp only [zz, leaves, undef, pin, Int.reduceLT, C.lps, C.isLoop, bsliceD, contents, gate, evalI, St.ev, St.put, List.replicate, Nat.reduceSub, Nat.reduceAdd, binJ, lenOfD, ressD, resD, D.ok, D.cells, one, reduceCtorEq, Nat.reduceEqDiff, Int.reduceEq, zc, Tm.part, Nat.reduceLeDiff, Nat.reduceLT, Int.reduceLE, Int.reduceToNat, Nat.reducePow, Int.reducePow, D.upd, splice, buildD, bound, sliceD, i64, e, e1, c1, c2]
      refine callX_eq (awake39 _) ?_
      simp only [zz, leaves, undef, pin, Int.reduceLT, C.lps, C.isLoop, bsliceD, contents, gate, evalI, St.ev, St.put, List.replicate, Nat.reduceSub, Nat.reduceAdd, binJ, lenOfD, ressD, resD, D.ok, D.cells, one, reduceCtorEq, Nat.reduceEqDiff, Int.reduceEq]
    · have c3 : floor ≤ pay - n := by omega
      simp only [zz, leaves, undef, pin, Int.reduceLT, C.lps, C.isLoop, bsliceD, contents, gate, evalI, St.ev, St.put, List.replicate, Nat.reduceSub, Nat.reduceAdd, binJ, lenOfD, ressD, resD, D.ok, D.cells, one, reduceCtorEq, Nat.reduceEqDiff, Int.reduceEq, zc, Tm.part, Nat.reduceLeDiff, Nat.reduceLT, Int.reduceLE, Int.reduceToNat, Nat.reducePow, Int.reducePow, D.upd, splice, buildD, bound, sliceD, i64, e, e1, c1, c2, w, c3]
      refine callX_eq (awake39 _) ?_
      simp only [zz, leaves, undef, pin, Int.reduceLT, C.lps, C.isLoop, bsliceD, contents, gate, evalI, St.ev, St.put, List.replicate, Nat.reduceSub, Nat.reduceAdd, binJ, lenOfD, ressD, resD, D.ok, D.cells, one, reduceCtorEq, Nat.reduceEqDiff, Int.reduceEq]

theorem lawLimitG (d0 d1 d2 : D) (h0 : LookV false (.int .i64) d0) (h1 : LookV false (.int .i64) d1) (h2 : LookV false (.int .i64) d2) : CallT Try.prog 3 [d0, d1, d2] [] fun d _ => d = .v (.bool true) := by
  obtain ⟨a, ha, rfl⟩ := arg_i64 h0
  obtain ⟨b, hb, rfl⟩ := arg_i64 h1
  obtain ⟨c, hc, rfl⟩ := arg_i64 h2
  exact lawLimit a b c ha hb hc
end Go.Proofs.Ytlfhdejlpnljbaa
