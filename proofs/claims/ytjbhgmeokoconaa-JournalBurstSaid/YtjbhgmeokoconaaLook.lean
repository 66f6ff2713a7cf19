/-
  Arguments of the journal's laws as records.
-/
import Derived.Test.YtjbhgmeokoconaaEnc
import Derived.Test.YtjbhgmeokoconaaTmI
set_option linter.unusedSimpArgs false
set_option linter.unusedVariables false
set_option maxHeartbeats 2000000
namespace Go.Proofs.Ytjbhgmeokoconaa
open Go.Tm

def ok64 (n : Int) : Prop := -9223372036854775808 ≤ n ∧ n ≤ 9223372036854775807

structure Ps.Ok (p : Ps) : Prop where
  d : ok64 p.d
  m : ok64 p.m
  k : ok64 p.k
  c : ok64 p.c

structure Rc.Ok (r : Rc) : Prop where
  h : ok64 r.h
  mo : ok64 r.mo
  d : ok64 r.d
  ni : ok64 r.ni
  nh : ok64 r.nh
  nm : ok64 r.nm
  nk : ok64 r.nk
  nc : ok64 r.nc
  len : r.ps.length < 2 ^ 63
  ps : ∀ p ∈ r.ps, p.Ok

def shPs : Sh := .cat [.int .i64, .int .i64, .int .i64, .int .i64]
def shRc : Sh := .cat [.int .i64, .int .i64, .int .i64, .cat [.int .i64, .int .i64, .int .i64, .int .i64, .int .i64], .sl 4 true shPs]

theorem look_ps {ds : List D} (h : Look shPs ds) : ∃ p : Ps, p.Ok ∧ wrapD true ds = psD p := by
  simp only [shPs, Look, LookL] at h
  obtain ⟨_, _, rfl, ⟨a, rfl, ha⟩, _, _, rfl, ⟨b, rfl, hb⟩, _, _, rfl, ⟨c, rfl, hc⟩, _, _, rfl, ⟨d, rfl, hd⟩, rfl⟩ := h
  exact ⟨⟨a, b, c, d⟩, ⟨wf_i64 ha, wf_i64 hb, wf_i64 hc, wf_i64 hd⟩, rfl⟩

theorem look_pss {l : List D} (h : ∀ d ∈ l, ∃ cs, Look shPs cs ∧ d = wrapD true cs) : ∃ ps : List Ps, l = ps.map psD ∧ ∀ p ∈ ps, p.Ok :=
  list_of fun d hd => by
    obtain ⟨cs, h1, rfl⟩ := h d hd
    exact look_ps h1

theorem look_rc {ds : List D} (h : Look shRc ds) : ∃ r : Rc, r.Ok ∧ wrapD true ds = rcD r := by
  simp only [shRc, Look, LookL] at h
  obtain ⟨_, _, rfl, ⟨a, rfl, ha⟩, _, _, rfl, ⟨b, rfl, hb⟩, _, _, rfl, ⟨c, rfl, hc⟩, _, _, rfl, ⟨_, _, rfl, ⟨d, rfl, hd⟩, _, _, rfl, ⟨e, rfl, he⟩, _, _, rfl, ⟨f, rfl, hf⟩, _, _, rfl, ⟨g, rfl, hg⟩, _, _, rfl, ⟨i, rfl, hi⟩, rfl⟩, _, _, rfl, ⟨l, rfl, hl, hps⟩, rfl⟩ := h
  obtain ⟨ps, rfl, hok⟩ := look_pss hps
  exact ⟨⟨a, b, c, d, e, f, g, i, ps⟩, ⟨wf_i64 ha, wf_i64 hb, wf_i64 hc, wf_i64 hd, wf_i64 he, wf_i64 hf, wf_i64 hg, wf_i64 hi, by simp only [List.length_map, maxLen] at hl; simp only; omega, hok⟩, rfl⟩

theorem arg_rc {d : D} (h : LookV true shRc d) : ∃ r : Rc, r.Ok ∧ d = rcD r := by
  obtain ⟨ds, h1, rfl⟩ := h
  exact look_rc h1

def rcsD (l : List Rc) : D := .sl 9 (l.map rcD)

theorem rcs_free : ∀ l : List Rc, idfrees (l.map rcD) = true
  | [] => rfl
  | p :: l => by simp only [List.map_cons, idfrees, Bool.and_eq_true]; exact ⟨rc_free p, rcs_free l⟩
theorem rcs_get {l : List Rc} {i : Nat} (h : i < l.length) : (l.map rcD)[i]? = some (rcD l[i]) := by
  rw [List.getElem?_map, List.getElem?_eq_getElem h]; rfl
theorem rc_ok (r : Rc) : ∃ l, rcD r = .agg l ∧ l.length = 9 := ⟨_, rfl, rfl⟩


theorem arg_rcs {d : D} (h : LookV false (.sl 9 true shRc) d) : ∃ l : List Rc, l.length < 2 ^ 63 ∧ (∀ r ∈ l, r.Ok) ∧ d = rcsD l := by
  obtain ⟨ds, h1, rfl⟩ := h
  simp only [Look] at h1
  obtain ⟨l, rfl, hl, h2⟩ := h1
  obtain ⟨rs, rfl, hok⟩ : ∃ rs : List Rc, l = rs.map rcD ∧ ∀ r ∈ rs, r.Ok := list_of fun d hd => by
    obtain ⟨cs, h1, rfl⟩ := h2 d hd
    exact look_rc h1
  exact ⟨rs, by simp only [List.length_map, maxLen] at hl; omega, hok, rfl⟩

theorem arg_bytes {d : D} (h : LookV false (.sl 1 false (.int .u8)) d) : ∃ bs : List (BitVec 8), bs.length < 2 ^ 63 ∧ d = .sl 1 (bytesD bs) := by
  obtain ⟨ds, h1, rfl⟩ := h
  simp only [Look] at h1
  obtain ⟨l, rfl, hl, h2⟩ := h1
  obtain ⟨bs, rfl, -⟩ : ∃ bs : List (BitVec 8), l = bs.map (fun b => D.v (.int .u8 (b.toNat : Int))) ∧ ∀ b ∈ bs, True := list_of fun d hd => by
    obtain ⟨cs, ⟨n, rfl, hn⟩, rfl⟩ := h2 d hd
    have hn := wf_u8 hn
    refine ⟨BitVec.ofNat 8 n.toNat, trivial, ?_⟩
    simp only [wrapD, cond_false, List.headD_cons, BitVec.toNat_ofNat]
    rw [show ((n.toNat % 2 ^ 8 : Nat) : Int) = n by omega]
  exact ⟨bs, by simp only [List.length_map, maxLen] at hl; omega, rfl⟩

theorem arg_int {k : IntKind} {d : D} (h : LookV false (.int k) d) : ∃ n, d = .v (.int k n) ∧ (Lit.int k n).wf = true := by
  obtain ⟨ds, ⟨n, rfl, hn⟩, rfl⟩ := h
  exact ⟨n, rfl, hn⟩
end Go.Proofs.Ytjbhgmeokoconaa
