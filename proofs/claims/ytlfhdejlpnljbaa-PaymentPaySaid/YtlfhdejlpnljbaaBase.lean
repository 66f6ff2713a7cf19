/-
  Postings, balances and lists of numbers as trees.
-/
import Derived.Test.YtlfhdejlpnljbaaCode
import Derived.Test.YtlfhdejlpnljbaaChecked
import Derived.Test.YtlfhdejlpnljbaaTmT
set_option linter.unusedSimpArgs false
set_option linter.unusedVariables false
set_option maxHeartbeats 2000000
namespace Go.Proofs.Ytlfhdejlpnljbaa
open Go.Tm
set_option maxRecDepth 10000

theorem hmix : Try.prog.follows .mixedOrders = true := Checked.mixed Try.checked

def i64 (n : Int) : D := .v (.int .i64 n)
def nilD : D := .v (.slice none 0 0)
def ok64 (n : Int) : Prop := -9223372036854775808 ≤ n ∧ n ≤ 9223372036854775807

structure Ps where
  d : Int
  m : Int
  k : Int
  c : Int

def psD (p : Ps) : D := .agg [i64 p.d, i64 p.m, i64 p.k, i64 p.c]
def pssD (l : List Ps) : D := .sl 4 (l.map psD)
theorem pss_free : ∀ l : List Ps, idfrees (l.map psD) = true
  | [] => rfl
  | p :: l => by simp only [List.map_cons, idfrees, Bool.and_eq_true]; exact ⟨rfl, pss_free l⟩
theorem pss_get {l : List Ps} {i : Nat} (h : i < l.length) : (l.map psD)[i]? = some (.agg [.v (.int .i64 l[i].d), .v (.int .i64 l[i].m), .v (.int .i64 l[i].k), .v (.int .i64 l[i].c)]) := by
  rw [List.getElem?_map, List.getElem?_eq_getElem h]; rfl

structure Ps.Ok (p : Ps) : Prop where
  d : ok64 p.d
  m : ok64 p.m
  k : ok64 p.k
  c : ok64 p.c

def shPs : Sh := .cat [.int .i64, .int .i64, .int .i64, .int .i64]
theorem look_ps {ds : List D} (h : Look shPs ds) : ∃ p : Ps, p.Ok ∧ wrapD true ds = psD p := by
  simp only [shPs, Look, LookL] at h
  obtain ⟨_, _, rfl, ⟨a, rfl, ha⟩, _, _, rfl, ⟨b, rfl, hb⟩, _, _, rfl, ⟨c, rfl, hc⟩, _, _, rfl, ⟨d, rfl, hd⟩, rfl⟩ := h
  exact ⟨⟨a, b, c, d⟩, ⟨wf_i64 ha, wf_i64 hb, wf_i64 hc, wf_i64 hd⟩, rfl⟩

theorem arg_pss {d : D} (h : LookV false (.sl 4 true shPs) d) : ∃ l : List Ps, l.length < 2 ^ 63 ∧ (∀ p ∈ l, p.Ok) ∧ d = pssD l := by
  obtain ⟨ds, h1, rfl⟩ := h
  simp only [Look] at h1
  obtain ⟨l, rfl, hl, h2⟩ := h1
  obtain ⟨ps, rfl, hok⟩ : ∃ ps : List Ps, l = ps.map psD ∧ ∀ p ∈ ps, p.Ok := list_of fun d hd => by
    obtain ⟨cs, h1, rfl⟩ := h2 d hd
    exact look_ps h1
  exact ⟨ps, by simp only [List.length_map, maxLen] at hl; omega, hok, rfl⟩

theorem arg_int {k : IntKind} {d : D} (h : LookV false (.int k) d) : ∃ n, d = .v (.int k n) ∧ (Lit.int k n).wf = true := by
  obtain ⟨ds, ⟨n, rfl, hn⟩, rfl⟩ := h
  exact ⟨n, rfl, hn⟩
end Go.Proofs.Ytlfhdejlpnljbaa
