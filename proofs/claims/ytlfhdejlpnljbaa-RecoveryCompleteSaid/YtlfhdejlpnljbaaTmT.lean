/-
  Contracts told with less.
-/
import Derived.Test.YtlfhdejlpnljbaaTmI
set_option linter.unusedSimpArgs false
set_option linter.unusedVariables false
namespace Go.Tm
variable {P : Program}

/-- A result may be told with less. -/
theorem callT_less {f : FuncId} {ds : List D} {m : List Ent} {R R' : D → List Ent → Prop} (h : CallT P f ds m R) (hR : ∀ d m', R d m' → ∃ e, Sub d e ∧ R' e m') : CallT P f ds m R' :=
  ⟨h.1, fun G w vs hv hi => (h.2 G w vs hv hi).mono fun e w' hk => by
    obtain ⟨v, d, m', G', h1, h2, h3, h4, h5⟩ := hk
    obtain ⟨d', h6, h7⟩ := hR d m' h2
    exact ⟨v, d', m', G', h1, h7, Sub.rel h6 h3, h4, h5⟩⟩

theorem sub_nil {S : Nat} : Sub (.v (.slice none 0 0)) (.sl S []) := by simp [Sub]
end Go.Tm
