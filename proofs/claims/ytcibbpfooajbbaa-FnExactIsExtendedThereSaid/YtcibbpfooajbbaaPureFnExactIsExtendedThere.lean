/- The law FnExactIsExtendedThere as a statement over numbers: both functions make the same tests, for all numbers. -/
import Derived.Test.YtcibbpfooajbbaaPFnExactIsExtendedTherex1
namespace Go.Proofs.Ytcibbpfooajbbaa.Pure
open Go.RowKit Go.Proofs.Ytcibbpfooajbbaa.PFnExactIsExtendedThere Go.Proofs.YtcibbpfooajbbaaW.PrintWords Go.Proofs.YtcibbpfooajbbaaW.PrintLast

theorem FnExactIsExtendedThere : laws_FnExactIsExtendedThere.Pure := by
  intro n hole _ _
  have key : spec_IsExtendedThere.f n hole = impl_IsExtendedThere.f n hole := by
    unfold spec_IsExtendedThere.f impl_IsExtendedThere.f spec_hoAsked.f impl_isNumber.f spec_l1In.f
    by_cases h1 : n ≥ 1
    · by_cases h2 : n ≤ 20
      · by_cases h3 : hole < 0
        · have h4 : ¬ hole ≥ 0 := by omega
          simp [h1, h2, h3, h4]
        · have h4 : hole ≥ 0 := by omega
          by_cases h5 : hole ≤ wrap64 (2 * n)
          · have h6 : ¬ hole > wrap64 (2 * n) := by omega
            simp [h1, h2, h3, h4, h5, h6]
          · have h6 : hole > wrap64 (2 * n) := by omega
            simp [h1, h2, h3, h4, h5, h6]
      · simp [h1, h2]
    · simp [h1]
  unfold laws_FnExactIsExtendedThere.f
  rw [key]
  have tot : ∃ p, impl_IsExtendedThere.f n hole = some p := by
    unfold impl_IsExtendedThere.f impl_isNumber.f
    by_cases h1 : n ≥ 1 <;> simp only [h1, if_true, if_false, Option.bind_some] <;> (repeat' split) <;> exact ⟨_, rfl⟩
  obtain ⟨p, hp⟩ := tot
  rw [hp]
  simp

end Go.Proofs.Ytcibbpfooajbbaa.Pure
