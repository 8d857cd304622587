/- FnExactTrimRow as a statement over lists: both functions come to the same; no condition but the form's own bounds. -/
import Derived.Test.YtmhcgihkijiecaaFLFnExactTrimRow
import Derived.Test.YtmhcgihkijiecaaQ0
import Derived.Test.YtmhcgihkijiecaaQ1
namespace Go.Proofs.Ytmhcgihkijiecaa.Pure
open Go.RowKit Go.Proofs.Ytmhcgihkijiecaa.Fn Go.Proofs.YtmhcgihkijiecaaW.PrintWords Go.Proofs.YtmhcgihkijiecaaW.PrintLast Go.Proofs.YtmhcgihkijiecaaW.PrintMore
set_option linter.unusedVariables false
set_option linter.unusedSimpArgs false
theorem FnExactTrimRow : laws_FnExactTrimRow.Pure := by
  intro l0 _ _ _
  refine Lim.rounds (laws_FnExactTrimRow.F_lim l0) ?_
  rw [laws_FnExactTrimRow.F_eq]
  by_cases h0 : (l0.length : Int) > 1048576
  · rw [if_pos h0]
  have hr := trimRow_len l0 (by omega)
  have e0 := laws_toIntS.F_val l0 (by omega)
  have s := spec_TrimRow.F_val l0 (by omega)
  have i := impl_TrimRow.F_val l0 (by omega)
  have q := laws_eqIntS.F_same (trimRow l0).1 (by omega)
  have q0 := laws_eqIntS.F_same l0 (by omega)
  have m0 := laws_markIntS.F_val l0 1 (by omega) (by omega)
  have m := laws_markIntS.F_val (trimRow l0).1 1 (by omega) (by omega)
  have g := laws_heldIntS.F_val (trimRow l0).1.length 1 (by omega) (by omega)
  have n1 : ¬ ((1 : Int) + l0.length < 0) := by omega
  have n2 : ¬ ((1 : Int) + (trimRow l0).1.length < 0) := by omega
  rw [if_neg h0]
  simp only [e0, s, i, q, Option.bind_some, if_true, bne_self_eq_false, laws_FnExactTrimRow.J0_eq, laws_FnExactTrimRow.J1_eq, laws_FnExactTrimRow.J2_eq, q0, m0, m, g, n1, n2, if_false, Bool.false_eq_true]
end Go.Proofs.Ytmhcgihkijiecaa.Pure
