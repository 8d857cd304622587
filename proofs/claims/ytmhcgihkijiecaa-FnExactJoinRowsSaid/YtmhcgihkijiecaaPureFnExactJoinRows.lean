/- FnExactJoinRows as a statement over lists: both functions come to the same; no condition but the form's own bounds. -/
import Derived.Test.YtmhcgihkijiecaaFLFnExactJoinRows
import Derived.Test.YtmhcgihkijiecaaQ0
import Derived.Test.YtmhcgihkijiecaaQ1
namespace Go.Proofs.Ytmhcgihkijiecaa.Pure
open Go.RowKit Go.Proofs.Ytmhcgihkijiecaa.Fn Go.Proofs.YtmhcgihkijiecaaW.PrintWords Go.Proofs.YtmhcgihkijiecaaW.PrintLast Go.Proofs.YtmhcgihkijiecaaW.PrintMore
set_option linter.unusedVariables false
set_option linter.unusedSimpArgs false
theorem FnExactJoinRows : laws_FnExactJoinRows.Pure := by
  intro l0 l1 _ _ _ _ _ _
  refine Lim.rounds (laws_FnExactJoinRows.F_lim l0 l1) ?_
  rw [laws_FnExactJoinRows.F_eq]
  by_cases h0 : (l0.length : Int) > 1048576
  · rw [if_pos h0]
  by_cases h1 : (l1.length : Int) > 1048576
  · rw [if_neg h0, if_pos h1]
  have hr := joinRows_len l0 l1
  have e0 := laws_toIntS.F_val l0 (by omega)
  have e1 := laws_toIntS.F_val l1 (by omega)
  have s := spec_JoinRows.F_val l0 l1 (by omega) (by omega)
  have i := impl_JoinRows.F_val l0 l1 (by omega) (by omega)
  have q := laws_eqIntS.F_same (joinRows l0 l1).1 (by omega)
  have q0 := laws_eqIntS.F_same l0 (by omega)
  have q1 := laws_eqIntS.F_same l1 (by omega)
  have m0 := laws_markIntS.F_val l0 1 (by omega) (by omega)
  have m1 := laws_markIntS.F_val l1 (1 + l0.length) (by omega) (by omega)
  have m := laws_markIntS.F_val (joinRows l0 l1).1 1 (by omega) (by omega)
  have g := laws_heldIntS.F_val (joinRows l0 l1).1.length 1 (by omega) (by omega)
  have n1 : ¬ ((1 : Int) + l0.length + l1.length < 0) := by omega
  have n2 : ¬ ((1 : Int) + (joinRows l0 l1).1.length < 0) := by omega
  rw [if_neg h0, if_neg h1]
  simp only [e0, e1, s, i, q, Option.bind_some, if_true, bne_self_eq_false, laws_FnExactJoinRows.J0_eq, laws_FnExactJoinRows.J1_eq, laws_FnExactJoinRows.J2_eq, q0, q1, m0, m1, m, g, n1, n2, if_false, Bool.false_eq_true]
end Go.Proofs.Ytmhcgihkijiecaa.Pure
