/- LimitProfile: the program and the reference tell the same of every number: of 1 to 7 by reckoning (the kernel's), of all others nothing. -/
import Derived.Test.YtdjbimallgbioaaXa9
import Derived.Test.YtdjbimallgbioaaPk
set_option linter.unusedVariables false
set_option linter.unusedSimpArgs false
namespace Go.Proofs.Ytdjbimallgbioaa.Pure
open Go.RowKit Go.Proofs.Ytdjbimallgbioaa.Xa Go.Proofs.YtdjbimallgbioaaW.PrintWords Go.Proofs.YtdjbimallgbioaaW.PrintLast Go.Proofs.Ytdjbimallgbioaa.Pk

theorem ev_l1In' (a b c : Int) : spec_l1In.f a b c = some (decide (b ≤ a) && decide (a ≤ c)) := by
  unfold spec_l1In.f
  by_cases h : b ≤ a
  · rw [if_pos h, decide_eq_true h, Bool.true_and]
  · rw [if_neg h, decide_eq_false h, Bool.false_and]
theorem ev_isSize (a : Int) : impl_isSize.f a = some (decide (1 ≤ a) && decide (a ≤ 7)) := by
  unfold impl_isSize.f
  by_cases h : 1 ≤ a
  · rw [if_pos h, decide_eq_true h, Bool.true_and]
  · rw [if_neg h, decide_eq_false h, Bool.false_and]
theorem FnExactLimitProfile : laws_FnExactLimitProfile.Pure := by
  intro n _
  by_cases h : 1 ≤ n ∧ n ≤ 7
  · obtain ⟨h1, h7⟩ := h
    have hn : n = 1 ∨ n = 2 ∨ n = 3 ∨ n = 4 ∨ n = 5 ∨ n = 6 ∨ n = 7 := by omega
    rcases hn with rfl | rfl | rfl | rfl | rfl | rfl | rfl
    all_goals exact ⟨600, by decide +kernel⟩
  · have hs : (decide (1 ≤ n) && decide (n ≤ 7)) = false := by
      rw [Bool.and_eq_false_iff, decide_eq_false_iff_not, decide_eq_false_iff_not]
      omega
    have a : ∀ k, spec_LimitProfile.f k n = some ([], false) := fun k => by
      unfold spec_LimitProfile.f
      simp only [ev_l1In', hs, Option.bind_some, Bool.false_eq_true, ↓reduceIte]
    have b : ∀ k, impl_LimitProfile.f k n = some ([], false) := fun k => by
      unfold impl_LimitProfile.f
      simp only [ev_isSize, hs, Option.bind_some, Bool.false_eq_true, ↓reduceIte]
    refine ⟨5, ?_⟩
    unfold laws_FnExactLimitProfile.f
    simp only [a, b, Option.bind_some]
    have e : laws_eqIntS.f 5 [] [] = some true := by decide
    simp only [e, Option.bind_some, ↓reduceIte, bne_self_eq_false]
    simp only [laws_FnExactLimitProfile.j0, Bool.false_eq_true, ↓reduceIte]
    have m : laws_markIntS.f 4 [] 1 = some (1, []) := by decide
    have q : laws_heldIntS.f 4 [] 1 = some 1 := by decide
    have e' : laws_eqIntS.f 4 [] [] = some true := by decide
    have q' : laws_heldIntS.f 3 [] 1 = some 1 := by decide
    simp only [m, q, e', b, Option.bind_some, ↓reduceIte, bne_self_eq_false, show ¬ ((1 : Int) < 0) by decide]
    simp only [laws_FnExactLimitProfile.j1, q', Option.bind_some, Bool.false_eq_true, ↓reduceIte, show ¬ ((1 : Int) < 0) by decide]

end Go.Proofs.Ytdjbimallgbioaa.Pure
