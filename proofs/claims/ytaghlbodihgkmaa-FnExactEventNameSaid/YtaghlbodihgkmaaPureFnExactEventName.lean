/- The program's EventName returns what the reference's returns, for every whole number. No condition. -/
import Derived.Test.YtaghlbodihgkmaaPFnExactEventNamex1
namespace Go.Proofs.Ytaghlbodihgkmaa.Pure
open Go.RowKit Go.Proofs.Ytaghlbodihgkmaa.PFnExactEventName Go.Proofs.YtaghlbodihgkmaaW.PrintWords Go.Proofs.YtaghlbodihgkmaaW.PrintLast

theorem FnExactEventName : laws_FnExactEventName.Pure := by
  intro a0 _
  by_cases h : 0 ≤ a0 ∧ a0 ≤ 13
  · obtain rfl | rfl | rfl | rfl | rfl | rfl | rfl | rfl | rfl | rfl | rfl | rfl | rfl | rfl : a0 = 0 ∨ a0 = 1 ∨ a0 = 2 ∨ a0 = 3 ∨ a0 = 4 ∨ a0 = 5 ∨ a0 = 6 ∨ a0 = 7 ∨ a0 = 8 ∨ a0 = 9 ∨ a0 = 10 ∨ a0 = 11 ∨ a0 = 12 ∨ a0 = 13 := by omega
    all_goals decide +kernel
  · have hs : spec_EventName.f a0 = some ⟨#[]⟩ := by
      have hw : wrap64 (((14 : Nat) : Int) - 1) = 13 := by decide +kernel
      unfold spec_EventName.f
      simp only [Option.bind_some, List.length_cons, List.length_nil, Nat.zero_add, Nat.reduceAdd]
      rw [hw]
      have hin : spec_l1In.f a0 0 13 = some false := by
        unfold spec_l1In.f
        by_cases h0 : a0 ≥ 0
        · rw [if_pos h0, decide_eq_false (by omega)]
        · rw [if_neg h0]
      rw [hin]
      rfl
    have hi : impl_EventName.f a0 = some ⟨#[]⟩ := by
      unfold impl_EventName.f
      rw [if_neg (by omega), if_neg (by omega), if_neg (by omega), if_neg (by omega), if_neg (by omega), if_neg (by omega), if_neg (by omega), if_neg (by omega), if_neg (by omega), if_neg (by omega), if_neg (by omega), if_neg (by omega), if_neg (by omega)]
    unfold laws_FnExactEventName.f
    rw [hs, hi]
    simp

end Go.Proofs.Ytaghlbodihgkmaa.Pure
