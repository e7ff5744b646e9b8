/- For the law FnExactDeedText: every deed has the same text by the program as by the reference. The conditions: the bytes or numbers that come in are of their kinds, as the statement says. -/
import Derived.Test.YtlnbobpmjbcejaaDoorMFnExactDeedTextx3
import Derived.Test.YtlnbobpmjbcejaaDoorBase
import Derived.Test.YtlnbobpmjbcejaaDoorDeed
import Derived.Test.YtlnbobpmjbcejaaDoorText
namespace Go.Proofs.YtlnbobpmjbcejaaDoor.Pure
open Go.RowKit Go.Proofs.YtlnbobpmjbcejaaDoor.MFnExactDeedText Go.Proofs.YtlnbobpmjbcejaaDoorW.PrintWords Go.Proofs.YtlnbobpmjbcejaaDoorW.PrintLast Go.Proofs.YtlnbobpmjbcejaaDoor.Base
namespace FnExactDeedText_parts
theorem l15Step_ev {n : Int} (h0 : -99 ≤ n) (h1 : n ≤ 99) : Ev (fun k => spec_l15Step.f k n) (ba (numT n)) := by
  have := small_all (p := fun n => decide (spec_l15Step.f 5 n = some (ba (numT n)))) (by decide +kernel) h0 h1
  exact Ev.of (fun k => spec_l15Step.mono _ _) (of_decide_eq_true this)
theorem specIn_ev (a b c : Int) : spec_l1In.f a b c = some (decide (b ≤ a ∧ a ≤ c)) := by
  unfold spec_l1In.f
  split <;> simp <;> omega
theorem sdeed_far (k a b : Int) : Ev (fun n => spec_DeedText.j0 n true k a b) (ba []) := ev_suc (by simp only [spec_DeedText.j0]; exact ev_pos trivial (Ev.now _))
theorem litb (l : Tx) : (⟨⟨l⟩⟩ : ByteArray) = ba l := rfl
theorem sdeed_ev (k a b : Int) : Ev (fun n => spec_DeedText.f n k a b) (ba (deedT k a b)) := by
  unfold deedT spec_DeedText.f
  simp only [specIn_ev, Option.bind_some, decide_eq_true_eq]
  by_cases ha : -99 ≤ a ∧ a ≤ 99
  case neg => rw [if_neg (fun h => ha h.1)]; exact ev_neg ha (sdeed_far k a b)
  by_cases hb : -99 ≤ b ∧ b ≤ 99
  case neg =>
    rw [if_neg (fun h => hb h.2)]
    refine ev_pos ha ?_
    rw [decide_eq_false hb]
    exact sdeed_far k a b
  rw [if_pos ⟨ha, hb⟩]
  refine ev_pos ha ?_
  rw [decide_eq_true hb]
  refine ev_suc ?_
  simp only [spec_DeedText.j0, Bool.not_true, Bool.false_eq_true, if_false, Bool.and_eq_true, beq_iff_eq]
  obtain ⟨_, l1, l2⟩ := numT_bytes ha.1 ha.2
  obtain ⟨_, m1, m2⟩ := numT_bytes hb.1 hb.2
  split
  · refine ev_bind (l15Step_ev ha.1 ha.2) (ev_pos (by rw [ba_size]; omega) (ev_pos (by rw [litb, ba_append, ba_size, List.length_append]; simp; omega) (ev_bind (l15Step_ev hb.1 hb.2) (ev_pos ?_ ?_))))
    · rw [litb, litb, ba_append, ba_append, ba_size, ba_size]; simp; omega
    · rw [litb, litb, ba_append, ba_append, ba_append]
      refine ev_eq (Ev.now _) ?_
      simp [putW]
  split
  · exact ev_bind (l15Step_ev ha.1 ha.2) (ev_pos (by rw [ba_size]; omega) (ev_eq (Ev.now _) (by rw [litb, ba_append]; simp [stepW])))
  split
  · exact ev_bind (l15Step_ev ha.1 ha.2) (ev_pos (by rw [ba_size]; omega) (ev_eq (Ev.now _) (by rw [litb, ba_append]; simp [drawW])))
  split
  · exact Ev.now _
  split
  · exact Ev.now _
  · exact Ev.now _
theorem itoa_ev {n : Int} (h0 : -99 ≤ n) (h1 : n ≤ 99) : strconv_Itoa.f n = some (ba (numT n)) := by
  unfold strconv_Itoa.f
  rw [if_pos ⟨by omega, by omega⟩, itoa_small h0 h1]
  rfl
theorem ideed_far (k a b : Int) : Ev (fun n => impl_DeedText.j0 n true k a b) (ba []) := ev_suc (by simp only [impl_DeedText.j0]; exact ev_pos trivial (Ev.now _))
theorem ideed_ev (k a b : Int) : Ev (fun n => impl_DeedText.f n k a b) (ba (deedT k a b)) := by
  unfold deedT impl_DeedText.f
  by_cases h1 : a < -99
  · rw [if_neg (fun h => by omega)]; exact ev_pos h1 (ideed_far k a b)
  refine ev_neg h1 ?_
  by_cases h2 : a > 99
  · rw [if_neg (fun h => by omega)]; exact ev_pos h2 (ideed_far k a b)
  refine ev_neg h2 ?_
  by_cases h3 : b < -99
  · rw [if_neg (fun h => by omega)]; exact ev_pos h3 (ideed_far k a b)
  refine ev_neg h3 ?_
  by_cases h4 : b > 99
  · rw [if_neg (fun h => by omega), decide_eq_true h4]; exact ideed_far k a b
  rw [if_pos (by omega), decide_eq_false h4]
  have ha : -99 ≤ a ∧ a ≤ 99 := by omega
  have hb : -99 ≤ b ∧ b ≤ 99 := by omega
  refine ev_suc ?_
  simp only [impl_DeedText.j0, Bool.false_eq_true, if_false, Bool.and_eq_true, beq_iff_eq, itoa_ev ha.1 ha.2, itoa_ev hb.1 hb.2, Option.bind_some]
  obtain ⟨_, l1, l2⟩ := numT_bytes ha.1 ha.2
  obtain ⟨_, m1, m2⟩ := numT_bytes hb.1 hb.2
  refine ev_pos (by rw [ba_size]; omega) ?_
  simp only [litb, ba_append, ba_size]
  split
  · rename_i hk
    refine ev_pos (by simp; omega) (ev_pos (by simp; omega) (ev_pos (by simp; omega) (ev_eq (Ev.now _) ?_)))
    simp [putW]
  rename_i hk
  by_cases hb0 : b = 0
  · refine ev_pos hb0 ?_
    simp only [hb0, and_true]
    split
    · exact ev_pos (by simp; omega) (ev_eq (Ev.now _) (by simp [stepW]))
    split
    · exact ev_pos (by simp; omega) (ev_eq (Ev.now _) (by simp [drawW]))
    by_cases ha0 : a = 0
    · refine ev_pos ha0 ?_
      simp only [ha0, and_true]
      split
      · exact Ev.now _
      split
      · exact Ev.now _
      · exact Ev.now _
    · refine ev_neg ha0 ?_
      simp only [ha0, and_false, if_false]
      exact Ev.now _
  · refine ev_neg hb0 ?_
    simp only [hb0, and_false, if_false]
    exact Ev.now _
-- Deed: deedT
end FnExactDeedText_parts
open FnExactDeedText_parts
theorem FnExactDeedText (x0 x1 x2 : Int) (_ok : (Lit.int .i64 x0).wf = true ∧ (Lit.int .i64 x1).wf = true ∧ (Lit.int .i64 x2).wf = true) : ∃ k, laws_FnExactDeedText.f k x0 x1 x2 = some true := by
  refine Ev.rounds ?_
  unfold laws_FnExactDeedText.f
  simp only [laws_toDeed.f, Option.bind_some]
  exact ev_bind (sdeed_ev _ _ _) (ev_bind (ideed_ev _ _ _) (ev_pos rfl (Ev.now _)))
end Go.Proofs.YtlnbobpmjbcejaaDoor.Pure
