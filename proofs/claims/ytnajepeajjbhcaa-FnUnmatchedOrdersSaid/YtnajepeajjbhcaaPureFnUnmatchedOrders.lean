/- For the law FnUnmatchedOrders: for every code the orders without a match are as many as the reference tells, as the rule tells, and as are counted one by one. The conditions: the bytes or numbers that come in are of their kinds, as the statement says. -/
import Derived.Test.YtnajepeajjbhcaaMFnUnmatchedOrdersx3
import Derived.Test.YtnajepeajjbhcaaBase
namespace Go.Proofs.Ytnajepeajjbhcaa.Pure
open Go.RowKit Go.Proofs.Ytnajepeajjbhcaa.MFnUnmatchedOrders Go.Proofs.YtnajepeajjbhcaaW.PrintWords Go.Proofs.YtnajepeajjbhcaaW.PrintLast Go.Proofs.Ytnajepeajjbhcaa.Base
namespace FnUnmatchedOrders_parts
theorem xor_nn {x y : Int} (hx : 0 ≤ x) (hx' : x < 9223372036854775808) (hy : 0 ≤ y) (hy' : y < 9223372036854775808) : 0 ≤ Go.bits .xor .i64 x y := by
  obtain ⟨a, rfl⟩ := Int.eq_ofNat_of_zero_le hx
  obtain ⟨b, rfl⟩ := Int.eq_ofNat_of_zero_le hy
  have ha : a < 2 ^ 63 := by omega
  have hb : b < 2 ^ 63 := by omega
  have hc : a ^^^ b < 2 ^ 63 := Nat.xor_lt_two_pow ha hb
  have h1 : (BitVec.ofInt 64 (a : Int)).toNat = a := by
    rw [BitVec.ofInt_natCast, BitVec.toNat_ofNat]; exact Nat.mod_eq_of_lt (by omega)
  have h2 : (BitVec.ofInt 64 (b : Int)).toNat = b := by
    rw [BitVec.ofInt_natCast, BitVec.toNat_ofNat]; exact Nat.mod_eq_of_lt (by omega)
  show 0 ≤ IntKind.i64.wrap ((BitVec.ofInt 64 (a : Int) ^^^ BitVec.ofInt 64 (b : Int)).toNat : Int)
  rw [BitVec.toNat_xor, h1, h2, IntKind.wrap_i64]
  omega
def BytesOk (b : List Int) : Prop := (∀ x ∈ b, 0 ≤ x ∧ x ≤ 255) ∧ b.length ≤ 2000
theorem pick_ev {b : List Int} (hb : BytesOk b) (p n : Int) (h0 : 0 ≤ p) (hp : p ≤ 1000000000000) (hn : n ≤ 1000000000000) :
    ∃ r, Ev (fun k => spec_l20Rd_pick.f k b p n) (r, p + 1) ∧ 0 ≤ r ∧ (1 ≤ n → r < n) ∧ (n < 1 → r = 0) := by
  obtain ⟨hb, hl⟩ := hb
  by_cases hn1 : n < 1
  · refine ⟨0, ?_, by omega, by omega, fun _ => rfl⟩
    simp only [spec_l20Rd_pick.f]
    refine ev_pos hn1 (ev_suc ?_)
    simp (disch := omega) only [spec_l20Rd_pick.j0, if_true, w64]
    exact Ev.now _
  · have key : ∀ (x : Int), 0 ≤ x → 0 ≤ Int.tmod x n ∧ (1 ≤ n → Int.tmod x n < n) ∧ (n < 1 → Int.tmod x n = 0) := by
      intro x hx
      rw [Int.tmod_eq_emod_of_nonneg hx]
      have h1 := Int.emod_nonneg x (b := n) (by omega)
      have h2 := Int.emod_lt_of_pos x (b := n) (by omega)
      exact ⟨h1, fun _ => h2, fun h => absurd h hn1⟩
    by_cases hl0 : b.length = 0
    · refine ⟨0, ?_, by omega, by omega, fun _ => rfl⟩
      simp only [spec_l20Rd_pick.f]
      refine ev_neg hn1 (ev_suc ?_)
      have e : ((b.length : Int) == 0) = true := by simp [hl0]
      simp (disch := omega) only [spec_l20Rd_pick.j0, e, if_true, w64]
      exact Ev.now _
    · have e : ((b.length : Int) == 0) = false := by rw [beq_eq_false_iff_ne]; omega
      by_cases hlt : p < (b.length : Int)
      · have hm := hb _ (rd_mem h0 hlt)
        obtain ⟨k1, k2, k3⟩ := key (rd b p) hm.1
        refine ⟨Int.tmod (rd b p) n, ?_, k1, k2, k3⟩
        simp only [spec_l20Rd_pick.f]
        refine ev_neg hn1 (ev_suc ?_)
        have e1 : wrap64 (wrap64 (p + 1) - 1) = p := by rw [w64 (n := p + 1) (by omega) (by omega), w64 (by omega) (by omega)]; omega
        have e2 : wrap64 (rd b p) = rd b p := w64 (by omega) (by omega)
        simp only [spec_l20Rd_pick.j0, e, e1, e2, Bool.false_eq_true, if_false]
        refine ev_pos hlt (ev_pos h0 (ev_neg (by omega) (ev_now ?_)))
        rw [w64 (by omega) (by omega)]
      · have hL : 0 < (b.length : Int) := by omega
        have m1a := Int.emod_nonneg p (b := (b.length : Int)) (by omega)
        have m1b := Int.emod_lt_of_pos p (b := (b.length : Int)) hL
        have m2a := Int.emod_nonneg (p * 7 + 3) (b := (b.length : Int)) (by omega)
        have m2b := Int.emod_lt_of_pos (p * 7 + 3) (b := (b.length : Int)) hL
        have r1 := hb _ (rd_mem m1a m1b)
        have r2 := hb _ (rd_mem m2a m2b)
        have d1 : 0 ≤ p / (b.length : Int) := Int.ediv_nonneg h0 (by omega)
        have d2 : p / (b.length : Int) ≤ p := Int.ediv_le_self _ h0
        have e1 : wrap64 (wrap64 (p + 1) - 1) = p := by rw [w64 (n := p + 1) (by omega) (by omega), w64 (by omega) (by omega)]; omega
        have e1' : wrap64 (p + 1 - 1) = p := by rw [w64 (by omega) (by omega)]; omega
        have e3 : Int.tmod p (b.length : Int) = p % (b.length : Int) := Int.tmod_eq_emod_of_nonneg h0
        have e4 : Int.tmod (p * 7 + 3) (b.length : Int) = (p * 7 + 3) % (b.length : Int) := Int.tmod_eq_emod_of_nonneg (by omega)
        have e5 : Int.tdiv p (b.length : Int) = p / (b.length : Int) := Int.tdiv_eq_ediv_of_nonneg h0
        generalize hu : rd b (p % (b.length : Int)) = u at r1
        generalize hv : rd b ((p * 7 + 3) % (b.length : Int)) = v at r2
        generalize hd : p / (b.length : Int) = d at d1 d2
        have hx0 : 0 ≤ u * 131 + v * 1117 + p * 29 + d * 53 := by omega
        have e6 : Int.tdiv (u * 131 + v * 1117 + p * 29 + d * 53) 64 = (u * 131 + v * 1117 + p * 29 + d * 53) / 64 := Int.tdiv_eq_ediv_of_nonneg hx0
        obtain ⟨k1, k2, k3⟩ := key (Go.bits .xor .i64 (u * 131 + v * 1117 + p * 29 + d * 53) ((u * 131 + v * 1117 + p * 29 + d * 53) / 64)) (xor_nn (by omega) (by omega) (by omega) (by omega))
        refine ⟨_, ?_, k1, k2, k3⟩
        simp only [spec_l20Rd_pick.f]
        refine ev_neg hn1 (ev_suc ?_)
        have f1 : wrap64 (p * 7) = p * 7 := w64 (by omega) (by omega)
        have f2 : wrap64 (p * 7 + 3) = p * 7 + 3 := w64 (by omega) (by omega)
        have f3 : wrap64 u = u := w64 (by omega) (by omega)
        have f4 : wrap64 v = v := w64 (by omega) (by omega)
        have f5 : wrap64 (u * 131) = u * 131 := w64 (by omega) (by omega)
        have f6 : wrap64 (v * 1117) = v * 1117 := w64 (by omega) (by omega)
        have f7 : wrap64 (u * 131 + v * 1117) = u * 131 + v * 1117 := w64 (by omega) (by omega)
        have f8 : wrap64 (p * 29) = p * 29 := w64 (by omega) (by omega)
        have f9 : wrap64 (u * 131 + v * 1117 + p * 29) = u * 131 + v * 1117 + p * 29 := w64 (by omega) (by omega)
        have f10 : wrap64 d = d := w64 (by omega) (by omega)
        have f11 : wrap64 (d * 53) = d * 53 := w64 (by omega) (by omega)
        have f12 : wrap64 (u * 131 + v * 1117 + p * 29 + d * 53) = u * 131 + v * 1117 + p * 29 + d * 53 := w64 (by omega) (by omega)
        have f13 : wrap64 ((u * 131 + v * 1117 + p * 29 + d * 53) / 64) = (u * 131 + v * 1117 + p * 29 + d * 53) / 64 := w64 (by omega) (by omega)
        have f14 : wrap64 (p + 1) = p + 1 := w64 (by omega) (by omega)
        simp only [spec_l20Rd_pick.j0, e, e1, f14, e1', f1, f2, e3, e4, e5, hu, hv, hd, f3, f4, f5, f6, f7, f8, f9, f10, f11, f12, e6, f13, Bool.false_eq_true, if_false]
        exact ev_neg hlt (ev_neg (by omega) (ev_pos m1a (ev_pos m1b (ev_pos m2a (ev_pos m2b (ev_neg (by omega) (Ev.now _)))))))
theorem open_ev {l : List Int} (hl : ∀ x ∈ l, (Lit.int .u8 x).wf = true) : ∃ b, spec_l20Open.f l = some (b, 0) ∧ BytesOk b := by
  have hw : ∀ x ∈ l, 0 ≤ x ∧ x ≤ 255 := fun x hx => by
    have := hl x hx
    simp [Lit.wf, IntKind.min, IntKind.max, IntKind.bits, IntKind.signed] at this
    omega
  by_cases h : (l.length : Int) > 2000
  · exact ⟨l.take 2000, by simp (disch := omega) only [spec_l20Open.f, if_pos], fun x hx => hw x (List.mem_of_mem_take hx), by rw [List.length_take]; omega⟩
  · exact ⟨l, by simp (disch := omega) only [spec_l20Open.f, if_neg], hw, by omega⟩
theorem alive_ev : Ev (fun k => laws_alive.f k) true := Ev.of laws_alive.mono (k := 5) (by decide +kernel)
theorem un_all : ∀ n : Fin 9, (decide (impl_UnmatchedOrders.f 20 ((n.val : Int) - 1) = some (-1)) && decide (spec_UnmatchedOrders.f 20 ((n.val : Int) - 1) = some (-1))) = true ∨
    ∃ m : Fin 300, impl_UnmatchedOrders.f 20 ((n.val : Int) - 1) = some (m.val : Int) ∧ spec_UnmatchedOrders.f 20 ((n.val : Int) - 1) = some (m.val : Int) ∧ laws_FnUnmatchedOrders.l0 740 ((n.val : Int) - 1) (m.val : Int) 0 0 = some true := by
  intro n
  have hc : n = 0 ∨ n = 1 ∨ n = 2 ∨ n = 3 ∨ n = 4 ∨ n = 5 ∨ n = 6 ∨ n = 7 ∨ n = 8 := by omega
  rcases hc with rfl | rfl | rfl | rfl | rfl | rfl | rfl | rfl | rfl
  · exact .inl (by decide +kernel)
  · exact .inr ⟨1, by decide +kernel⟩
  · exact .inr ⟨0, by decide +kernel⟩
  · exact .inr ⟨1, by decide +kernel⟩
  · exact .inr ⟨2, by decide +kernel⟩
  · exact .inr ⟨9, by decide +kernel⟩
  · exact .inr ⟨44, by decide +kernel⟩
  · exact .inr ⟨265, by decide +kernel⟩
  · exact .inl (by decide +kernel)
end FnUnmatchedOrders_parts
open FnUnmatchedOrders_parts
theorem FnUnmatchedOrders : laws_FnUnmatchedOrders.Pure := by
  intro l _ hl2 hw
  refine Ev.rounds ?_
  simp only [laws_FnUnmatchedOrders.f]
  by_cases h : (l.length : Int) > 1048576
  · exact ev_pos h (Ev.now _)
  · refine ev_neg h ?_
    obtain ⟨b, hb, hB⟩ := open_ev hw
    obtain ⟨r, hr, r0, r1, _⟩ := pick_ev hB 0 9 (by omega) (by omega) (by omega)
    have hr1 := r1 (by omega)
    simp only [spec_DrawUnmatchedOrders.f, hb]
    refine ev_bind (ev_bind (Ev.now _) (ev_bind hr (Ev.now _))) ?_
    rw [w64 (by simp only []; omega) (by simp only []; omega)]
    have e : (((⟨r.toNat, by omega⟩ : Fin 9).val : Nat) : Int) = r := by simp only []; omega
    have k := un_all ⟨r.toNat, by omega⟩
    rw [e] at k
    rcases k with k | ⟨m, k1, k2, k3⟩
    · simp only [Bool.and_eq_true, decide_eq_true_eq] at k
      refine ev_bind (Ev.of (fun k => impl_UnmatchedOrders.mono _ k) k.1) (ev_bind (Ev.of (fun k => spec_UnmatchedOrders.mono _ k) k.2) (ev_pos rfl (ev_pos (by omega) (ev_pos rfl (ev_bind alive_ev (Ev.now _))))))
    · exact ev_bind (Ev.of (fun k => impl_UnmatchedOrders.mono _ k) k1) (ev_bind (Ev.of (fun k => spec_UnmatchedOrders.mono _ k) k2) (ev_pos rfl (ev_neg (by omega) (Ev.of (fun k => laws_FnUnmatchedOrders.mono_l k _ _ _ _) k3))))
end Go.Proofs.Ytnajepeajjbhcaa.Pure
