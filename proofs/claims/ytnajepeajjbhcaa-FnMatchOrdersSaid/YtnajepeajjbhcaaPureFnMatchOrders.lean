/- For the law FnMatchOrders: for every code the orders with so many matches are as many as the reference tells, over all numbers of matches together all orders, and times their matches all orders too. The conditions: the bytes or numbers that come in are of their kinds, as the statement says. -/
import Derived.Test.YtnajepeajjbhcaaMFnMatchOrdersx3
import Derived.Test.YtnajepeajjbhcaaBase
namespace Go.Proofs.Ytnajepeajjbhcaa.Pure
open Go.RowKit Go.Proofs.Ytnajepeajjbhcaa.MFnMatchOrders Go.Proofs.YtnajepeajjbhcaaW.PrintWords Go.Proofs.YtnajepeajjbhcaaW.PrintLast Go.Proofs.Ytnajepeajjbhcaa.Base
namespace FnMatchOrders_parts
theorem xor_nn {x y : Int} (hx : 0 ≤ x) (hx' : x < 9223372036854775808) (hy : 0 ≤ y) (hy' : y < 9223372036854775808) : 0 ≤ Go.bits .xor .i64 x y := by
  obtain ⟨a, rfl⟩ := Int.eq_ofNat_of_zero_le hx
  obtain ⟨b, rfl⟩ := Int.eq_ofNat_of_zero_le hy
  have ha : a < 2 ^ 63 := by omega
  have hb : b < 2 ^ 63 := by omega
  have hc : a ^^^ b < 2 ^ 63 := Nat.xor_lt_two_pow ha hb
  have h1 : (BitVec.ofInt 64 (a : Int)).toNat = a := by
    rw [BitVec.ofInt_natCast, BitVec.toNat_ofNat]; exact Nat.mod_eq_of_lt (by omega)
  have h2 : (BitVec.ofInt 64 (b : Int)).toNat = b := by
    rw [BitVec.ofInt_natCast, BitVec.toNat_ofNat]; exact Nat.mod_eq_of_lt (by omega)
  show 0 ≤ IntKind.i64.wrap ((BitVec.ofInt 64 (a : Int) ^^^ BitVec.ofInt 64 (b : Int)).toNat : Int)
  rw [BitVec.toNat_xor, h1, h2, IntKind.wrap_i64]
  omega
def BytesOk (b : List Int) : Prop := (∀ x ∈ b, 0 ≤ x ∧ x ≤ 255) ∧ b.length ≤ 2000
theorem pick_ev {b : List Int} (hb : BytesOk b) (p n : Int) (h0 : 0 ≤ p) (hp : p ≤ 1000000000000) (hn : n ≤ 1000000000000) :
    ∃ r, Ev (fun k => spec_l20Rd_pick.f k b p n) (r, p + 1) ∧ 0 ≤ r ∧ (1 ≤ n → r < n) ∧ (n < 1 → r = 0) := by
  obtain ⟨hb, hl⟩ := hb
  by_cases hn1 : n < 1
  · refine ⟨0, ?_, by omega, by omega, fun _ => rfl⟩
    simp only [spec_l20Rd_pick.f]
    refine ev_pos hn1 (ev_suc ?_)
    simp (disch := omega) only [spec_l20Rd_pick.j0, if_true, w64]
    exact Ev.now _
  · have key : ∀ (x : Int), 0 ≤ x → 0 ≤ Int.tmod x n ∧ (1 ≤ n → Int.tmod x n < n) ∧ (n < 1 → Int.tmod x n = 0) := by
      intro x hx
      rw [Int.tmod_eq_emod_of_nonneg hx]
      have h1 := Int.emod_nonneg x (b := n) (by omega)
      have h2 := Int.emod_lt_of_pos x (b := n) (by omega)
      exact ⟨h1, fun _ => h2, fun h => absurd h hn1⟩
    by_cases hl0 : b.length = 0
    · refine ⟨0, ?_, by omega, by omega, fun _ => rfl⟩
      simp only [spec_l20Rd_pick.f]
      refine ev_neg hn1 (ev_suc ?_)
      have e : ((b.length : Int) == 0) = true := by simp [hl0]
      simp (disch := omega) only [spec_l20Rd_pick.j0, e, if_true, w64]
      exact Ev.now _
    · have e : ((b.length : Int) == 0) = false := by rw [beq_eq_false_iff_ne]; omega
      by_cases hlt : p < (b.length : Int)
      · have hm := hb _ (rd_mem h0 hlt)
        obtain ⟨k1, k2, k3⟩ := key (rd b p) hm.1
        refine ⟨Int.tmod (rd b p) n, ?_, k1, k2, k3⟩
        simp only [spec_l20Rd_pick.f]
        refine ev_neg hn1 (ev_suc ?_)
        have e1 : wrap64 (wrap64 (p + 1) - 1) = p := by rw [w64 (n := p + 1) (by omega) (by omega), w64 (by omega) (by omega)]; omega
        have e2 : wrap64 (rd b p) = rd b p := w64 (by omega) (by omega)
        simp only [spec_l20Rd_pick.j0, e, e1, e2, Bool.false_eq_true, if_false]
        refine ev_pos hlt (ev_pos h0 (ev_neg (by omega) (ev_now ?_)))
        rw [w64 (by omega) (by omega)]
      · have hL : 0 < (b.length : Int) := by omega
        have m1a := Int.emod_nonneg p (b := (b.length : Int)) (by omega)
        have m1b := Int.emod_lt_of_pos p (b := (b.length : Int)) hL
        have m2a := Int.emod_nonneg (p * 7 + 3) (b := (b.length : Int)) (by omega)
        have m2b := Int.emod_lt_of_pos (p * 7 + 3) (b := (b.length : Int)) hL
        have r1 := hb _ (rd_mem m1a m1b)
        have r2 := hb _ (rd_mem m2a m2b)
        have d1 : 0 ≤ p / (b.length : Int) := Int.ediv_nonneg h0 (by omega)
        have d2 : p / (b.length : Int) ≤ p := Int.ediv_le_self _ h0
        have e1 : wrap64 (wrap64 (p + 1) - 1) = p := by rw [w64 (n := p + 1) (by omega) (by omega), w64 (by omega) (by omega)]; omega
        have e1' : wrap64 (p + 1 - 1) = p := by rw [w64 (by omega) (by omega)]; omega
        have e3 : Int.tmod p (b.length : Int) = p % (b.length : Int) := Int.tmod_eq_emod_of_nonneg h0
        have e4 : Int.tmod (p * 7 + 3) (b.length : Int) = (p * 7 + 3) % (b.length : Int) := Int.tmod_eq_emod_of_nonneg (by omega)
        have e5 : Int.tdiv p (b.length : Int) = p / (b.length : Int) := Int.tdiv_eq_ediv_of_nonneg h0
        generalize hu : rd b (p % (b.length : Int)) = u at r1
        generalize hv : rd b ((p * 7 + 3) % (b.length : Int)) = v at r2
        generalize hd : p / (b.length : Int) = d at d1 d2
        have hx0 : 0 ≤ u * 131 + v * 1117 + p * 29 + d * 53 := by omega
        have e6 : Int.tdiv (u * 131 + v * 1117 + p * 29 + d * 53) 64 = (u * 131 + v * 1117 + p * 29 + d * 53) / 64 := Int.tdiv_eq_ediv_of_nonneg hx0
        obtain ⟨k1, k2, k3⟩ := key (Go.bits .xor .i64 (u * 131 + v * 1117 + p * 29 + d * 53) ((u * 131 + v * 1117 + p * 29 + d * 53) / 64)) (xor_nn (by omega) (by omega) (by omega) (by omega))
        refine ⟨_, ?_, k1, k2, k3⟩
        simp only [spec_l20Rd_pick.f]
        refine ev_neg hn1 (ev_suc ?_)
        have f1 : wrap64 (p * 7) = p * 7 := w64 (by omega) (by omega)
        have f2 : wrap64 (p * 7 + 3) = p * 7 + 3 := w64 (by omega) (by omega)
        have f3 : wrap64 u = u := w64 (by omega) (by omega)
        have f4 : wrap64 v = v := w64 (by omega) (by omega)
        have f5 : wrap64 (u * 131) = u * 131 := w64 (by omega) (by omega)
        have f6 : wrap64 (v * 1117) = v * 1117 := w64 (by omega) (by omega)
        have f7 : wrap64 (u * 131 + v * 1117) = u * 131 + v * 1117 := w64 (by omega) (by omega)
        have f8 : wrap64 (p * 29) = p * 29 := w64 (by omega) (by omega)
        have f9 : wrap64 (u * 131 + v * 1117 + p * 29) = u * 131 + v * 1117 + p * 29 := w64 (by omega) (by omega)
        have f10 : wrap64 d = d := w64 (by omega) (by omega)
        have f11 : wrap64 (d * 53) = d * 53 := w64 (by omega) (by omega)
        have f12 : wrap64 (u * 131 + v * 1117 + p * 29 + d * 53) = u * 131 + v * 1117 + p * 29 + d * 53 := w64 (by omega) (by omega)
        have f13 : wrap64 ((u * 131 + v * 1117 + p * 29 + d * 53) / 64) = (u * 131 + v * 1117 + p * 29 + d * 53) / 64 := w64 (by omega) (by omega)
        have f14 : wrap64 (p + 1) = p + 1 := w64 (by omega) (by omega)
        simp only [spec_l20Rd_pick.j0, e, e1, f14, e1', f1, f2, e3, e4, e5, hu, hv, hd, f3, f4, f5, f6, f7, f8, f9, f10, f11, f12, e6, f13, Bool.false_eq_true, if_false]
        exact ev_neg hlt (ev_neg (by omega) (ev_pos m1a (ev_pos m1b (ev_pos m2a (ev_pos m2b (ev_neg (by omega) (Ev.now _)))))))
theorem open_ev {l : List Int} (hl : ∀ x ∈ l, (Lit.int .u8 x).wf = true) : ∃ b, spec_l20Open.f l = some (b, 0) ∧ BytesOk b := by
  have hw : ∀ x ∈ l, 0 ≤ x ∧ x ≤ 255 := fun x hx => by
    have := hl x hx
    simp [Lit.wf, IntKind.min, IntKind.max, IntKind.bits, IntKind.signed] at this
    omega
  by_cases h : (l.length : Int) > 2000
  · exact ⟨l.take 2000, by simp (disch := omega) only [spec_l20Open.f, if_pos], fun x hx => hw x (List.mem_of_mem_take hx), by rw [List.length_take]; omega⟩
  · exact ⟨l, by simp (disch := omega) only [spec_l20Open.f, if_neg], hw, by omega⟩
theorem drawMatch_ev {l : List Int} (hw : ∀ x ∈ l, (Lit.int .u8 x).wf = true) : ∃ h m : Int, Ev (fun k => spec_DrawMatchOrders.f k l) (h, m) ∧ 0 ≤ h ∧ h ≤ 13 ∧ -8 ≤ m ∧ m ≤ 6 := by
  obtain ⟨b, hb, hB⟩ := open_ev hw
  obtain ⟨r1, e1, a1, b1, _⟩ := pick_ev hB 0 7 (by omega) (by omega) (by omega)
  have c1 := b1 (by omega)
  obtain ⟨r2, e2, a2, b2, _⟩ := pick_ev hB (0 + 1) 40 (by omega) (by omega) (by omega)
  have c2 := b2 (by omega)
  obtain ⟨r3, e3, a3, b3, _⟩ := pick_ev hB (0 + 1 + 1) (r1 + 1) (by omega) (by omega) (by omega)
  have c3 := b3 (by omega)
  obtain ⟨r4, e4, a4, b4, _⟩ := pick_ev hB (0 + 1 + 1 + 1) 40 (by omega) (by omega) (by omega)
  have c4 := b4 (by omega)
  have d2 : Int.tdiv r2 39 = r2 / 39 := Int.tdiv_eq_ediv_of_nonneg a2
  have d4 : Int.tdiv r4 39 = r4 / 39 := Int.tdiv_eq_ediv_of_nonneg a4
  refine ⟨r1 + r2 / 39 * 7, r3 - r4 / 39 * 8, ?_, by omega, by omega, by omega, by omega⟩
  simp only [spec_DrawMatchOrders.f, hb]
  refine ev_bind (Ev.now _) (ev_bind e1 (ev_bind e2 ?_))
  simp only []
  rw [w64 (n := r1 + 1) (by omega) (by omega)]
  refine ev_bind e3 (ev_bind e4 ?_)
  simp only [d2, d4]
  simp (disch := omega) only [w64]
  exact Ev.now _
theorem alive_ev : Ev (fun k => laws_alive.f k) true := Ev.of laws_alive.mono (k := 5) (by decide +kernel)
theorem mo_all : ∀ h : Fin 14, ∀ m : Fin 15, (match impl_MatchOrders.f 20 (h.val : Int) ((m.val : Int) - 8), spec_MatchOrders.f 20 (h.val : Int) ((m.val : Int) - 8) with
    | some a, some b => decide (a = b) && (decide (a = -1) || (decide (0 ≤ a) && decide (h.val ≤ 6)))
    | _, _ => false) = true := by decide +kernel
theorem mo_loop : ∀ h : Fin 7, laws_FnMatchOrders.l0 20 (h.val : Int) 0 0 0 = some true := by decide +kernel
end FnMatchOrders_parts
open FnMatchOrders_parts
theorem FnMatchOrders : laws_FnMatchOrders.Pure := by
  intro l _ hl2 hw
  refine Ev.rounds ?_
  simp only [laws_FnMatchOrders.f]
  by_cases hlen : (l.length : Int) > 1048576
  · exact ev_pos hlen (Ev.now _)
  · refine ev_neg hlen ?_
    obtain ⟨h, m, hd, h0, h1, m0, m1⟩ := drawMatch_ev hw
    refine ev_bind hd ?_
    have k := mo_all ⟨h.toNat, by omega⟩ ⟨(m + 8).toNat, by omega⟩
    have eh : ((h.toNat : Nat) : Int) = h := by omega
    have em : (((m + 8).toNat : Nat) : Int) - 8 = m := by omega
    simp only [eh, em] at k
    cases e1 : impl_MatchOrders.f 20 h m with
    | none => simp [e1] at k
    | some a =>
      cases e2 : spec_MatchOrders.f 20 h m with
      | none => simp [e1, e2] at k
      | some b =>
        simp only [e1, e2, Bool.and_eq_true, decide_eq_true_eq, Bool.or_eq_true] at k
        obtain ⟨rfl, k⟩ := k
        refine ev_bind (Ev.of (fun k => impl_MatchOrders.mono _ _ k) e1) (ev_bind (Ev.of (fun k => spec_MatchOrders.mono _ _ k) e2) (ev_pos rfl ?_))
        rcases k with rfl | ⟨k0, k6⟩
        · exact ev_pos (by omega) (ev_pos rfl (ev_bind alive_ev (Ev.now _)))
        · refine ev_neg (by omega) (Ev.of (fun k => laws_FnMatchOrders.mono_l k _ _ _ _) (k := 20) ?_)
          have := mo_loop ⟨h.toNat, by omega⟩
          simp only [eh] at this
          exact this
end Go.Proofs.Ytnajepeajjbhcaa.Pure
