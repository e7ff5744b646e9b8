/- For the law FnPlaceText: walks of the functions that it reaches: each call returns what the plain function beside it tells. The conditions stand in each statement. -/
import Derived.Test.YtlhiienanbpdlaaDoorV
import Derived.Test.YtlhiienanbpdlaaDoorMFnPlaceTextx0
import Derived.Test.YtlhiienanbpdlaaDoorMFnPlaceTextx1
namespace Go.Proofs.YtlhiienanbpdlaaDoor.MFnPlaceText
open Go.RowKit Go.Proofs.YtlhiienanbpdlaaDoorW.PrintWords Go.Proofs.YtlhiienanbpdlaaDoorW.PrintLast Go.Proofs.YtlhiienanbpdlaaDoorW.PrintMore
attribute [local go_sem] max2_int min2_int max_two min_two max_three min_three max_four min_four   -- for this text's walks alone
set_option linter.unusedVariables false
set_option linter.unusedSimpArgs false

/-! ### impl_after: function 79 -/
def impl_after.l0 : Nat → List (List Int) → List Int → List Int → Int → Int → Option (List Int)
 | 0, _, _, _, _, _ => none
 | k + 1, x1, x7, x12, x13, x14 => if x14 < x13 then (if 0 ≤ x14 then (if x14 < (x12.length : Int) then (if 0 ≤ (rd x12 x14) then (if (rd x12 x14) < (x1.length : Int) then ((impl_added.f k x7 (rd_L1 x1 (rd x12 x14))).bind fun aG => (impl_after.l0 k x1 aG x12 x13 (wrap64 (x14 + 1)))) else (none)) else (none)) else (none)) else (none)) else (some x7)
def impl_after.f (k : Nat) (l0 : List Int) (l1 : List (List Int)) (l2 : List Int) : Option (List Int) := (slices_Clone_int_int.f l0).bind fun aB => (impl_after.l0 k l1 aB l2 (l2.length : Int) 0)
theorem impl_after.mono_l : ∀ k, (∀ y0 y1 y2 y3 y4, LeO (impl_after.l0 k y0 y1 y2 y3 y4) (impl_after.l0 (k + 1) y0 y1 y2 y3 y4))
 | 0 => fun _ _ _ _ _ r h => by simp [impl_after.l0] at h
 | k + 1 => by
  have ih0 := impl_after.mono_l k
  ·
   intro y0 y1 y2 y3 y4
   unfold impl_after.l0
   repeat' (with_reducible first | exact ih0 _ _ _ _ _ | exact impl_added.mono _ _ _ | exact mr_ | exact mn_ | refine mi_ ?_ ?_ | refine mb_ ?_ (fun _ => ?_))
theorem impl_after.mono : ∀ a0 a1 a2 k, LeO (impl_after.f k a0 a1 a2) (impl_after.f (k + 1) a0 a1 a2) := by
 intro a0 a1 a2 k
 have ih0 := impl_after.mono_l k
 unfold impl_after.f
 repeat' (with_reducible first | exact ih0 _ _ _ _ _ | exact impl_added.mono _ _ _ | exact mr_ | exact mn_ | refine mi_ ?_ ?_ | refine mb_ ?_ (fun _ => ?_))
set_option maxHeartbeats 8000000 in
set_option maxRecDepth 100000 in
theorem impl_after.calls (k : Nat) (A0 : Option Addr) (c0 : Nat) (l0 : List Int) (A1 : Option Addr) (c1 : Nat) (l1 : List (List Int)) (A2 : Option Addr) (c2 : Nat) (l2 : List Int) (r : List Int) (w : World) (hr0 : Kd.C (Kd.int .i64) w A0 l0.length l0) (hc0 : l0.length ≤ c0) (hr1 : Kd.C (Kd.slice 3 (Kd.int .i64)) w A1 l1.length l1) (hc1 : l1.length ≤ c1) (hr2 : Kd.C (Kd.int .i64) w A2 l2.length l2) (hc2 : l2.length ≤ c2) (h : impl_after.f k l0 l1 l2 = some r) :
  Calls Tryd.prog 79 #[.slice A0 l0.length c0, .slice A1 l1.length c1, .slice A2 l2.length c2] w fun e w' => ∃ v0_ : Value, e = .returned (v0_) ∧ Kd.R (Kd.int .i64) 3 w' w.heap.size (fun _ => True) v0_ r ∧ Below w.heap.size w w' := by
 have HR0 := Aside0.mk hr0
 have HC0 := Aside0.mk hc0
 clear hr0 hc0
 have HR1 := Aside0.mk hr1
 have HC1 := Aside0.mk hc1
 clear hr1 hc1
 have HR2 := Aside0.mk hr2
 have HC2 := Aside0.mk hc2
 clear hr2 hc2
 have HB := Aside0.mk (Below.refl w.heap.size w)
 have H : ((slices_Clone_int_int.f l0).bind fun aB => (impl_after.l0 k l1 aB l2 (l2.length : Int) 0)) = some r := h
 clear h
 obtain ⟨aB, A4, H⟩ := bnd_ H
 try dsimp only at H
 have H' := Aside0.mk H
 clear H
 go_enter Tryd.func79, Tryd.ntmps79
 go_wp2_with (first | ((with_reducible refine gate_callee (f := 113) rfl ?_); refine gl_ (some 11) Tryd.func113 #[.slice A0 l0.length c0] ?_; (with_reducible refine (slices_Clone_int_int.calls _ _ l0 aB _ ?s1 ?s2 A4.out).mono ?_); (case s1 => exact td_); (case s2 => exact HC0.out); rintro e w5 ⟨bM, rfl, ho0, hb⟩; refine ⟨_, rfl, ?_⟩; have bl := rx_ ho0 HB; replace HB := bs_ HB hb; (try clear hb); (try clear hb2); (try clear hk); (try clear hi); (try clear ho0)))
 go_loopg [7, 14] k (fun kq v7 bN w' => ∃ (ae : List Int) (af : Int), bN = .int .i64 af ∧ Aside0 (impl_after.l0 kq l1 ae l2 (l2.length : Int) af = some r) ∧ Aside0 (kq ≤ k) ∧ Aside0 (Kd.R (Kd.int .i64) 3 w' w.heap.size (fun _ => True) v7 ae) ∧ Aside0 (Below w.heap.size w w'))
 case atStart => exact ⟨(aB), (0), tx_, H', ⟨Nat.le_refl _⟩, ⟨rR_ bl.out⟩, ⟨(tb_ HB.out)⟩⟩
 case round =>
  clear H'
  try clear c1
  try clear c2
  try clear p2
  obtain ⟨ae, af, rfl, HA, HK1, aw, HB⟩ := hrel
  cases gk with
  | zero => exact absurd HA.out (by simp [impl_after.l0])
  | succ k1 =>
   have H := HA.out
   clear HA
   simp only [impl_after.l0] at H
   by_cases c6 : af < (l2.length : Int)
   ·
    rw [if_pos c6] at H
    have am : decide (af < (l2.length : Int)) = true := decide_eq_true c6
    clear c6
    by_cases c7 : 0 ≤ af
    ·
     rw [if_pos c7] at H
     have bw : decide (0 ≤ af) = true := decide_eq_true c7
     clear c7
     by_cases c8 : af < (l2.length : Int)
     ·
      rw [if_pos c8] at H
      have aH : decide (af < (l2.length : Int)) = true := decide_eq_true c8
      clear c8
      by_cases c9 : 0 ≤ (rd l2 af)
      ·
       rw [if_pos c9] at H
       have bO : decide (0 ≤ (rd l2 af)) = true := decide_eq_true c9
       clear c9
       by_cases c10 : (rd l2 af) < (l1.length : Int)
       ·
        rw [if_pos c10] at H
        have bm : decide ((rd l2 af) < (l1.length : Int)) = true := decide_eq_true c10
        clear c10
        obtain ⟨aG, A11, H⟩ := bnd_ H
        try dsimp only at H
        have H' := Aside0.mk H
        clear H
        have p133 : 0 ≤ (af : Int) := od_
        have q133 : af < (l2.length : Int) := od_
        obtain ⟨ad133, e133, an⟩ := Kd.at_int HR2.out af p133 q133
        cases e133
        replace an := (HB.out.cell (World.block_lt_of_cell? w _ an)).trans an
        replace p133 := eq_true p133
        replace q133 := eq_true q133
        have p134 : 0 ≤ ((rd l2 af) : Int) := od_
        have q134 : (rd l2 af) < (l1.length : Int) := od_
        obtain ⟨ad134, a5, a6, e134, ao, hl134_0, hi134_0⟩ := at_L1 HR1.out (rd l2 af) p134 q134
        cases e134
        replace ao := (HB.out.cell (World.block_lt_of_cell? w _ ao)).trans ao
        have bv := Aside0.mk hi134_0
        have aI := Aside0.mk hl134_0
        clear hi134_0 hl134_0
        replace p134 := eq_true p134
        replace q134 := eq_true q134
        obtain ⟨bx, bz, bB⟩ := Kd.R_slice aw.out
        subst bB
        go_wp2_with (first | ((with_reducible refine gate_callee (f := 120) rfl ?_); refine gl_ (some 23) Tryd.func120 #[.slice bx ae.length bz, .slice a5 (rd_L1 l1 (rd l2 af)).length a6] ?_; (with_reducible refine (impl_added.calls k1 _ _ ae _ _ (rd_L1 l1 (rd l2 af)) aG _ ?s1 ?s2 ?s3 ?s4 A11.out).mono ?_); (case s1 => repeat (first | exact (Kd.R_reads' aw.out).2.2 | (with_reducible refine Kd.C_alloc ?_ _) | (with_reducible refine Kd.C_drewN ?_ _) | (with_reducible refine Kd.C_drew ?_))); (case s2 => exact (Kd.R_reads' aw.out).2.1); (case s3 => exact tD_); (case s4 => exact aI.out); rintro e b1 ⟨bP, rfl, ho0, hb⟩; refine ⟨_, rfl, ?_⟩; have bn := Aside0.mk (Kd.R_lower (Kd.R_new' ho0 (Kd.R_lt (rR_ aw.out))) (below_size (tb_ HB.out))); replace aw := Aside0.mk (Kd.R_elder' (rR_ aw.out) (Kd.R_base ho0) hb); replace HB := bs_ HB hb; (try clear hb); (try clear hb2); (try clear hk); (try clear hi); (try clear ho0)))
        go_roundg k1
        case measure => have := HK1.out; omega
        case rel => exact ⟨(aG), (wrap64 (af + 1)), tx_, H', ⟨by have := HK1.out; omega⟩, ⟨by refine qR_ ?_; exact Kd.R_mono bn.out (fun _ hk => trivial)⟩, ⟨(tb_ HB.out)⟩⟩
       ·
        rw [if_neg c10] at H
        exact absurd H (by simp)
      ·
       rw [if_neg c9] at H
       exact absurd H (by simp)
     ·
      rw [if_neg c8] at H
      exact absurd H (by simp)
    ·
     rw [if_neg c7] at H
     exact absurd H (by simp)
   ·
    rw [if_neg c6] at H
    have am : decide (af < (l2.length : Int)) = false := decide_eq_false c6
    clear c6
    obtain rfl := Option.some.inj H
    go_wp2
    go_ret
    exact ⟨_, tw_, by refine qR_ ?_; exact aw.out, (tb_ HB.out)⟩

/-! ### impl_ruleWays: function 78 -/
def impl_ruleWays.l0 : Nat → List Int → List (List Int) → List Int → Int → List Int → Int → Int → Option (Int)
 | 0, _, _, _, _, _, _, _ => none
 | k + 1, x0, x1, x2, x7, x10, x11, x12 => if x12 < x11 then (if 0 ≤ x12 then (if x12 < (x10.length : Int) then (if x12 ≤ (x2.length : Int) then ((impl_after.f k x0 x1 (x2.take (x12 : Int).toNat)).bind fun ai => (if 0 ≤ (rd x10 x12) then (if (rd x10 x12) < (ai.length : Int) then (if (wrap64 (x7 * (mx 0 (rd ai (rd x10 x12))))) = 0 then (some 0) else (impl_ruleWays.l0 k x0 x1 x2 (wrap64 (x7 * (mx 0 (rd ai (rd x10 x12))))) x10 x11 (wrap64 (x12 + 1)))) else (none)) else (none))) else (none)) else (none)) else (none)) else (some x7)
def impl_ruleWays.f (k : Nat) (l0 : List Int) (l1 : List (List Int)) (l2 : List Int) : Option (Int) := impl_ruleWays.l0 k l0 l1 l2 1 l2 (l2.length : Int) 0
theorem impl_ruleWays.mono_l : ∀ k, (∀ y0 y1 y2 y3 y4 y5 y6, LeO (impl_ruleWays.l0 k y0 y1 y2 y3 y4 y5 y6) (impl_ruleWays.l0 (k + 1) y0 y1 y2 y3 y4 y5 y6))
 | 0 => fun _ _ _ _ _ _ _ r h => by simp [impl_ruleWays.l0] at h
 | k + 1 => by
  have ih0 := impl_ruleWays.mono_l k
  ·
   intro y0 y1 y2 y3 y4 y5 y6
   unfold impl_ruleWays.l0
   repeat' (with_reducible first | exact ih0 _ _ _ _ _ _ _ | exact impl_after.mono _ _ _ _ | exact mr_ | exact mn_ | refine mi_ ?_ ?_ | refine mb_ ?_ (fun _ => ?_))
theorem impl_ruleWays.mono : ∀ a0 a1 a2 k, LeO (impl_ruleWays.f k a0 a1 a2) (impl_ruleWays.f (k + 1) a0 a1 a2) := by
 intro a0 a1 a2 k
 have ih0 := impl_ruleWays.mono_l k
 unfold impl_ruleWays.f
 repeat' (with_reducible first | exact ih0 _ _ _ _ _ _ _ | exact impl_after.mono _ _ _ _ | exact mr_ | exact mn_ | refine mi_ ?_ ?_ | refine mb_ ?_ (fun _ => ?_))
set_option maxHeartbeats 8000000 in
set_option maxRecDepth 100000 in
theorem impl_ruleWays.calls (k : Nat) (A0 : Option Addr) (c0 : Nat) (l0 : List Int) (A1 : Option Addr) (c1 : Nat) (l1 : List (List Int)) (A2 : Option Addr) (c2 : Nat) (l2 : List Int) (r : Int) (w : World) (hr0 : Kd.C (Kd.int .i64) w A0 l0.length l0) (hc0 : l0.length ≤ c0) (hr1 : Kd.C (Kd.slice 3 (Kd.int .i64)) w A1 l1.length l1) (hc1 : l1.length ≤ c1) (hr2 : Kd.C (Kd.int .i64) w A2 l2.length l2) (hc2 : l2.length ≤ c2) (h : impl_ruleWays.f k l0 l1 l2 = some r) :
  Calls Tryd.prog 78 #[.slice A0 l0.length c0, .slice A1 l1.length c1, .slice A2 l2.length c2] w fun e w' => e = .returned (.int .i64 r) ∧ Below w.heap.size w w' := by
 have HR0 := Aside0.mk hr0
 have HC0 := Aside0.mk hc0
 clear hr0 hc0
 have HR1 := Aside0.mk hr1
 have HC1 := Aside0.mk hc1
 clear hr1 hc1
 have HR2 := Aside0.mk hr2
 have HC2 := Aside0.mk hc2
 clear hr2 hc2
 have HB := Aside0.mk (Below.refl w.heap.size w)
 have H : (impl_ruleWays.l0 k l0 l1 l2 1 l2 (l2.length : Int) 0) = some r := h
 clear h
 have H' := Aside0.mk H
 clear H
 go_enter Tryd.func78, Tryd.ntmps78
 go_wp2
 go_loopg [7, 12] k (fun kq v7 bQ w' => ∃ (ae : Int) (aa : Int), v7 = .int .i64 ae ∧ bQ = .int .i64 aa ∧ Aside0 (impl_ruleWays.l0 kq l0 l1 l2 ae l2 (l2.length : Int) aa = some r) ∧ Aside0 (kq ≤ k) ∧ Aside0 (Below w.heap.size w w'))
 case atStart => exact ⟨(1), (0), tx_, tx_, H', ⟨Nat.le_refl _⟩, ⟨(tb_ HB.out)⟩⟩
 case round =>
  clear H'
  try clear c1
  try clear c2
  try clear p2
  obtain ⟨ae, aa, rfl, rfl, HA, HK1, HB⟩ := hrel
  cases gk with
  | zero => exact absurd HA.out (by simp [impl_ruleWays.l0])
  | succ k1 =>
   have H := HA.out
   clear HA
   simp only [impl_ruleWays.l0] at H
   by_cases c4 : aa < (l2.length : Int)
   ·
    rw [if_pos c4] at H
    have bo : decide (aa < (l2.length : Int)) = true := decide_eq_true c4
    clear c4
    by_cases c5 : 0 ≤ aa
    ·
     rw [if_pos c5] at H
     have bp : decide (0 ≤ aa) = true := decide_eq_true c5
     clear c5
     by_cases c6 : aa < (l2.length : Int)
     ·
      rw [if_pos c6] at H
      have am : decide (aa < (l2.length : Int)) = true := decide_eq_true c6
      clear c6
      have bw := eq_true (od_ : 0 ≤ aa)
      by_cases c8 : aa ≤ (l2.length : Int)
      ·
       rw [if_pos c8] at H
       have aH := eq_true c8
       have bR : decide (aa ≤ (l2.length : Int)) = true := decide_eq_true c8
       clear c8
       obtain ⟨ai, A9, H⟩ := bnd_ H
       try dsimp only at H
       by_cases c10 : 0 ≤ (rd l2 aa)
       ·
        rw [if_pos c10] at H
        have bm : decide (0 ≤ (rd l2 aa)) = true := decide_eq_true c10
        clear c10
        by_cases c11 : (rd l2 aa) < (ai.length : Int)
        ·
         rw [if_pos c11] at H
         have bI : decide ((rd l2 aa) < (ai.length : Int)) = true := decide_eq_true c11
         clear c11
         obtain ⟨ap, al⟩ : ∃ j_ : Int, (mx 0 (rd ai (rd l2 aa))) = j_ := ⟨_, rfl⟩
         replace H : (if (wrap64 (ae * (ap))) = 0 then (some 0) else (impl_ruleWays.l0 k1 l0 l1 l2 (wrap64 (ae * (ap))) l2 (l2.length : Int) (wrap64 (aa + 1)))) = some r := by first | (rw [al] at H; exact H) | (simp only [al] at H ⊢; exact H)
         (try rw [al] at A9)
         have hji12_ : (if 0 < (rd ai (rd l2 aa)) then (rd ai (rd l2 aa)) else 0) = ap := al
         by_cases c13 : (wrap64 (ae * (ap))) = 0
         ·
          rw [if_pos c13] at H
          have bq : ((wrap64 (ae * (ap))) == 0) = true := beq_iff_eq.mpr c13
          have br : ((wrap64 (ae * (ap))) != 0) = false := bne_eq_false_iff_eq.mpr c13
          clear c13
          obtain rfl := Option.some.inj H
          have p138 : 0 ≤ (aa : Int) := od_
          have q138 : aa < (l2.length : Int) := od_
          obtain ⟨ad138, e138, ah⟩ := Kd.at_int HR2.out aa p138 q138
          cases e138
          replace ah := (HB.out.cell (World.block_lt_of_cell? w _ ah)).trans ah
          replace p138 := eq_true p138
          replace q138 := eq_true q138
          obtain ⟨i014, hi014, _, hsz14, _⟩ := info_parts info3
          obtain ⟨hcut14, hA14, hC14⟩ := print_take_of (P := Tryd.prog) (Value.int .i64) 0 23 3 .i64 Tryd.underlying23 hi014 hsz14 (some ad138) c2 l2 aa (od_) (od_) HC2.out
          have HR139 := Aside0.mk (Kd.C_of_reads (h1 := fun _ => rfl) (hA14 _ (Kd.reads_of_C HR2.out)))
          have HC139 := Aside0.mk hC14
          clear hA14 hC14 hi014 hsz14
          go_wp2_with (first | ((with_reducible refine gate_callee (f := 79) rfl ?_); refine goesL_ (some 23) rfl rfl Tryd.func79 (by kernel_rfl) rfl #[.slice A0 l0.length c0, .slice A1 l1.length c1, .slice (some ad138) (l2.take (aa : Int).toNat).length c2] rfl (by (try simp only [List.map_toArray, List.map_cons, List.map_nil]); first | done | (rw [show (l2.take (aa : Int).toNat).length = aa.toNat from (by rw [List.length_take]; have h_ : (aa : Int) ≤ (l2.length : Int) := od_; omega)] <;> rfl) | rfl | (simp only [List.length_drop, List.length_take]; rfl)) ?_; (with_reducible refine (impl_after.calls k1 _ _ l0 _ _ l1 _ _ (l2.take (aa : Int).toNat) ai _ ?s1 ?s2 ?s3 ?s4 ?s5 ?s6 A9.out).mono ?_); (case s1 => exact tD_); (case s2 => exact HC0.out); (case s3 => exact tD_); (case s4 => exact HC1.out); (case s5 => exact tD_); (case s6 => exact HC139.out); rintro e b2 ⟨bC, rfl, ho0, hb⟩; refine ⟨_, rfl, ?_⟩; have aq := rx_ ho0 HB; replace HB := bs_ HB hb; (try clear hb); (try clear hb2); (try clear hk); (try clear hi); (try clear ho0); obtain ⟨bS, bU, bD⟩ := Kd.R_slice aq.out; subst bD; have p143 : 0 ≤ ((rd l2 aa) : Int) := od_; have q143 : (rd l2 aa) < (ai.length : Int) := od_; obtain ⟨ad143, e143, aJ⟩ := Kd.at_int (Kd.R_reads' aq.out).2.2 (rd l2 aa) p143 q143; cases e143; replace p143 := eq_true p143; replace q143 := eq_true q143))
          go_ret
          exact ⟨by first | rfl | (simp [errW_none, errW_some, Option.map_none, Option.map_some] <;> rfl) | (simp only [← al]; first | rfl | (simp [errW_none, errW_some, Option.map_none, Option.map_some] <;> rfl)) | (simp [*, errW_none, errW_some] <;> rfl), (tb_ HB.out)⟩
         ·
          rw [if_neg c13] at H
          have bq : ((wrap64 (ae * (ap))) == 0) = false := beq_eq_false_iff_ne.mpr c13
          have br : ((wrap64 (ae * (ap))) != 0) = true := bne_iff_ne.mpr c13
          have H' := Aside0.mk H
          clear H
          have p138 : 0 ≤ (aa : Int) := od_
          have q138 : aa < (l2.length : Int) := od_
          obtain ⟨ad138, e138, ah⟩ := Kd.at_int HR2.out aa p138 q138
          cases e138
          replace ah := (HB.out.cell (World.block_lt_of_cell? w _ ah)).trans ah
          replace p138 := eq_true p138
          replace q138 := eq_true q138
          obtain ⟨i017, hi017, _, hsz17, _⟩ := info_parts info3
          obtain ⟨hcut17, hA17, hC17⟩ := print_take_of (P := Tryd.prog) (Value.int .i64) 0 23 3 .i64 Tryd.underlying23 hi017 hsz17 (some ad138) c2 l2 aa (od_) (od_) HC2.out
          have HR139 := Aside0.mk (Kd.C_of_reads (h1 := fun _ => rfl) (hA17 _ (Kd.reads_of_C HR2.out)))
          have HC139 := Aside0.mk hC17
          clear hA17 hC17 hi017 hsz17
          go_wp2_with (first | ((with_reducible refine gate_callee (f := 79) rfl ?_); refine goesL_ (some 23) rfl rfl Tryd.func79 (by kernel_rfl) rfl #[.slice A0 l0.length c0, .slice A1 l1.length c1, .slice (some ad138) (l2.take (aa : Int).toNat).length c2] rfl (by (try simp only [List.map_toArray, List.map_cons, List.map_nil]); first | done | (rw [show (l2.take (aa : Int).toNat).length = aa.toNat from (by rw [List.length_take]; have h_ : (aa : Int) ≤ (l2.length : Int) := od_; omega)] <;> rfl) | rfl | (simp only [List.length_drop, List.length_take]; rfl)) ?_; (with_reducible refine (impl_after.calls k1 _ _ l0 _ _ l1 _ _ (l2.take (aa : Int).toNat) ai _ ?s1 ?s2 ?s3 ?s4 ?s5 ?s6 A9.out).mono ?_); (case s1 => exact tD_); (case s2 => exact HC0.out); (case s3 => exact tD_); (case s4 => exact HC1.out); (case s5 => exact tD_); (case s6 => exact HC139.out); rintro e b3 ⟨bC, rfl, ho0, hb⟩; refine ⟨_, rfl, ?_⟩; have aq := rx_ ho0 HB; replace HB := bs_ HB hb; (try clear hb); (try clear hb2); (try clear hk); (try clear hi); (try clear ho0); obtain ⟨bV, bW, bE⟩ := Kd.R_slice aq.out; subst bE; have p143 : 0 ≤ ((rd l2 aa) : Int) := od_; have q143 : (rd l2 aa) < (ai.length : Int) := od_; obtain ⟨ad143, e143, aJ⟩ := Kd.at_int (Kd.R_reads' aq.out).2.2 (rd l2 aa) p143 q143; cases e143; replace p143 := eq_true p143; replace q143 := eq_true q143))
          go_roundg k1
          case measure => have := HK1.out; omega
          case rel => exact ⟨(wrap64 (ae * (ap))), (wrap64 (aa + 1)), (by first | rfl | (simp; done) | (simp only [← al] <;> (first | rfl | simp)) | (simp [*]; done)), tx_, H', ⟨by have := HK1.out; omega⟩, ⟨(tb_ HB.out)⟩⟩
        ·
         rw [if_neg c11] at H
         exact absurd H (by simp)
       ·
        rw [if_neg c10] at H
        exact absurd H (by simp)
      ·
       rw [if_neg c8] at H
       exact absurd H (by simp)
     ·
      rw [if_neg c6] at H
      exact absurd H (by simp)
    ·
     rw [if_neg c5] at H
     exact absurd H (by simp)
   ·
    rw [if_neg c4] at H
    have bo : decide (aa < (l2.length : Int)) = false := decide_eq_false c4
    clear c4
    obtain rfl := Option.some.inj H
    go_wp2
    go_ret
    exact ⟨tw_, (tb_ HB.out)⟩

/-! ### impl_StartOk: function 111 -/
def impl_StartOk.l0 : Nat → List Int → List Int → Int → Int → Option (Bool)
 | 0, _, _, _, _ => none
 | k + 1, x0, x5, x6, x7 => if x7 < x6 then (if 0 ≤ x7 then (if x7 < (x5.length : Int) then (if (rd x5 x7) > 10 then (some false) else (impl_StartOk.l0 k x0 x5 x6 (wrap64 (x7 + 1)))) else (none)) else (none)) else ((impl_UrnOk.f k x0).bind fun a7 => (some a7))
def impl_StartOk.f (k : Nat) (l0 : List Int) : Option (Bool) := impl_StartOk.l0 k l0 l0 (l0.length : Int) 0
theorem impl_StartOk.mono_l : ∀ k, (∀ y0 y1 y2 y3, LeO (impl_StartOk.l0 k y0 y1 y2 y3) (impl_StartOk.l0 (k + 1) y0 y1 y2 y3))
 | 0 => fun _ _ _ _ r h => by simp [impl_StartOk.l0] at h
 | k + 1 => by
  have ih0 := impl_StartOk.mono_l k
  ·
   intro y0 y1 y2 y3
   unfold impl_StartOk.l0
   repeat' (with_reducible first | exact ih0 _ _ _ _ | exact impl_UrnOk.mono _ _ | exact mr_ | exact mn_ | refine mi_ ?_ ?_ | refine mb_ ?_ (fun _ => ?_))
theorem impl_StartOk.mono : ∀ a0 k, LeO (impl_StartOk.f k a0) (impl_StartOk.f (k + 1) a0) := by
 intro a0 k
 have ih0 := impl_StartOk.mono_l k
 unfold impl_StartOk.f
 repeat' (with_reducible first | exact ih0 _ _ _ _ | exact impl_UrnOk.mono _ _ | exact mr_ | exact mn_ | refine mi_ ?_ ?_ | refine mb_ ?_ (fun _ => ?_))
set_option maxHeartbeats 8000000 in
set_option maxRecDepth 100000 in
theorem impl_StartOk.calls (k : Nat) (A0 : Option Addr) (c0 : Nat) (l0 : List Int) (r : Bool) (w : World) (hr0 : Kd.C (Kd.int .i64) w A0 l0.length l0) (hc0 : l0.length ≤ c0) (h : impl_StartOk.f k l0 = some r) :
  Calls Tryd.prog 111 #[.slice A0 l0.length c0] w fun e w' => e = .returned (.bool r) ∧ Drawn0 w w' := by
 have HR0 := Aside0.mk hr0
 have HC0 := Aside0.mk hc0
 clear hr0 hc0
 have H : (impl_StartOk.l0 k l0 l0 (l0.length : Int) 0) = some r := h
 clear h
 have H' := Aside0.mk H
 clear H
 go_enter Tryd.func111, Tryd.ntmps111
 go_wp2
 go_loopg [7] k (fun kq v7 w' => ∃ (ae : Int), v7 = .int .i64 ae ∧ Aside0 (impl_StartOk.l0 kq l0 l0 (l0.length : Int) ae = some r) ∧ Aside0 (kq ≤ k) ∧ Drawn0 w w')
 case atStart => exact ⟨(0), tx_, H', ⟨Nat.le_refl _⟩, by repeat (first | exact Drawn0.refl _ | apply Drawn0.step)⟩
 case round =>
  clear H'
  try clear c1
  obtain ⟨ae, rfl, HA, HK1, ⟨m1, rfl⟩⟩ := hrel
  cases gk with
  | zero => exact absurd HA.out (by simp [impl_StartOk.l0])
  | succ k1 =>
   have H := HA.out
   clear HA
   simp only [impl_StartOk.l0] at H
   by_cases c2 : ae < (l0.length : Int)
   ·
    rw [if_pos c2] at H
    have bF : decide (ae < (l0.length : Int)) = true := decide_eq_true c2
    clear c2
    by_cases c3 : 0 ≤ ae
    ·
     rw [if_pos c3] at H
     have bX : decide (0 ≤ ae) = true := decide_eq_true c3
     clear c3
     by_cases c4 : ae < (l0.length : Int)
     ·
      rw [if_pos c4] at H
      have bo : decide (ae < (l0.length : Int)) = true := decide_eq_true c4
      clear c4
      by_cases c5 : (rd l0 ae) > 10
      ·
       rw [if_pos c5] at H
       have bp : decide (10 < (rd l0 ae)) = true := decide_eq_true c5
       clear c5
       obtain rfl := Option.some.inj H
       have p144 : 0 ≤ (ae : Int) := od_
       have q144 : ae < (l0.length : Int) := od_
       obtain ⟨ad144, e144, aK⟩ := Kd.at_int HR0.out ae p144 q144
       cases e144
       replace p144 := eq_true p144
       replace q144 := eq_true q144
       go_wp2
       go_ret
       exact ⟨tx_, by repeat (first | exact Drawn0.refl _ | apply Drawn0.step)⟩
      ·
       rw [if_neg c5] at H
       have bp : decide (10 < (rd l0 ae)) = false := decide_eq_false c5
       clear c5
       have H' := Aside0.mk H
       clear H
       have p144 : 0 ≤ (ae : Int) := od_
       have q144 : ae < (l0.length : Int) := od_
       obtain ⟨ad144, e144, aK⟩ := Kd.at_int HR0.out ae p144 q144
       cases e144
       replace p144 := eq_true p144
       replace q144 := eq_true q144
       go_wp2
       go_roundg k1
       case measure => have := HK1.out; omega
       case rel => exact ⟨(wrap64 (ae + 1)), tx_, H', ⟨by have := HK1.out; omega⟩, by repeat (first | exact Drawn0.refl _ | apply Drawn0.step)⟩
     ·
      rw [if_neg c4] at H
      exact absurd H (by simp)
    ·
     rw [if_neg c3] at H
     exact absurd H (by simp)
   ·
    rw [if_neg c2] at H
    have bF : decide (ae < (l0.length : Int)) = false := decide_eq_false c2
    clear c2
    obtain ⟨a7, A6, H⟩ := bnd_ H
    try dsimp only at H
    obtain rfl := Option.some.inj H
    go_wp2_with (first | ((with_reducible refine gate_callee (f := 74) rfl ?_); refine gl_ (some 15) Tryd.func74 #[.slice A0 l0.length c0] ?_; (with_reducible refine (impl_UrnOk.calls k1 _ _ l0 a7 _ ?s1 ?s2 A6.out).mono ?_); (case s1 => exact td_); (case s2 => exact HC0.out); rintro e w' ⟨rfl, ⟨nd, rfl⟩⟩; refine ⟨_, rfl, ?_⟩))
    go_ret
    exact ⟨tx_, by repeat (first | exact Drawn0.refl _ | apply Drawn0.step)⟩

/-! ### impl_PlaceOk: function 63 -/
def impl_PlaceOk.j0 : Nat → Bool → List Int → Int → List Int → Option (Bool)
 | 0, _, _, _, _ => none
 | k + 1, x25, ay, aL, aM => if x25 = true then (some false) else ((impl_SameRule.f k (ay.length : Int) aL).bind fun ax => ((impl_ruleWays.f k ay ax aM).bind fun aE => (some (decide (aE > 0)))))
def impl_PlaceOk.f (k : Nat) (ac : List Int) (a0_1 : Int) (ag : List Int) : Option (Bool) := (impl_StartOk.f k ac).bind fun aF => (if aF = true then (if a0_1 < (-1) then (impl_PlaceOk.j0 k true ac a0_1 ag) else (if a0_1 > 3 then (impl_PlaceOk.j0 k true ac a0_1 ag) else ((impl_WordOk.f k (ac.length : Int) ag).bind fun ar => (impl_PlaceOk.j0 k (!ar) ac a0_1 ag)))) else (impl_PlaceOk.j0 k true ac a0_1 ag))
theorem impl_PlaceOk.mono_l : ∀ k, (∀ y0 y1 y2 y3, LeO (impl_PlaceOk.j0 k y0 y1 y2 y3) (impl_PlaceOk.j0 (k + 1) y0 y1 y2 y3))
 | 0 => fun _ _ _ _ r h => by simp [impl_PlaceOk.j0] at h
 | k + 1 => by
  have ih0 := impl_PlaceOk.mono_l k
  ·
   intro y0 y1 y2 y3
   unfold impl_PlaceOk.j0
   repeat' (with_reducible first | exact ih0 _ _ _ _ | exact impl_SameRule.mono _ _ _ | exact impl_StartOk.mono _ _ | exact impl_WordOk.mono _ _ _ | exact impl_ruleWays.mono _ _ _ _ | exact mr_ | exact mn_ | refine mi_ ?_ ?_ | refine mb_ ?_ (fun _ => ?_))
theorem impl_PlaceOk.mono : ∀ a0 a1 a2 k, LeO (impl_PlaceOk.f k a0 a1 a2) (impl_PlaceOk.f (k + 1) a0 a1 a2) := by
 intro a0 a1 a2 k
 have ih0 := impl_PlaceOk.mono_l k
 unfold impl_PlaceOk.f
 repeat' (with_reducible first | exact ih0 _ _ _ _ | exact impl_SameRule.mono _ _ _ | exact impl_StartOk.mono _ _ | exact impl_WordOk.mono _ _ _ | exact impl_ruleWays.mono _ _ _ _ | exact mr_ | exact mn_ | refine mi_ ?_ ?_ | refine mb_ ?_ (fun _ => ?_))
def impl_PlaceOk.T3 : Bool × List (List Nat × List Nat) := (true, [([], []), ([0], [0]), ([], []), ([2], [2]), ([3], [3]), ([], []), ([5], [5]), ([4, 6], [4, 6]), ([], []), ([8], [8]), ([1, 7, 9, 7], [1, 7, 9]), ([10], [10]), ([11, 10, 0, 1, 2, 3, 4, 5, 6, 7, 8, 9, 10, 11], [11])])
def impl_PlaceOk.B3 : List Nat := [0, 1, 0, 4, 12, 0, 32, 124, 0, 256, 1023, 2047, 4095]
theorem impl_PlaceOk.tab3 : rtab .any (opsOf Tryd.f63 3) = impl_PlaceOk.T3 := by kernel_rfl
theorem impl_PlaceOk.bits3 : waitsOk impl_PlaceOk.T3.2 impl_PlaceOk.B3 = true := by kernel_rfl
set_option maxHeartbeats 8000000 in
set_option maxRecDepth 100000 in
theorem impl_PlaceOk.calls (k : Nat) (aj : Option Addr) (ak : Nat) (ac : List Int) (a0_1 : Int) (aC : Option Addr) (aD : Nat) (ag : List Int) (r : Bool) (w : World) (hr0_0 : Kd.C (Kd.int .i64) w aj ac.length ac) (hc0_0 : ac.length ≤ ak) (hr0_2 : Kd.C (Kd.int .i64) w aC ag.length ag) (hc0_2 : ag.length ≤ aD) (h : impl_PlaceOk.f k ac a0_1 ag = some r) :
  Calls Tryd.prog 63 #[.agg #[.slice aj ac.length ak, .int .i64 a0_1, .slice aC ag.length aD]] w fun e w' => e = .returned (.bool r) ∧ Below w.heap.size w w' := by
 have hu25 := Tryd.underlying25
 have bJ := Aside0.mk hr0_0
 have au := Aside0.mk hc0_0
 clear hr0_0 hc0_0
 have bs := Aside0.mk hr0_2
 have a4 := Aside0.mk hc0_2
 clear hr0_2 hc0_2
 have HB := Aside0.mk (Below.refl w.heap.size w)
 have H : ((impl_StartOk.f k ac).bind fun aF => (if aF = true then (if a0_1 < (-1) then (impl_PlaceOk.j0 k true ac a0_1 ag) else (if a0_1 > 3 then (impl_PlaceOk.j0 k true ac a0_1 ag) else ((impl_WordOk.f k (ac.length : Int) ag).bind fun ar => (impl_PlaceOk.j0 k (!ar) ac a0_1 ag)))) else (impl_PlaceOk.j0 k true ac a0_1 ag))) = some r := h
 clear h
 have HC2 := Aside0.mk H
 clear H
 go_enter Tryd.func63, Tryd.ntmps63
 go_upto_region 1 with (first | ((with_reducible refine gate_dst (N := 1) rfl ?_); (try (refine gate_guard (by rfl) ?_; dsimp only)); refine box_event ?hg (N := 1) ?hd (cs := #[.slice aj ac.length ak, .int .i64 a0_1, .slice aC ag.length aD]) (t := 25) ?hr ?_; (case hd => rfl); (case hg => rfl); (case hr => first | (go_simp; done) | (go_simp; rfl)); intro az hg w3 hbox hb; have ab := Aside0.mk (hbox); have bK := gx_ HB hg; have bL := gx_ HB hg; replace HB := bs_ HB hb; clear hb hbox hg))
 (try simp only [Act.put, sa_, sb_, sc_])
 go_cut [25] (fun bZ wc => ∃ (kq : Nat) (aA : Bool), bZ = .bool aA ∧ Aside0 (impl_PlaceOk.j0 kq aA ac a0_1 ag = some r) ∧ Aside0 (kq ≤ k) ∧ Aside0 (wc.heap[az]? = some (.cells #[(.slice aj ac.length ak), .int .i64 a0_1, (.slice aC ag.length aD)] 25 (0, 0))) ∧ Aside0 (Below w.heap.size w wc))
 case first =>
  have H := HC2.out
  clear HC2
  obtain ⟨aF, A4, H⟩ := bnd_ H
  try dsimp only at H
  by_cases c5 : aF = true
  ·
   subst c5
   have H1 : (if a0_1 < (-1) then (impl_PlaceOk.j0 k true ac a0_1 ag) else (if a0_1 > 3 then (impl_PlaceOk.j0 k true ac a0_1 ag) else ((impl_WordOk.f k (ac.length : Int) ag).bind fun ar => (impl_PlaceOk.j0 k (!ar) ac a0_1 ag)))) = some r := by rw [if_pos rfl] at H; exact H
   clear H
   have H := H1
   clear H1
   by_cases c6 : a0_1 < (-1)
   ·
    rw [if_pos c6] at H
    have am : decide (a0_1 < (-1)) = true := decide_eq_true c6
    clear c6
    (first | rw [am] | (simp only [i64_w, i32_w]; rw [am]) | skip)
    have H' := Aside0.mk H
    clear H
    have a8 := cz_ ab 0
    have a9 := cz_ ab 1
    have bb := cz_ ab 2
    have bc := blk_frozen ab.out 0
    have bd := blk_frozen ab.out 1
    have be := blk_frozen ab.out 2
    go_wp2_with (first | ((with_reducible refine gate_callee (f := 111) rfl ?_); refine gl_ (some 5) Tryd.func111 #[.slice aj ac.length ak] ?_; (with_reducible refine (impl_StartOk.calls k _ _ ac true _ ?s1 ?s2 A4.out).mono ?_); (case s1 => exact tD_); (case s2 => exact au.out); rintro e w' ⟨rfl, ⟨nd, rfl⟩⟩; refine ⟨_, rfl, ?_⟩))
    go_meet
    case rel => exact ⟨_, (true), tx_, H', ⟨by first | omega | exact Nat.le_refl _⟩, ⟨tk_ ab.out⟩, ⟨(tb_ HB.out)⟩⟩
   ·
    rw [if_neg c6] at H
    have am : decide (a0_1 < (-1)) = false := decide_eq_false c6
    clear c6
    (first | rw [am] | (simp only [i64_w, i32_w]; rw [am]) | skip)
    by_cases c8 : a0_1 > 3
    ·
     rw [if_pos c8] at H
     have aH : decide (3 < a0_1) = true := decide_eq_true c8
     clear c8
     have H' := Aside0.mk H
     clear H
     have bf := cz_ ab 0
     have bg := cz_ ab 1
     have bh := cz_ ab 2
     have bi := blk_frozen ab.out 0
     have bj := blk_frozen ab.out 1
     have bk := blk_frozen ab.out 2
     go_wp2_with (first | ((with_reducible refine gate_callee (f := 111) rfl ?_); refine gl_ (some 5) Tryd.func111 #[.slice aj ac.length ak] ?_; (with_reducible refine (impl_StartOk.calls k _ _ ac true _ ?s1 ?s2 A4.out).mono ?_); (case s1 => exact tD_); (case s2 => exact au.out); rintro e w' ⟨rfl, ⟨nd, rfl⟩⟩; refine ⟨_, rfl, ?_⟩))
     go_meet
     case rel => exact ⟨_, (true), tx_, H', ⟨by first | omega | exact Nat.le_refl _⟩, ⟨tk_ ab.out⟩, ⟨(tb_ HB.out)⟩⟩
    ·
     rw [if_neg c8] at H
     have aH : decide (3 < a0_1) = false := decide_eq_false c8
     clear c8
     obtain ⟨ar, A10, H⟩ := bnd_ H
     try dsimp only at H
     have H' := Aside0.mk H
     clear H
     have aN := cz_ ab 0
     have aO := cz_ ab 1
     have aP := cz_ ab 2
     have aQ := blk_frozen ab.out 0
     have aR := blk_frozen ab.out 1
     have aU := blk_frozen ab.out 2
     go_wp2_with (first | ((with_reducible refine gate_callee (f := 111) rfl ?_); refine gl_ (some 5) Tryd.func111 #[.slice aj ac.length ak] ?_; (with_reducible refine (impl_StartOk.calls k _ _ ac true _ ?s1 ?s2 A4.out).mono ?_); (case s1 => exact tD_); (case s2 => exact au.out); rintro e w' ⟨rfl, ⟨nd, rfl⟩⟩; refine ⟨_, rfl, ?_⟩) | (go_at_call 77; (with_reducible refine (impl_WordOk.calls k (ac.length : Int) _ _ ag ar _ ?s1 ?s2 A10.out).mono ?_); (case s1 => repeat (first | exact (Kd.C_below bs.out (tb_ HB.out)) | (with_reducible refine Kd.C_alloc ?_ _) | (with_reducible refine Kd.C_drewN ?_ _) | (with_reducible refine Kd.C_drew ?_))); (case s2 => exact a4.out); rintro e w' ⟨rfl, ⟨nd, rfl⟩⟩))
     go_meet
     case rel => exact ⟨_, (!ar), tx_, H', ⟨by first | omega | exact Nat.le_refl _⟩, ⟨tk_ ab.out⟩, ⟨(tb_ HB.out)⟩⟩
  ·
   replace c5 := Bool.eq_false_iff.mpr c5
   subst c5
   have H1 : (impl_PlaceOk.j0 k true ac a0_1 ag) = some r := by rw [if_neg (show ¬ (false = true) by decide)] at H; exact H
   clear H
   have H := H1
   clear H1
   have H' := Aside0.mk H
   clear H
   have aV := cz_ ab 0
   have aW := cz_ ab 1
   have aX := cz_ ab 2
   have aY := blk_frozen ab.out 0
   have aZ := blk_frozen ab.out 1
   have a3 := blk_frozen ab.out 2
   go_wp2_with (first | ((with_reducible refine gate_callee (f := 111) rfl ?_); refine gl_ (some 5) Tryd.func111 #[.slice aj ac.length ak] ?_; (with_reducible refine (impl_StartOk.calls k _ _ ac false _ ?s1 ?s2 A4.out).mono ?_); (case s1 => exact tD_); (case s2 => exact au.out); rintro e w' ⟨rfl, ⟨nd, rfl⟩⟩; refine ⟨_, rfl, ?_⟩))
   go_meet
   case rel => exact ⟨_, (true), tx_, H', ⟨by first | omega | exact Nat.le_refl _⟩, ⟨tk_ ab.out⟩, ⟨(tb_ HB.out)⟩⟩
 case rest =>
  clear HC2
  try clear c1
  try clear p2
  try clear c5
  try clear c6
  try clear am
  try clear c8
  try clear aH
  try clear c11
  try clear aN
  try clear aO
  try clear aP
  try clear aV
  try clear aW
  try clear aX
  try clear a8
  try clear a9
  try clear bb
  try clear bf
  try clear bg
  try clear bh
  try clear aQ
  try clear aR
  try clear aU
  try clear aY
  try clear aZ
  try clear a3
  try clear bc
  try clear bd
  try clear be
  try clear bi
  try clear bj
  try clear bk
  obtain ⟨kq, aA, rfl, HA, HJ1, ab, HB⟩ := hcut
  cases kq with
  | zero => exact absurd HA.out (by simp [impl_PlaceOk.j0])
  | succ kj1 =>
   have H := HA.out
   clear HA
   simp only [impl_PlaceOk.j0] at H
   by_cases c13 : aA = true
   ·
    subst c13
    have H1 : (some false) = some r := by rw [if_pos rfl] at H; exact H
    clear H
    have H := H1
    clear H1
    obtain rfl := Option.some.inj H
    go_wp2
    go_ret
    exact ⟨tw_, (tb_ HB.out)⟩
   ·
    replace c13 := Bool.eq_false_iff.mpr c13
    subst c13
    have H1 : ((impl_SameRule.f kj1 (ac.length : Int) a0_1).bind fun ax => ((impl_ruleWays.f kj1 ac ax ag).bind fun aE => (some (decide (aE > 0))))) = some r := by rw [if_neg (show ¬ (false = true) by decide)] at H; exact H
    clear H
    have H := H1
    clear H1
    obtain ⟨ax, A14, H⟩ := bnd_ H
    try dsimp only at H
    obtain ⟨aE, A15, H⟩ := bnd_ H
    try dsimp only at H
    obtain rfl := Option.some.inj H
    try go_wp2
    replace ab := dB_ ab
    replace HB := Aside0.mk (ld_ HB.out)
    refine start_ (n := 13) (S := fun w' => w'.cell? ⟨az, 0, none⟩ = some (.slice aj ac.length ak) ∧ w'.cell? ⟨az, 1, none⟩ = some (.int .i64 a0_1) ∧ w'.cell? ⟨az, 2, none⟩ = some (.slice aC ag.length aD)) (ds := []) #[false, false, false, false, false, false, false, false, false, false, false, false, false] (by kernel_rfl) rfl rfl hh_ (fun hHeld => ?_); refine with_tabW impl_PlaceOk.tab3 impl_PlaceOk.bits3 (fun HT_ HW_ => ?_)
    generalize wc.drew = b4 at ab HB hHeld ⊢
    refine pu_ 0 (some 26) #[true, false, false, false, false, false, false, false, false, false, false, false, false] HT_ rfl rfl ?_
    refine pu_ 2 (some 28) #[true, false, true, false, false, false, false, false, false, false, false, false, false] HT_ rfl rfl ?_
    refine pu_ 5 (some 31) #[true, false, true, false, false, true, false, false, false, false, false, false, false] HT_ rfl rfl ?_
    refine pu_ 8 (some 34) #[true, false, true, false, false, true, false, false, true, false, false, false, false] HT_ rfl rfl ?_
    refine ta_ 1 (some 27) #[true, true, true, false, false, true, false, false, true, false, false, false, false] HT_ HW_ hHeld rfl rfl ?_
    refine ta_ 3 (some 29) #[true, true, true, true, false, true, false, false, true, false, false, false, false] HT_ HW_ hHeld rfl rfl ?_
    refine pu_ 4 (some 30) #[true, true, true, true, true, true, false, false, true, false, false, false, false] HT_ rfl rfl ?_
    refine ta_ 6 (some 32) #[true, true, true, true, true, true, true, false, true, false, false, false, false] HT_ HW_ hHeld rfl rfl ?_
    refine ta_ 9 (some 35) #[true, true, true, true, true, true, true, false, true, true, false, false, false] HT_ HW_ hHeld rfl rfl ?_
    refine one_ (i := 7) (N := some 33) #[true, true, true, true, true, true, true, true, true, true, false, false, false] rfl rfl (one_of HT_.out (by kernel_rfl)) (by decide) (fun K hK => ?_)
    refine goes_ Tryd.func21 (by kernel_rfl) rfl #[.int .i64 (ac.length : Int), .int .i64 a0_1] (by rfl) rfl rfl tz_ ?_
    with_reducible refine (impl_SameRule.calls kj1 (ac.length : Int) a0_1 ax _ A14.out).mono ?_
    rintro e b5 ⟨b0, rfl, ho0, hb⟩
    refine ⟨_, rfl, ?_⟩
    have av := Aside0.mk (Kd.S_lower ho0 (below_size (tb_ HB.out)))
    replace ab := bb_ ab hb
    replace HB := bs_ HB hb
    (try clear hb)
    (try clear hb2)
    (try clear hk)
    (try clear hi)
    (try clear ho0)
    obtain ⟨bG, bH, bu⟩ := Kd.S_slice av.out
    (first | subst bu | (injection bu with f1_ f2_ f3_; have f4_ := f1_.symm; have f5_ := f3_.symm; clear f1_ f2_ f3_; subst f4_; subst f5_))
    refine hK.out _ _ hh_ (fun hHeld => ?_)
    clear hK K
    refine nr_ 33 ?_
    refine one_ (i := 10) (N := some 36) #[true, true, true, true, true, true, true, true, true, true, true, false, false] rfl rfl (one_of HT_.out (by kernel_rfl)) (by decide) (fun K hK => ?_)
    refine goes_ Tryd.func78 (by kernel_rfl) rfl #[.slice aj ac.length ak, .slice bG ax.length bH, .slice aC ag.length aD] (by rfl) rfl rfl tz_ ?_
    with_reducible refine (impl_ruleWays.calls kj1 _ _ ac _ _ ax _ _ ag aE _ ?s1 ?s2 ?s3 ?s4 ?s5 ?s6 A15.out).mono ?_
    (case s1 => exact tD_)
    (case s2 => exact au.out)
    (case s3 => repeat (first | exact (Kd.S_reads' av.out).2.2 | (with_reducible refine Kd.C_alloc ?_ _) | (with_reducible refine Kd.C_drewN ?_ _) | (with_reducible refine Kd.C_drew ?_)))
    (case s4 => exact (Kd.S_reads' av.out).2.1)
    (case s5 => exact tD_)
    (case s6 => exact a4.out)
    rintro e b6 ⟨rfl, hb⟩
    refine ⟨_, rfl, ?_⟩
    replace av := Aside0.mk (Kd.S_below (rS_ av.out) hb)
    replace ab := bb_ ab hb
    replace HB := bs_ HB hb
    (try clear hb)
    (try clear hb2)
    (try clear hk)
    (try clear hi)
    refine hK.out _ _ hh_ (fun hHeld => ?_)
    clear hK K
    refine nr_ 36 ?_
    refine pu_ 11 (some 37) #[true, true, true, true, true, true, true, true, true, true, true, true, false] HT_ rfl rfl ?_
    refine pu_ 12 (some 2) #[true, true, true, true, true, true, true, true, true, true, true, true, true] HT_ rfl rfl ?_
    refine done_ (done_of HT_.out (by kernel_rfl)) ?_
    try go_wp2
    go_ret
    exact ⟨tw_, (tb_ HB.out)⟩

/-! ### strconv_Itoa: function 98 -/
def strconv_Itoa.f (a0 : Int) : Option (ByteArray) := if -9223372036854775808 ≤ a0 ∧ a0 ≤ 9223372036854775807 then some ⟨(Lib.itoa a0).toArray⟩ else none
theorem strconv_Itoa.calls (a0 : Int) (r : ByteArray) (w : World) (hG : GWb w) (h : strconv_Itoa.f a0 = some r) :
  Calls Tryd.prog 98 #[.int .i64 a0] w fun e w' => e = .returned (.string r) ∧ Below w.heap.size w w' := by
 unfold strconv_Itoa.f at h
 split at h
 ·
  rename_i hb
  obtain rfl := Option.some.inj h
  refine (Sh.Tryd.strconv_Itoa a0 hb.1 hb.2 w hG.tab).mono fun e w' ⟨he, k, os, hw⟩ => ⟨he, hw ▸ Lib.below_grow _ w (Nat.le_refl _) k os⟩
 ·
  cases h

/-! ### strings_Join: function 130 -/
def strings_Join.f (l0 : List ByteArray) (a1 : ByteArray) : Option (ByteArray) := if l0.length ≤ 140737488355328 ∧ (Lib.join (l0.map (·.data.toList)) a1.data.toList).length ≤ 140737488355328 then some ⟨(Lib.join (l0.map (·.data.toList)) a1.data.toList).toArray⟩ else none
theorem strings_Join.calls (A0 : Option Addr) (c0 : Nat) (l0 : List ByteArray) (a1 : ByteArray) (r : ByteArray) (w : World) (hr0 : Kd.C Kd.string w A0 l0.length l0) (hc0 : l0.length ≤ c0) (h : strings_Join.f l0 a1 = some r) :
  Calls Tryd.prog 130 #[.slice A0 l0.length c0, .string a1] w fun e w' => e = .returned (.string r) ∧ Below w.heap.size w w' := by
 unfold strings_Join.f at h
 split at h
 ·
  rename_i hb
  obtain rfl := Option.some.inj h
  rcases Nat.eq_zero_or_pos l0.length with h0 | h0
  ·
   obtain rfl : l0 = [] := List.eq_nil_of_length_eq_zero h0
   exact (Sh.Tryd.strings_Join_none A0 c0 a1 w).mono fun e w' ⟨he, hw⟩ => ⟨he, hw ▸ Below.refl _ _⟩
  ·
   obtain ⟨ad, rfl, hc⟩ := hr0.2.2 h0
   have hcell : ∀ (j : Nat) x, l0[j]? = some x → w.cell? (ad.add j) = some (.string x) := by
    intro j x hj
    obtain ⟨c, hc1, hc2, hc3⟩ := hc j _ hj
    have e1 : c = [.string x] := hc2
    have := hc3 0 _ (by rw [e1]; rfl)
    simpa [Kd.string, Kd.scalar] using this
   have hs := hcell 0 _ (List.getElem?_eq_getElem h0)
   have hsp : ad.spot = none := by
    cases hq : ad.spot with
    | none => rfl
    | some q => simp [World.cell?, Addr.add, hq] at hs; split at hs <;> simp at hs
   have hlt := World.block_lt_of_cell? _ _ hs
   obtain ⟨b, o, sp⟩ := ad
   simp only at hsp
   subst hsp
   exact Sh.Tryd.strings_Join b o c0 l0 a1 w (fun j x hj => by have := hcell j x hj; unfold Addr.add at this; split at this <;> simp_all) (by simpa [Addr.add] using hlt) hb.1 hc0 hb.2
 ·
  cases h

end Go.Proofs.YtlhiienanbpdlaaDoor.MFnPlaceText
