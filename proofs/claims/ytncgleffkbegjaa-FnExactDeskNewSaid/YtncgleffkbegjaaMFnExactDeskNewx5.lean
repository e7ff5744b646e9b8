/- For the law FnExactDeskNew: walks of the functions that it reaches: each call returns what the plain function beside it tells. The conditions stand in each statement. -/
import Derived.Test.YtncgleffkbegjaaV
import Derived.Test.YtncgleffkbegjaaMFnExactDeskNewx0
import Derived.Test.YtncgleffkbegjaaMFnExactDeskNewx4
namespace Go.Proofs.Ytncgleffkbegjaa.MFnExactDeskNew
open Go.RowKit Go.Proofs.YtncgleffkbegjaaW.PrintWords Go.Proofs.YtncgleffkbegjaaW.PrintLast Go.Proofs.YtncgleffkbegjaaW.PrintMore
attribute [local go_sem] max2_int min2_int max_two min_two max_three min_three max_four min_four   -- for this text's walks alone
set_option linter.unusedVariables false
set_option linter.unusedSimpArgs false

/-! ### impl_after: function 53 -/
def impl_after.l0 : Nat → List (List Int) → List Int → List Int → Int → Int → Option (List Int)
 | 0, _, _, _, _, _ => none
 | k + 1, x1, x7, x12, x13, x14 => if x14 < x13 then (if 0 ≤ x14 then (if x14 < (x12.length : Int) then (if 0 ≤ (rd x12 x14) then (if (rd x12 x14) < (x1.length : Int) then ((impl_added.f k x7 (rd_L1 x1 (rd x12 x14))).bind fun aD => (impl_after.l0 k x1 aD x12 x13 (wrap64 (x14 + 1)))) else (none)) else (none)) else (none)) else (none)) else (some x7)
def impl_after.f (k : Nat) (l0 : List Int) (l1 : List (List Int)) (l2 : List Int) : Option (List Int) := (slices_Clone_int_int.f l0).bind fun au => (impl_after.l0 k l1 au l2 (l2.length : Int) 0)
theorem impl_after.mono_l : ∀ k, (∀ y0 y1 y2 y3 y4, LeO (impl_after.l0 k y0 y1 y2 y3 y4) (impl_after.l0 (k + 1) y0 y1 y2 y3 y4))
 | 0 => fun _ _ _ _ _ r h => by simp [impl_after.l0] at h
 | k + 1 => by
  have ih0 := impl_after.mono_l k
  ·
   intro y0 y1 y2 y3 y4
   unfold impl_after.l0
   repeat' (with_reducible first | exact ih0 _ _ _ _ _ | exact impl_added.mono _ _ _ | exact mr_ | exact mn_ | refine mi_ ?_ ?_ | refine mb_ ?_ (fun _ => ?_))
theorem impl_after.mono : ∀ a0 a1 a2 k, LeO (impl_after.f k a0 a1 a2) (impl_after.f (k + 1) a0 a1 a2) := by
 intro a0 a1 a2 k; have ih0 := impl_after.mono_l k; unfold impl_after.f; repeat' (with_reducible first | exact ih0 _ _ _ _ _ | exact impl_added.mono _ _ _ | exact mr_ | exact mn_ | refine mi_ ?_ ?_ | refine mb_ ?_ (fun _ => ?_))
set_option maxHeartbeats 8000000 in
set_option maxRecDepth 100000 in
theorem impl_after.calls (k : Nat) (A0 : Option Addr) (c0 : Nat) (l0 : List Int) (A1 : Option Addr) (c1 : Nat) (l1 : List (List Int)) (A2 : Option Addr) (c2 : Nat) (l2 : List Int) (r : List Int) (w : World) (hr0 : Kd.C (Kd.int .i64) w A0 l0.length l0) (hc0 : l0.length ≤ c0) (hr1 : Kd.C (Kd.slice 3 (Kd.int .i64)) w A1 l1.length l1) (hc1 : l1.length ≤ c1) (hr2 : Kd.C (Kd.int .i64) w A2 l2.length l2) (hc2 : l2.length ≤ c2) (h : impl_after.f k l0 l1 l2 = some r) :
  Calls Try.prog 53 #[.slice A0 l0.length c0, .slice A1 l1.length c1, .slice A2 l2.length c2] w fun e w' => ∃ v0_ : Value, e = .returned (v0_) ∧ Kd.R (Kd.int .i64) 3 w' w.heap.size (fun _ => True) v0_ r ∧ Below w.heap.size w w' := by
 have HR0 := A_ hr0; have HC0 := A_ hc0; clear hr0 hc0; have HR1 := A_ hr1; have HC1 := A_ hc1; clear hr1 hc1; have HR2 := A_ hr2; have HC2 := A_ hc2; clear hr2 hc2; have HB := A_ (Below.refl w.heap.size w); have H : ((slices_Clone_int_int.f l0).bind fun au => (impl_after.l0 k l1 au l2 (l2.length : Int) 0)) = some r := h; clear h; obtain ⟨au, A4, H⟩ := bnd_ H; (try dsimp only at H); have H' := A_ H; clear H; go_enter Try.func53, Try.ntmps53; go_wp2_with (first | ((with_reducible refine gate_callee (f := 41) rfl ?_); refine gl_ (some 11) Try.func41 #[.slice A0 l0.length c0] ?_; (with_reducible refine (slices_Clone_int_int.calls _ _ l0 au _ ?s1 ?s2 A4.out).mono ?_); (case s1 => exact td_); (case s2 => exact HC0.out); rintro e w5 ⟨bq, rfl, ho0, hb⟩; refine ⟨_, rfl, ?_⟩; have aQ := rx_ ho0 HB; replace HB := bs_ HB hb; (try clear hb ho0)))
 go_loopg [7, 14] k (fun kq v7 br w' => ∃ (ae : List Int) (ac : Int), br = .int .i64 ac ∧ Aside0 (impl_after.l0 kq l1 ae l2 (l2.length : Int) ac = some r) ∧ Aside0 (kq ≤ k) ∧ Aside0 (Kd.R (Kd.int .i64) 3 w' w.heap.size (fun _ => True) v7 ae) ∧ Aside0 (Below w.heap.size w w'))
 case atStart => exact ⟨(au), (0), tx_, H', ⟨Nat.le_refl _⟩, ⟨rR_ aQ.out⟩, ⟨(tb_ HB.out)⟩⟩
 case round =>
  clear H'; (try clear c1); (try clear c2); (try clear p2); (try clear c4); (try clear c5); obtain ⟨ae, ac, rfl, HA, HK1, aq, HB⟩ := hrel
  cases gk with
  | zero => exact absurd HA.out (by simp [impl_after.l0])
  | succ k1 =>
   have H := HA.out; clear HA; simp only [impl_after.l0] at H; by_cases c6 : ac < (l2.length : Int)
   ·
    rw [if_pos c6] at H; have ai : decide (ac < (l2.length : Int)) = true := decide_eq_true c6; clear c6; by_cases c7 : 0 ≤ ac
    ·
     rw [if_pos c7] at H; have a9 : decide (0 ≤ ac) = true := decide_eq_true c7; clear c7; by_cases c8 : ac < (l2.length : Int)
     ·
      rw [if_pos c8] at H; have bb : decide (ac < (l2.length : Int)) = true := decide_eq_true c8; clear c8; by_cases c9 : 0 ≤ (rd l2 ac)
      ·
       rw [if_pos c9] at H; have bs : decide (0 ≤ (rd l2 ac)) = true := decide_eq_true c9; clear c9; by_cases c10 : (rd l2 ac) < (l1.length : Int)
       ·
        rw [if_pos c10] at H; have av : decide ((rd l2 ac) < (l1.length : Int)) = true := decide_eq_true c10; clear c10; obtain ⟨aD, A11, H⟩ := bnd_ H; (try dsimp only at H); have H' := A_ H; clear H; have p224 : 0 ≤ (ac : Int) := od_; have q224 : ac < (l2.length : Int) := od_; obtain ⟨ad224, e224, al⟩ := Kd.at_int HR2.out ac p224 q224; cases e224; replace al := (HB.out.cell (World.block_lt_of_cell? w _ al)).trans al; replace p224 := eq_true p224; replace q224 := eq_true q224; have p225 : 0 ≤ ((rd l2 ac) : Int) := od_; have q225 : (rd l2 ac) < (l1.length : Int) := od_; obtain ⟨ad225, aM, aN, e225, am, hl225_0, hi225_0⟩ := at_L1 HR1.out (rd l2 ac) p225 q225; cases e225; replace am := (HB.out.cell (World.block_lt_of_cell? w _ am)).trans am; have a8 := A_ hi225_0; have aE := A_ hl225_0; clear hi225_0 hl225_0; replace p225 := eq_true p225; replace q225 := eq_true q225; obtain ⟨bc, bd, be⟩ := Kd.R_slice aq.out; subst be; go_wp2_with (first | ((with_reducible refine gate_callee (f := 58) rfl ?_); refine gl_ (some 23) Try.func58 #[.slice bc ae.length bd, .slice aM (rd_L1 l1 (rd l2 ac)).length aN] ?_; (with_reducible refine (impl_added.calls k1 _ _ ae _ _ (rd_L1 l1 (rd l2 ac)) aD _ ?s1 ?s2 ?s3 ?s4 A11.out).mono ?_); (case s1 => exact rc_ aq); (case s2 => exact (ll_ aq)); (case s3 => exact tD_); (case s4 => exact aE.out); rintro e bJ ⟨bu, rfl, ho0, hb⟩; refine ⟨_, rfl, ?_⟩; have aR := rx_ (nR_ ho0 (Kd.R_lt (rR_ aq.out))) HB; replace aq := A_ (Kd.R_elder' (rR_ aq.out) (Kd.R_base ho0) hb); replace HB := bs_ HB hb; (try clear hb ho0)))
        go_roundg k1
        case measure => have := HK1.out; omega
        case rel => exact ⟨(aD), (wrap64 (ac + 1)), tx_, H', ⟨by have := HK1.out; omega⟩, ⟨by refine qR_ ?_; exact Kd.R_mono aR.out (fun _ hk => trivial)⟩, ⟨(tb_ HB.out)⟩⟩
       ·
        rw [if_neg c10] at H; exact absurd H (by simp)
      ·
       rw [if_neg c9] at H; exact absurd H (by simp)
     ·
      rw [if_neg c8] at H; exact absurd H (by simp)
    ·
     rw [if_neg c7] at H; exact absurd H (by simp)
   ·
    rw [if_neg c6] at H; have ai : decide (ac < (l2.length : Int)) = false := decide_eq_false c6; clear c6; obtain rfl := Option.some.inj H; go_wp2; go_ret; exact ⟨_, tw_, by refine qR_ ?_; exact aq.out, (tb_ HB.out)⟩

/-! ### impl_ruleWays: function 39 -/
def impl_ruleWays.l0 : Nat → List Int → List (List Int) → List Int → Int → List Int → Int → Int → Option (Int)
 | 0, _, _, _, _, _, _, _ => none
 | k + 1, x0, x1, x2, x7, x10, x11, x12 => if x12 < x11 then (if 0 ≤ x12 then (if x12 < (x10.length : Int) then (if x12 ≤ (x2.length : Int) then ((impl_after.f k x0 x1 (x2.take (x12 : Int).toNat)).bind fun ag => (if 0 ≤ (rd x10 x12) then (if (rd x10 x12) < (ag.length : Int) then (if (wrap64 (x7 * (mx 0 (rd ag (rd x10 x12))))) = 0 then (some 0) else (impl_ruleWays.l0 k x0 x1 x2 (wrap64 (x7 * (mx 0 (rd ag (rd x10 x12))))) x10 x11 (wrap64 (x12 + 1)))) else (none)) else (none))) else (none)) else (none)) else (none)) else (some x7)
def impl_ruleWays.f (k : Nat) (l0 : List Int) (l1 : List (List Int)) (l2 : List Int) : Option (Int) := impl_ruleWays.l0 k l0 l1 l2 1 l2 (l2.length : Int) 0
theorem impl_ruleWays.mono_l : ∀ k, (∀ y0 y1 y2 y3 y4 y5 y6, LeO (impl_ruleWays.l0 k y0 y1 y2 y3 y4 y5 y6) (impl_ruleWays.l0 (k + 1) y0 y1 y2 y3 y4 y5 y6))
 | 0 => fun _ _ _ _ _ _ _ r h => by simp [impl_ruleWays.l0] at h
 | k + 1 => by
  have ih0 := impl_ruleWays.mono_l k
  ·
   intro y0 y1 y2 y3 y4 y5 y6
   unfold impl_ruleWays.l0
   repeat' (with_reducible first | exact ih0 _ _ _ _ _ _ _ | exact impl_after.mono _ _ _ _ | exact mr_ | exact mn_ | refine mi_ ?_ ?_ | refine mb_ ?_ (fun _ => ?_))
theorem impl_ruleWays.mono : ∀ a0 a1 a2 k, LeO (impl_ruleWays.f k a0 a1 a2) (impl_ruleWays.f (k + 1) a0 a1 a2) := by
 intro a0 a1 a2 k; have ih0 := impl_ruleWays.mono_l k; unfold impl_ruleWays.f; repeat' (with_reducible first | exact ih0 _ _ _ _ _ _ _ | exact impl_after.mono _ _ _ _ | exact mr_ | exact mn_ | refine mi_ ?_ ?_ | refine mb_ ?_ (fun _ => ?_))
set_option maxHeartbeats 8000000 in
set_option maxRecDepth 100000 in
theorem impl_ruleWays.calls (k : Nat) (A0 : Option Addr) (c0 : Nat) (l0 : List Int) (A1 : Option Addr) (c1 : Nat) (l1 : List (List Int)) (A2 : Option Addr) (c2 : Nat) (l2 : List Int) (r : Int) (w : World) (hr0 : Kd.C (Kd.int .i64) w A0 l0.length l0) (hc0 : l0.length ≤ c0) (hr1 : Kd.C (Kd.slice 3 (Kd.int .i64)) w A1 l1.length l1) (hc1 : l1.length ≤ c1) (hr2 : Kd.C (Kd.int .i64) w A2 l2.length l2) (hc2 : l2.length ≤ c2) (h : impl_ruleWays.f k l0 l1 l2 = some r) :
  Calls Try.prog 39 #[.slice A0 l0.length c0, .slice A1 l1.length c1, .slice A2 l2.length c2] w fun e w' => e = .returned (.int .i64 r) ∧ Below w.heap.size w w' := by
 have HR0 := A_ hr0; have HC0 := A_ hc0; clear hr0 hc0; have HR1 := A_ hr1; have HC1 := A_ hc1; clear hr1 hc1; have HR2 := A_ hr2; have HC2 := A_ hc2; clear hr2 hc2; have HB := A_ (Below.refl w.heap.size w); have H : (impl_ruleWays.l0 k l0 l1 l2 1 l2 (l2.length : Int) 0) = some r := h; clear h; have H' := A_ H; clear H; go_enter Try.func39, Try.ntmps39; go_wp2
 go_loopg [7, 12] k (fun kq v7 bv w' => ∃ (ae : Int) (aa : Int), v7 = .int .i64 ae ∧ bv = .int .i64 aa ∧ Aside0 (impl_ruleWays.l0 kq l0 l1 l2 ae l2 (l2.length : Int) aa = some r) ∧ Aside0 (kq ≤ k) ∧ Aside0 (Below w.heap.size w w'))
 case atStart => exact ⟨(1), (0), tx_, tx_, H', ⟨Nat.le_refl _⟩, ⟨(tb_ HB.out)⟩⟩
 case round =>
  clear H'; (try clear c1); (try clear c2); (try clear p2); (try clear c3); obtain ⟨ae, aa, rfl, rfl, HA, HK1, HB⟩ := hrel
  cases gk with
  | zero => exact absurd HA.out (by simp [impl_ruleWays.l0])
  | succ k1 =>
   have H := HA.out; clear HA; simp only [impl_ruleWays.l0] at H; by_cases c4 : aa < (l2.length : Int)
   ·
    rw [if_pos c4] at H; have bf : decide (aa < (l2.length : Int)) = true := decide_eq_true c4; clear c4; by_cases c5 : 0 ≤ aa
    ·
     rw [if_pos c5] at H; have bw : decide (0 ≤ aa) = true := decide_eq_true c5; clear c5; by_cases c6 : aa < (l2.length : Int)
     ·
      rw [if_pos c6] at H; have ai : decide (aa < (l2.length : Int)) = true := decide_eq_true c6; clear c6; have a9 := eq_true (od_ : 0 ≤ aa); by_cases c8 : aa ≤ (l2.length : Int)
      ·
       rw [if_pos c8] at H; have bb := eq_true c8; have bx : decide (aa ≤ (l2.length : Int)) = true := decide_eq_true c8; clear c8; obtain ⟨ag, A9, H⟩ := bnd_ H; (try dsimp only at H); by_cases c10 : 0 ≤ (rd l2 aa)
       ·
        rw [if_pos c10] at H; have av : decide (0 ≤ (rd l2 aa)) = true := decide_eq_true c10; clear c10; by_cases c11 : (rd l2 aa) < (ag.length : Int)
        ·
         rw [if_pos c11] at H; have aU : decide ((rd l2 aa) < (ag.length : Int)) = true := decide_eq_true c11; clear c11; obtain ⟨an, ak⟩ : ∃ j_ : Int, (mx 0 (rd ag (rd l2 aa))) = j_ := ⟨_, rfl⟩
         replace H : (if (wrap64 (ae * (an))) = 0 then (some 0) else (impl_ruleWays.l0 k1 l0 l1 l2 (wrap64 (ae * (an))) l2 (l2.length : Int) (wrap64 (aa + 1)))) = some r := by first | (rw [ak] at H; exact H) | (simp only [ak] at H ⊢; exact H)
         (try rw [ak] at A9); have hji12_ : (if 0 < (rd ag (rd l2 aa)) then (rd ag (rd l2 aa)) else 0) = an := ak; by_cases c13 : (wrap64 (ae * (an))) = 0
         ·
          rw [if_pos c13] at H; have aI : ((wrap64 (ae * (an))) == 0) = true := beq_iff_eq.mpr c13; have aV : ((wrap64 (ae * (an))) != 0) = false := bne_eq_false_iff_eq.mpr c13; clear c13; obtain rfl := Option.some.inj H; have p229 : 0 ≤ (aa : Int) := od_; have q229 : aa < (l2.length : Int) := od_; obtain ⟨ad229, e229, ad⟩ := Kd.at_int HR2.out aa p229 q229; cases e229; replace ad := (HB.out.cell (World.block_lt_of_cell? w _ ad)).trans ad; replace p229 := eq_true p229; replace q229 := eq_true q229; obtain ⟨i014, hi014, _, hsz14, _⟩ := info_parts info3; obtain ⟨hcut14, hA14, hC14⟩ := print_take_of (P := Try.prog) (Value.int .i64) 0 22 3 .i64 Try.underlying22 hi014 hsz14 (some ad229) c2 l2 aa (od_) (od_) HC2.out; have HR230 := A_ (Kd.C_of_reads (h1 := fun _ => rfl) (hA14 _ (Kd.reads_of_C HR2.out))); have HC230 := A_ hC14; clear hA14 hC14 hi014 hsz14; go_wp2_with (first | ((with_reducible refine gate_callee (f := 53) rfl ?_); refine goesL_ (some 23) rfl rfl Try.func53 (by kernel_rfl) rfl #[.slice A0 l0.length c0, .slice A1 l1.length c1, .slice (some ad229) (l2.take (aa : Int).toNat).length c2] rfl (by (try simp only [List.map_toArray, List.map_cons, List.map_nil]); first | done | (rw [show (l2.take (aa : Int).toNat).length = aa.toNat from (by rw [List.length_take]; have h_ : (aa : Int) ≤ (l2.length : Int) := od_; omega)] <;> rfl) | rfl | (simp only [List.length_drop, List.length_take]; rfl)) ?_; (with_reducible refine (impl_after.calls k1 _ _ l0 _ _ l1 _ _ (l2.take (aa : Int).toNat) ag _ ?s1 ?s2 ?s3 ?s4 ?s5 ?s6 A9.out).mono ?_); (case s1 => exact tD_); (case s2 => exact HC0.out); (case s3 => exact tD_); (case s4 => exact HC1.out); (case s5 => exact tD_); (case s6 => exact HC230.out); rintro e bK ⟨bg, rfl, ho0, hb⟩; refine ⟨_, rfl, ?_⟩; have ap := rx_ ho0 HB; replace HB := bs_ HB hb; (try clear hb ho0); obtain ⟨bz, bB, bh⟩ := Kd.R_slice ap.out; subst bh; have p234 : 0 ≤ ((rd l2 aa) : Int) := od_; have q234 : (rd l2 aa) < (ag.length : Int) := od_; obtain ⟨ad234, e234, aG⟩ := Kd.at_int (Kd.R_reads' ap.out).2.2 (rd l2 aa) p234 q234; cases e234; replace p234 := eq_true p234; replace q234 := eq_true q234)); go_ret; exact ⟨by first | rfl | (simp [errW_none, errW_some] <;> rfl) | (simp only [← ak]; first | rfl | (simp [errW_none, errW_some] <;> rfl)) | (simp [*, errW_none, errW_some] <;> rfl), (tb_ HB.out)⟩
         ·
          rw [if_neg c13] at H; have aI : ((wrap64 (ae * (an))) == 0) = false := beq_eq_false_iff_ne.mpr c13; have aV : ((wrap64 (ae * (an))) != 0) = true := bne_iff_ne.mpr c13; have H' := A_ H; clear H; have p229 : 0 ≤ (aa : Int) := od_; have q229 : aa < (l2.length : Int) := od_; obtain ⟨ad229, e229, ad⟩ := Kd.at_int HR2.out aa p229 q229; cases e229; replace ad := (HB.out.cell (World.block_lt_of_cell? w _ ad)).trans ad; replace p229 := eq_true p229; replace q229 := eq_true q229; obtain ⟨i017, hi017, _, hsz17, _⟩ := info_parts info3; obtain ⟨hcut17, hA17, hC17⟩ := print_take_of (P := Try.prog) (Value.int .i64) 0 22 3 .i64 Try.underlying22 hi017 hsz17 (some ad229) c2 l2 aa (od_) (od_) HC2.out; have HR230 := A_ (Kd.C_of_reads (h1 := fun _ => rfl) (hA17 _ (Kd.reads_of_C HR2.out))); have HC230 := A_ hC17; clear hA17 hC17 hi017 hsz17; go_wp2_with (first | ((with_reducible refine gate_callee (f := 53) rfl ?_); refine goesL_ (some 23) rfl rfl Try.func53 (by kernel_rfl) rfl #[.slice A0 l0.length c0, .slice A1 l1.length c1, .slice (some ad229) (l2.take (aa : Int).toNat).length c2] rfl (by (try simp only [List.map_toArray, List.map_cons, List.map_nil]); first | done | (rw [show (l2.take (aa : Int).toNat).length = aa.toNat from (by rw [List.length_take]; have h_ : (aa : Int) ≤ (l2.length : Int) := od_; omega)] <;> rfl) | rfl | (simp only [List.length_drop, List.length_take]; rfl)) ?_; (with_reducible refine (impl_after.calls k1 _ _ l0 _ _ l1 _ _ (l2.take (aa : Int).toNat) ag _ ?s1 ?s2 ?s3 ?s4 ?s5 ?s6 A9.out).mono ?_); (case s1 => exact tD_); (case s2 => exact HC0.out); (case s3 => exact tD_); (case s4 => exact HC1.out); (case s5 => exact tD_); (case s6 => exact HC230.out); rintro e bL ⟨bg, rfl, ho0, hb⟩; refine ⟨_, rfl, ?_⟩; have ap := rx_ ho0 HB; replace HB := bs_ HB hb; (try clear hb ho0); obtain ⟨bC, bD, bi⟩ := Kd.R_slice ap.out; subst bi; have p234 : 0 ≤ ((rd l2 aa) : Int) := od_; have q234 : (rd l2 aa) < (ag.length : Int) := od_; obtain ⟨ad234, e234, aG⟩ := Kd.at_int (Kd.R_reads' ap.out).2.2 (rd l2 aa) p234 q234; cases e234; replace p234 := eq_true p234; replace q234 := eq_true q234))
          go_roundg k1
          case measure => have := HK1.out; omega
          case rel => exact ⟨(wrap64 (ae * (an))), (wrap64 (aa + 1)), (by first | rfl | (simp; done) | (simp only [← ak] <;> (first | rfl | simp)) | (simp [*]; done)), tx_, H', ⟨by have := HK1.out; omega⟩, ⟨(tb_ HB.out)⟩⟩
        ·
         rw [if_neg c11] at H; exact absurd H (by simp)
       ·
        rw [if_neg c10] at H; exact absurd H (by simp)
      ·
       rw [if_neg c8] at H; exact absurd H (by simp)
     ·
      rw [if_neg c6] at H; exact absurd H (by simp)
    ·
     rw [if_neg c5] at H; exact absurd H (by simp)
   ·
    rw [if_neg c4] at H; have bf : decide (aa < (l2.length : Int)) = false := decide_eq_false c4; clear c4; obtain rfl := Option.some.inj H; go_wp2; go_ret; exact ⟨tw_, (tb_ HB.out)⟩

/-! ### impl_SameRule: function 40 -/
mutual
def impl_SameRule.j0 : Nat → Int → Int → Bool → Option ((List (List Int)))
 | 0, _, _, _ => none
 | k + 1, x0, x1, x18 => if x18 = true then (some ([] : List (List Int))) else (impl_SameRule.l0 k x0 x1 (([] : List (List Int))) x0 0)
def impl_SameRule.l0 : Nat → Int → Int → List (List Int) → Int → Int → Option ((List (List Int)))
 | 0, _, _, _, _, _ => none
 | k + 1, x0, x1, x5, x20, x21 => if x21 < x20 then (if 0 ≤ x0 then (if (x0 : Int).toNat ≤ 35184372088832 then ((some (List.replicate (x0 : Int).toNat 0 : List Int)).bind fun af => (if 0 ≤ x21 then (if x21 < (af.length : Int) then (if x5.length < 5864062014805 then (impl_SameRule.l0 k x0 x1 (x5 ++ [(af.set (x21 : Int).toNat x1)]) x20 (wrap64 (x21 + 1))) else (none)) else (none)) else (none))) else (none)) else (none)) else (some x5)
end
def impl_SameRule.f (k : Nat) (a0 : Int) (a1 : Int) : Option ((List (List Int))) := (impl_coloursOk.f a0).bind fun aw => (if aw = true then (if a1 < (-1) then (impl_SameRule.j0 k a0 a1 true) else (impl_SameRule.j0 k a0 a1 (decide (a1 > 3)))) else (impl_SameRule.j0 k a0 a1 true))
theorem impl_SameRule.mono_l : ∀ k, (∀ y0 y1 y2, LeO (impl_SameRule.j0 k y0 y1 y2) (impl_SameRule.j0 (k + 1) y0 y1 y2)) ∧ (∀ y0 y1 y2 y3 y4, LeO (impl_SameRule.l0 k y0 y1 y2 y3 y4) (impl_SameRule.l0 (k + 1) y0 y1 y2 y3 y4))
 | 0 => ⟨fun _ _ _ r h => by simp [impl_SameRule.j0] at h, fun _ _ _ _ _ r h => by simp [impl_SameRule.l0] at h⟩
 | k + 1 => by
  obtain ⟨ih0, ih1⟩ := impl_SameRule.mono_l k
  refine ⟨?_, ?_⟩
  ·
   intro y0 y1 y2
   unfold impl_SameRule.j0
   repeat' (with_reducible first | exact ih0 _ _ _ | exact ih1 _ _ _ _ _ | exact mr_ | exact mn_ | refine mi_ ?_ ?_ | refine mb_ ?_ (fun _ => ?_))
  ·
   intro y0 y1 y2 y3 y4
   unfold impl_SameRule.l0
   repeat' (with_reducible first | exact ih0 _ _ _ | exact ih1 _ _ _ _ _ | exact mr_ | exact mn_ | refine mi_ ?_ ?_ | refine mb_ ?_ (fun _ => ?_))
theorem impl_SameRule.mono : ∀ a0 a1 k, LeO (impl_SameRule.f k a0 a1) (impl_SameRule.f (k + 1) a0 a1) := by
 intro a0 a1 k; obtain ⟨ih0, ih1⟩ := impl_SameRule.mono_l k; unfold impl_SameRule.f; repeat' (with_reducible first | exact ih0 _ _ _ | exact ih1 _ _ _ _ _ | exact mr_ | exact mn_ | refine mi_ ?_ ?_ | refine mb_ ?_ (fun _ => ?_))
set_option maxHeartbeats 8000000 in
set_option maxRecDepth 100000 in
theorem impl_SameRule.calls (k : Nat) (a0 : Int) (a1 : Int) (r : List (List Int)) (w : World) (h : impl_SameRule.f k a0 a1 = some r) :
  Calls Try.prog 40 #[.int .i64 a0, .int .i64 a1] w fun e w' => ∃ v0_ : Value, e = .returned (v0_) ∧ Kd.S (Kd.slice 3 (Kd.int .i64)) 22 w' w.heap.size (fun _ => True) v0_ r ∧ Below w.heap.size w w' := by
 have HB := A_ (Below.refl w.heap.size w); have H : ((impl_coloursOk.f a0).bind fun aw => (if aw = true then (if a1 < (-1) then (impl_SameRule.j0 k a0 a1 true) else (impl_SameRule.j0 k a0 a1 (decide (a1 > 3)))) else (impl_SameRule.j0 k a0 a1 true))) = some r := h; clear h; have HC3 := A_ H; clear H; go_enter Try.func40, Try.ntmps40
 go_upto_region 1 with (fail)
 go_cut [18] (fun bE wc => ∃ (kq : Nat) (ar : Bool), bE = .bool ar ∧ Aside0 (impl_SameRule.j0 kq a0 a1 ar = some r) ∧ Aside0 (kq ≤ k) ∧ Aside0 (Below w.heap.size w wc))
 case first =>
  have H := HC3.out; clear HC3; obtain ⟨aw, A4, H⟩ := bnd_ H; (try dsimp only at H); by_cases c5 : aw = true
  ·
   subst c5; replace H : (if a1 < (-1) then (impl_SameRule.j0 k a0 a1 true) else (impl_SameRule.j0 k a0 a1 (decide (a1 > 3)))) = some r := by rw [if_pos rfl] at H; exact H
   by_cases c6 : a1 < (-1)
   ·
    rw [if_pos c6] at H; have ai : decide (a1 < (-1)) = true := decide_eq_true c6; clear c6; (first | rw [ai] | (simp only [i64_w, i32_w]; rw [ai]) | skip); have H' := A_ H; clear H; go_wp2_with (first | ((with_reducible refine gate_callee (f := 48) rfl ?_); refine gl_ (some 9) Try.func48 #[.int .i64 a0] ?_; (with_reducible refine (impl_coloursOk.calls a0 true _ A4.out).mono ?_); rintro e w' ⟨rfl, ⟨nd, rfl⟩⟩; refine ⟨_, rfl, ?_⟩)); go_meet
    case rel => exact ⟨_, (true), tx_, H', ⟨by first | omega | exact Nat.le_refl _⟩, ⟨(tb_ HB.out)⟩⟩
   ·
    rw [if_neg c6] at H; have ai : decide (a1 < (-1)) = false := decide_eq_false c6; clear c6; (first | rw [ai] | (simp only [i64_w, i32_w]; rw [ai]) | skip); have H' := A_ H; clear H; go_wp2_with (first | ((with_reducible refine gate_callee (f := 48) rfl ?_); refine gl_ (some 9) Try.func48 #[.int .i64 a0] ?_; (with_reducible refine (impl_coloursOk.calls a0 true _ A4.out).mono ?_); rintro e w' ⟨rfl, ⟨nd, rfl⟩⟩; refine ⟨_, rfl, ?_⟩)); go_meet
    case rel => exact ⟨_, (decide (a1 > 3)), tx_, H', ⟨by first | omega | exact Nat.le_refl _⟩, ⟨(tb_ HB.out)⟩⟩
  ·
   replace c5 := Bool.eq_false_iff.mpr c5; subst c5; replace H : (impl_SameRule.j0 k a0 a1 true) = some r := by rw [if_neg (show ¬ (false = true) by decide)] at H; exact H
   have H' := A_ H; clear H; go_wp2_with (first | ((with_reducible refine gate_callee (f := 48) rfl ?_); refine gl_ (some 9) Try.func48 #[.int .i64 a0] ?_; (with_reducible refine (impl_coloursOk.calls a0 false _ A4.out).mono ?_); rintro e w' ⟨rfl, ⟨nd, rfl⟩⟩; refine ⟨_, rfl, ?_⟩)); go_meet
   case rel => exact ⟨_, (true), tx_, H', ⟨by first | omega | exact Nat.le_refl _⟩, ⟨(tb_ HB.out)⟩⟩
 case rest =>
  clear HC3; (try clear p2); (try clear c4); (try clear c5); (try clear c6); (try clear ai); obtain ⟨kq, ar, rfl, HA, HJ2, HB⟩ := hcut
  cases kq with
  | zero => exact absurd HA.out (by simp [impl_SameRule.j0])
  | succ kj2 =>
   have H := HA.out; clear HA; simp only [impl_SameRule.j0] at H; by_cases c7 : ar = true
   ·
    subst c7; replace H : (some ([] : List (List Int))) = some r := by rw [if_pos rfl] at H; exact H
    obtain rfl := Option.some.inj H; go_wp2; go_ret; exact ⟨_, tw_, by first | exact Kd.S_nil _ _ _ _ _ | exact Kd.N_nil _ _ _ _ _ | exact Kd.V_nil _ _ _ _ _ | exact Kd.Q_nil _ _ _ _ _ | exact Kd.R_nil _ _ _ _ _, (tb_ HB.out)⟩
   ·
    replace c7 := Bool.eq_false_iff.mpr c7; subst c7; replace H : (impl_SameRule.l0 kj2 a0 a1 (([] : List (List Int))) a0 0) = some r := by rw [if_neg (show ¬ (false = true) by decide)] at H; exact H
    obtain ⟨aW, ax⟩ : ∃ y_ : List (List Int), y_ = (([] : List (List Int))) := ⟨_, rfl⟩
    replace H : (impl_SameRule.l0 kj2 a0 a1 aW a0 0) = some r := yq_ ax H; have aJ := A_ ax; clear ax; have H' := A_ H; clear H; go_wp2_with (first | ((with_reducible refine gate_dst (N := 19) rfl ?_); refine Kd.S_lit (Kd.slice 3 (Kd.int .i64)) _ 22 ?hg (N := 19) ?hd (xs := ([] : List (List Int))) (inner := []) (ok := fun _ => True) (okp := fun _ => True) ?hr ?hp (fun _ hk => hk) trivial (Below.refl _ _) (Nat.le_refl _) (by simp) ?_; (case hd => rfl); (case hg => rfl); (case hr => first | (go_simp; done) | (go_simp; rfl)); (case hp => exact (Reps.none _ _)); intro bF w8 ho9 hb hg_ hnew_; clear hg_ hnew_; (first | rw [← aJ.out] at ho9 | (simp only [Int.reduceToNat] at ho9; rw [← aJ.out] at ho9)); have aX := A_ (Kd.S_lower ho9 (below_size (tb_ HB.out))); replace HB := bs_ HB hb; clear hb ho9))
    go_loopg [5, 21] kj2 (fun kq v5 bG w' => ∃ (aj : List (List Int)) (ab : Int), bG = .int .i64 ab ∧ Aside0 (impl_SameRule.l0 kq a0 a1 aj a0 ab = some r) ∧ Aside0 (kq ≤ kj2) ∧ Aside0 (Kd.S (Kd.slice 3 (Kd.int .i64)) 22 w' w.heap.size (fun _ => True) v5 aj) ∧ Aside0 (Below w.heap.size w w'))
    case atStart => exact ⟨(aW), (0), tx_, H', ⟨Nat.le_refl _⟩, ⟨rS_ aX.out⟩, ⟨(tb_ HB.out)⟩⟩
    case round =>
     clear H'; (try clear p2); (try clear c4); (try clear c5); (try clear c6); (try clear ai); (try clear c7); (try clear p2); obtain ⟨aj, ab, rfl, HA, HK2, ao, HB⟩ := hrel
     cases gk with
     | zero => exact absurd HA.out (by simp [impl_SameRule.l0])
     | succ k2 =>
      have H := HA.out; clear HA; simp only [impl_SameRule.l0] at H; by_cases c10 : ab < a0
      ·
       rw [if_pos c10] at H; have av : decide (ab < a0) = true := decide_eq_true c10; clear c10; by_cases c11 : 0 ≤ a0
       ·
        rw [if_pos c11] at H; have aU := eq_true c11; have bl : decide (0 ≤ a0) = true := decide_eq_true c11; clear c11; by_cases c12 : (a0 : Int).toNat ≤ 35184372088832
        ·
         rw [if_pos c12] at H; have bm := eq_true c12; have bn : decide ((a0 : Int).toNat ≤ 35184372088832) = true := decide_eq_true c12; clear c12; obtain ⟨af, ay⟩ : ∃ y_ : List Int, y_ = (List.replicate (a0 : Int).toNat 0) := ⟨_, rfl⟩
         replace H : (if 0 ≤ ab then (if ab < (af.length : Int) then (if aj.length < 5864062014805 then (impl_SameRule.l0 k2 a0 a1 (aj ++ [(af.set (ab : Int).toNat a1)]) a0 (wrap64 (ab + 1))) else (none)) else (none)) else (none)) = some r := yq_ ay H; have aK := A_ ay; clear ay; by_cases c13 : 0 ≤ ab
         ·
          rw [if_pos c13] at H; have aI : decide (0 ≤ ab) = true := decide_eq_true c13; clear c13; by_cases c14 : ab < (af.length : Int)
          ·
           rw [if_pos c14] at H; have bo : decide (ab < (af.length : Int)) = true := decide_eq_true c14; clear c14; obtain ⟨aH, az⟩ : ∃ y_ : List Int, y_ = (af.set (ab : Int).toNat a1) := ⟨_, rfl⟩
           replace H : (if aj.length < 5864062014805 then (impl_SameRule.l0 k2 a0 a1 (aj ++ [aH]) a0 (wrap64 (ab + 1))) else (none)) = some r := yq_ az H; have aY := A_ az; clear az; by_cases c16 : aj.length < 5864062014805
           ·
            rw [if_pos c16] at H; have aZ := A_ c16; clear c16; obtain ⟨a3, aA⟩ : ∃ y_ : List (List Int), y_ = (aj ++ [aH]) := ⟨_, rfl⟩
            replace H : (impl_SameRule.l0 k2 a0 a1 a3 a0 (wrap64 (ab + 1))) = some r := yq_ aA H; have a4 := A_ aA; clear aA; have H' := A_ H; clear H; go_wp2_with (first | ((with_reducible refine gate_dst (N := 25) rfl ?_); refine Kd.R_make (Kd.int .i64) _ 3 rfl (N := 25) rfl 22 _ _ rfl a0 rfl rfl Try.underlying22 (.int .i64 0) 8 info3 rfl (by decide) (by omega) 0 (ok := fun _ => True) (okp := fun _ => True) rfl (fun _ hk => hk) trivial (od_) (Nat.le_trans (Nat.mul_le_mul_right _ (od_ : a0.toNat ≤ 35184372088832)) (by omega)) (Below.refl _ _) (Nat.le_refl _) ?_; intro bH bp ho18 hb hg_ hnew_; clear hg_ hnew_; (first | rw [← aK.out] at ho18 | (simp only [Int.reduceToNat] at ho18; rw [← aK.out] at ho18)); replace ao := A_ (Kd.S_elder' (rS_ ao.out) (Kd.R_base ho18) hb); have ah := rx_ ho18 HB; replace HB := bs_ HB hb; clear hb ho18; have p15 : 0 ≤ (ab : Int) := od_; have q15 : (ab : Int) < ((af.length : Int) : Int) := od_; obtain ⟨go15, aC, a5, a6, gl15, cl15, HG15⟩ := Kd.R_form ah.out (by omega); (first | cases a5 | (injection a5 with ea_ en_ ec_; (first | subst ea_ | (injection ea_ with ea_; subst ea_)); subst ec_; clear en_)); have GB15 := A_ a6; have GG15 := A_ HG15; clear a6 gl15 HG15; obtain ⟨bj, hf15_0⟩ := Kd.R_celln 0 ah.out (ab : Int) p15 q15; replace p15 := eq_true p15; replace q15 := eq_true q15; obtain ⟨hy19_, hz19_⟩ := Kd.R_celln 0 ah.out (ab : Int) (od_) (od_); have HP19 := Kd.R_putg ah.out (ab : Int) a1) | ((with_reducible refine gate_store (t := 3) (p := 29) rfl ?_); refine store_event (t := 3) (p := 29) (v := ?vo_w20) (w1 := (bp.setCell ⟨go15, (ab : Int).toNat, none⟩ (.int .i64 a1))) ?hg ?ho ?hn ?hr ?_; (case ho => rfl); (case hg => rfl); (case hn => rfl); (case hr => first | (go_simp; done) | (go_simp; rfl)); intro bk hw; have hg : bp.grownBy bk (some go15) := (by rw [hw]; exact HP19.2); have hp_ : Kd.R (Kd.int .i64) 3 bk w.heap.size (fun _ => True) (.slice (some ⟨go15, 0, none⟩) af.length aC) aH := (by rw [hw, aY.out]; exact HP19.1); clear HP19; replace ao := A_ (Kd.S_after (v := (.slice (some ⟨go15, 0, none⟩) af.length aC)) (v1 := (.slice (some ⟨go15, 0, none⟩) af.length aC)) (ok := (fun _ => True)) (rS_ ao.out) hg (.inl rfl)); replace ah := A_ (hp_); replace HB := A_ ((by rw [hw]; exact below_set (HB.out) GB15.out : Below w.heap.size w bk)); clear hg hw hp_) | ((with_reducible refine gate_builtin (b := .append) (xs := #[.tmp 30, .tmp 32]) rfl ?_); at_builtin; refine Kd.S_append (Kd.slice 3 (Kd.int .i64)) (w0 := w) w.heap.size rfl (.tmp 30) (.tmp 32) 57 22 (.slice none 0 0) 24 rfl Try.underlying57 info22 rfl (by decide) (by omega) u5 aj aH [.slice (some ⟨go15, 0, none⟩) af.length aC] (fun _ => True) (fun k_ => some k_ = (.slice (some ⟨go15, 0, none⟩) af.length aC : Value).ownBlock) rfl rfl ?aP (fun k_ hk_ => ((Kd.R_mono (ok' := fun k_ => ((fun _ => True)) k_ ∧ some k_ ≠ (u5 : Value).ownBlock) (Kd.R_apart' (ah.out) (Kd.S_typed ao.out) (by decide)) (fun k_ hk => ⟨trivial, hk.2⟩))).1 k_ hk_.symm) ?aF ?aO ?aB ?aS ?aL ?_; (case aP => exact Kd.M_row (Kd.R_mono (Kd.R_tight rfl (Kd.R_mono (ok' := fun k_ => ((fun _ => True)) k_ ∧ some k_ ≠ (u5 : Value).ownBlock) (Kd.R_apart' (ah.out) (Kd.S_typed ao.out) (by decide)) (fun k_ hk => ⟨trivial, hk.2⟩))) (fun _ h_ => h_))); (case aB => exact (tb_ HB.out)); (case aF => exact (fun _ _ => trivial)); (case aO => exact (by refine qS_ ?_; exact Kd.S_mono ao.out (fun k_ hk => ⟨trivial, fun e_ => hk.2 e_⟩))); (case aS => exact (below_size (tb_ HB.out))); (case aL => have := aZ.out; omega); intro bI bM ho hb hg hat; rw [← a4.out] at ho; replace HB := A_ (hb); have a7 := A_ (ho); clear ao ah ho hb hg hat))
            go_roundg k2
            case measure => have := HJ2.out; have := HK2.out; omega
            case rel => exact ⟨(a3), (wrap64 (ab + 1)), tx_, H', ⟨by have := HJ2.out; have := HK2.out; omega⟩, ⟨rS_ a7.out⟩, ⟨(tb_ HB.out)⟩⟩
           ·
            rw [if_neg c16] at H; exact absurd H (by simp)
          ·
           rw [if_neg c14] at H; exact absurd H (by simp)
         ·
          rw [if_neg c13] at H; exact absurd H (by simp)
        ·
         rw [if_neg c12] at H; exact absurd H (by simp)
       ·
        rw [if_neg c11] at H; exact absurd H (by simp)
      ·
       rw [if_neg c10] at H; have av : decide (ab < a0) = false := decide_eq_false c10; clear c10; obtain rfl := Option.some.inj H; go_wp2; go_ret; exact ⟨_, tw_, by refine qS_ ?_; exact ao.out, (tb_ HB.out)⟩

end Go.Proofs.Ytncgleffkbegjaa.MFnExactDeskNew
