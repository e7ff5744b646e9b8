/- For the law FnDeskOk: walks of the functions that it reaches: each call returns what the plain function beside it tells. The conditions stand in each statement. -/
import Derived.Test.YtncgleffkbegjaaV
import Derived.Test.YtncgleffkbegjaaMFnDeskOkx0
import Derived.Test.YtncgleffkbegjaaMFnDeskOkx5
import Derived.Test.YtncgleffkbegjaaMFnDeskOkx13
namespace Go.Proofs.Ytncgleffkbegjaa.MFnDeskOk
open Go.RowKit Go.Proofs.YtncgleffkbegjaaW.PrintWords Go.Proofs.YtncgleffkbegjaaW.PrintLast Go.Proofs.YtncgleffkbegjaaW.PrintMore
attribute [local go_sem] max2_int min2_int max_two min_two max_three min_three max_four min_four   -- for this text's walks alone
set_option linter.unusedVariables false
set_option linter.unusedSimpArgs false

/-! ### spec_l20Open: function 31 -/
def spec_l20Open.f (l0 : List Int) : Option (List Int × Int) := if (l0.length : Int) > 2000 then (if 2000 ≤ (l0.length : Int) then (some (l0.take 2000, 0)) else (none)) else (some (l0, 0))
set_option maxHeartbeats 8000000 in
set_option maxRecDepth 100000 in
theorem spec_l20Open.calls (A0 : Option Addr) (c0 : Nat) (l0 : List Int) (r1 : List Int) (r2 : Int) (w0 w : World) (hB : Below w0.heap.size w0 w) (hr0 : Kd.C (Kd.int .u8) w0 A0 l0.length l0) (hc0 : l0.length ≤ c0) (h : spec_l20Open.f l0 = some (r1, r2)) :
  Calls Try.prog 31 #[.slice A0 l0.length c0] w fun e w' => ∃ g_ : Nat, e = .returned (.pointer (some ⟨g_, 0, none⟩)) ∧ IsS69 w0 w' g_ r1 r2 ∧ Below w0.heap.size w0 w' ∧ Below w.heap.size w w' := by
 have hu69 := Try.underlying69; have HR0 := A_ hr0; have HC0 := A_ hc0; clear hr0 hc0; have HBW := A_ (Below.refl w.heap.size w); have HW0 := A_ hB.size; have HB := A_ hB; clear hB; have H : (if (l0.length : Int) > 2000 then (if 2000 ≤ (l0.length : Int) then (some (l0.take 2000, 0)) else (none)) else (some (l0, 0))) = some (r1, r2) := h; clear h; by_cases c2 : (l0.length : Int) > 2000
 ·
  rw [if_pos c2] at H; have ap : decide (2000 < (l0.length : Int)) = true := decide_eq_true c2; have bm : decide (2000 < l0.length) = true := decide_eq_true (by omega); clear c2; by_cases c3 : 2000 ≤ (l0.length : Int)
  ·
   rw [if_pos c3] at H; have aJ := eq_true c3; have bM : decide (2000 ≤ (l0.length : Int)) = true := decide_eq_true c3; clear c3; simp only [Option.some.injEq, Prod.mk.injEq] at H; obtain ⟨rfl, rfl⟩ := H; obtain ⟨i04, hi04, _, hsz4, _⟩ := info_parts info5; obtain ⟨hcut4, hA4, hC4⟩ := print_take_of (P := Try.prog) (Value.int .u8) 0 38 5 .i64 Try.underlying38 hi04 hsz4 A0 c0 l0 2000 (by omega) (od_) HC0.out; have HR446 := A_ (Kd.C_of_reads (h1 := fun _ => rfl) (hA4 _ (Kd.reads_of_C HR0.out))); have HC446 := A_ hC4; clear hA4 hC4 hi04 hsz4; go_enter Try.func31, Try.ntmps31; go_wp2_with (first | ((with_reducible refine gate_dst (N := 10) rfl ?_); refine be_ 10 #[.slice A0 (l0.take 2000).length c0, .int .i64 0] 69 ?_; intro ar hg w5 a6 hb; replace HB := bs_ HB hb; have a7 := A_ ((by rw [hg]; exact (below_size (by repeat (first | (with_reducible first | exact HBW.out | apply la_ | apply ln_ | apply ld_) | exact HBW.out))) : w.heap.size ≤ ar)); have a8 := A_ ((Nat.le_trans HW0.out (by rw [hg]; exact (below_size (by repeat (first | (with_reducible first | exact HBW.out | apply la_ | apply ln_ | apply ld_) | exact HBW.out))) : w.heap.size ≤ ar) : w0.heap.size ≤ ar)); replace HBW := A_ (below_step HBW.out hb); clear hb hg)); go_ret; exact ⟨_, rfl, (show IsS69 w0 _ ar (l0.take 2000) 0 from ⟨_, _, by exact tk_ a6.out, a8.out, HR446.out⟩), (tb_ HB.out), by repeat (first | (with_reducible first | exact HBW.out | apply la_ | apply ln_ | apply ld_ | refine below_set ?_ a7.out) | exact HBW.out)⟩
  ·
   rw [if_neg c3] at H; exact absurd H (by simp)
 ·
  rw [if_neg c2] at H; have ap : decide (2000 < (l0.length : Int)) = false := decide_eq_false c2; have bm : decide (2000 < l0.length) = false := decide_eq_false (by omega); clear c2; simp only [Option.some.injEq, Prod.mk.injEq] at H; obtain ⟨rfl, rfl⟩ := H; go_enter Try.func31, Try.ntmps31; go_wp2_with (first | ((with_reducible refine gate_dst (N := 10) rfl ?_); refine be_ 10 #[.slice A0 l0.length c0, .int .i64 0] 69 ?_; intro au hg w6 a9 hb; replace HB := bs_ HB hb; have bb := A_ ((by rw [hg]; exact (below_size (by repeat (first | (with_reducible first | exact HBW.out | apply la_ | apply ln_ | apply ld_) | exact HBW.out))) : w.heap.size ≤ au)); have bc := A_ ((Nat.le_trans HW0.out (by rw [hg]; exact (below_size (by repeat (first | (with_reducible first | exact HBW.out | apply la_ | apply ln_ | apply ld_) | exact HBW.out))) : w.heap.size ≤ au) : w0.heap.size ≤ au)); replace HBW := A_ (below_step HBW.out hb); clear hb hg)); go_ret; exact ⟨_, rfl, (show IsS69 w0 _ au l0 0 from ⟨_, _, by exact tk_ a9.out, bc.out, HR0.out⟩), (tb_ HB.out), by repeat (first | (with_reducible first | exact HBW.out | apply la_ | apply ln_ | apply ld_ | refine below_set ?_ bb.out) | exact HBW.out)⟩

/-! ### spec_DrawDeskOk: function 14 -/
def spec_DrawDeskOk.f (k : Nat) (l0 : List Int) : Option (List Int × Int × List Int × (List (S26))) := (spec_l20Open.f l0).bind fun an => ((spec_l20Desk.f k an.1 an.2 2).bind fun ah => (some (ah.1, ah.2.1, ah.2.2.1, ah.2.2.2.1)))
theorem spec_DrawDeskOk.mono : ∀ a0 k, LeO (spec_DrawDeskOk.f k a0) (spec_DrawDeskOk.f (k + 1) a0) := by
 intro a0 k; unfold spec_DrawDeskOk.f; repeat' (with_reducible first | exact spec_l20Desk.mono _ _ _ _ | exact mr_ | exact mn_ | refine mi_ ?_ ?_ | refine mb_ ?_ (fun _ => ?_))
set_option maxHeartbeats 8000000 in
set_option maxRecDepth 100000 in
theorem spec_DrawDeskOk.calls (k : Nat) (A0 : Option Addr) (c0 : Nat) (l0 : List Int) (r1 : List Int) (r2 : Int) (r3 : List Int) (r4 : List (S26)) (w : World) (hr0 : Kd.C (Kd.int .u8) w A0 l0.length l0) (hc0 : l0.length ≤ c0) (h : spec_DrawDeskOk.f k l0 = some (r1, r2, r3, r4)) :
  Calls Try.prog 14 #[.slice A0 l0.length c0] w fun e w' => ∃ v0_ v2_ v3_ : Value, e = .returned (.agg #[v0_, .int .i64 r2, v2_, v3_]) ∧ Kd.R (Kd.int .i64) 3 w' w.heap.size (fun _ => True) v0_ r1 ∧ Kd.R (Kd.int .i64) 3 w' w.heap.size (fun _ => True) v2_ r3 ∧ Kd.Q k26 26 w' w.heap.size (fun _ => True) v3_ r4 ∧ Below w.heap.size w w' := by
 have hu29 := Try.underlying29; have HR0 := A_ hr0; have HC0 := A_ hc0; clear hr0 hc0; have HB := A_ (Below.refl w.heap.size w); have H : ((spec_l20Open.f l0).bind fun an => ((spec_l20Desk.f k an.1 an.2 2).bind fun ah => (some (ah.1, ah.2.1, ah.2.2.1, ah.2.2.2.1)))) = some (r1, r2, r3, r4) := h; clear h; obtain ⟨⟨bd, be⟩, A2, H⟩ := bnd_ H; (try dsimp only at H); obtain ⟨⟨aD, aE, aF, aG, bn⟩, A3, H⟩ := bnd_ H; (try dsimp only at H); simp only [Option.some.injEq, Prod.mk.injEq] at H; obtain ⟨rfl, rfl, rfl, rfl⟩ := H; go_enter Try.func14, Try.ntmps14; go_wp2_with (first | ((with_reducible refine gate_dst (N := 2) rfl ?_); refine be_ 2 #[.slice none 0 0, .int .i64 0, .slice none 0 0, .slice none 0 0] 29 ?_; intro ag hg w4 ae hb; have bG := gx_ HB hg; have bH := gx_ HB hg; replace HB := bs_ HB hb; clear hb hg) | ((with_reducible refine gate_callee (f := 31) rfl ?_); refine gl_ (some 4) Try.func31 #[.slice A0 l0.length c0] ?_; (with_reducible refine (spec_l20Open.calls _ _ l0 bd be w _ ?s1 ?s2 ?s3 A2.out).mono ?_); (case s1 => exact tb_ HB.out); (case s2 => exact HR0.out); (case s3 => exact HC0.out); rintro e w5 ⟨g452, rfl, hi, hb, hb2⟩; refine ⟨_, rfl, ?_⟩; replace HB := A_ (hb); have HI452 := A_ (hi); have ax := A_ (IsS69.ne_blk hi (blk_below (g := ag) (o := .cells #[.slice none 0 0, .int .i64 0, .slice none 0 0, .slice none 0 0] 29 (0, 0)) (tk_ ae.out) hb2) (by decide)); have aj := A_ (Ne.symm (IsS69.ne_blk hi (blk_below (g := ag) (o := .cells #[.slice none 0 0, .int .i64 0, .slice none 0 0, .slice none 0 0] 29 (0, 0)) (tk_ ae.out) hb2) (by decide))); replace ae := A_ (blk_below (g := ag) (o := .cells #[.slice none 0 0, .int .i64 0, .slice none 0 0, .slice none 0 0] 29 (0, 0)) (tk_ ae.out) hb2); (try clear hb hb2 hi)) | ((with_reducible refine gate_callee (f := 30) rfl ?_); refine gl_ (some 5) Try.func30 #[.pointer (some ⟨g452, 0, none⟩), .int .i64 2] ?_; (with_reducible refine (spec_l20Desk.calls k g452 bd be 2 aD aE aF aG bn w _ ?s1 ?s2 A3.out).mono ?_); (case s1 => exact ti69_ HI452.out); (case s2 => exact tu69_ HB.out); rintro e w6 ⟨bN, bO, bP, rfl, ho0, ho1, ho2, hi, hb, hk⟩; refine ⟨_, rfl, ?_⟩; replace ae := kb_ ae hk aj; have aQ := A_ (Kd.R_lower ho0 (below_size (tu69_ HB.out))); have aR := A_ (Kd.R_lower ho1 (below_size (tu69_ HB.out))); have aU := A_ (Kd.Q_lower ho2 (below_size (tu69_ HB.out))); replace HB := A_ (hb); replace HI452 := A_ (hi); (try clear hb hb2 hk hi ho0 ho1 ho2); obtain ⟨bk, co7, bQ⟩ := Kd.R_slice aQ.out; subst bQ; have bR := aj.out; have bS := ax.out; obtain ⟨bo, bp, bq, br, bs, bu, bv, bw⟩ := cf4_ ae; obtain ⟨aH, ay, aV⟩ := Kd.R_slice aR.out; subst aV; obtain ⟨aK, aL, bx, _⟩ := Kd.Q_slice aU.out; subst bx)); refine bodyPost_ret (results_cell_row rfl _ _ ag 29 #[.slice bk aD.length co7, .int .i64 aE, .slice aH aF.length ay, .slice aK aG.length aL] (0, 0) _ rfl (ps_ ae.out) Try.underlying29 rfl (by kernel_rfl)) rfl ?_; exact ⟨_, _, _, tw_, Kd.R_mono (xR_ aQ ae) (fun _ hk => trivial), Kd.R_mono (xR_ aR ae) (fun _ hk => trivial), Kd.Q_mono (xQ_ aU ae) (fun _ hk => trivial), tu69_ HB.out⟩

/-! ### impl_coloursOk: function 48 -/
def impl_coloursOk.f (a0 : Int) : Option (Bool) := if a0 ≥ 1 then (some (decide (a0 ≤ 3))) else (some false)
set_option maxHeartbeats 8000000 in
set_option maxRecDepth 100000 in
theorem impl_coloursOk.calls (a0 : Int) (r : Bool) (w : World) (h : impl_coloursOk.f a0 = some r) :
  Calls Try.prog 48 #[.int .i64 a0] w fun e w' => e = .returned (.bool r) ∧ Drawn0 w w' := by
 have H : (if a0 ≥ 1 then (some (decide (a0 ≤ 3))) else (some false)) = some r := h; clear h; by_cases c2 : a0 ≥ 1
 ·
  rw [if_pos c2] at H; have ap : decide (1 ≤ a0) = true := decide_eq_true c2; clear c2; obtain rfl := Option.some.inj H; go_enter Try.func48, Try.ntmps48; go_wp2; go_ret; exact ⟨tx_, by repeat (first | exact Drawn0.refl _ | apply Drawn0.step)⟩
 ·
  rw [if_neg c2] at H; have ap : decide (1 ≤ a0) = false := decide_eq_false c2; clear c2; obtain rfl := Option.some.inj H; go_enter Try.func48, Try.ntmps48; go_wp2; go_ret; exact ⟨tx_, by repeat (first | exact Drawn0.refl _ | apply Drawn0.step)⟩

/-! ### impl_UrnOk: function 32 -/
def impl_UrnOk.l0 : Nat → List Int → List Int → Int → Int → Option (Bool)
 | 0, _, _, _, _ => none
 | k + 1, x0, x5, x6, x7 => if x7 < x6 then (if 0 ≤ x7 then (if x7 < (x5.length : Int) then (if (rd x5 x7) < 0 then (some false) else (if (rd x5 x7) > 40 then (some false) else (impl_UrnOk.l0 k x0 x5 x6 (wrap64 (x7 + 1))))) else (none)) else (none)) else ((impl_coloursOk.f (x0.length : Int)).bind fun aW => (some aW))
def impl_UrnOk.f (k : Nat) (l0 : List Int) : Option (Bool) := impl_UrnOk.l0 k l0 l0 (l0.length : Int) 0
theorem impl_UrnOk.mono_l : ∀ k, (∀ y0 y1 y2 y3, LeO (impl_UrnOk.l0 k y0 y1 y2 y3) (impl_UrnOk.l0 (k + 1) y0 y1 y2 y3))
 | 0 => fun _ _ _ _ r h => by simp [impl_UrnOk.l0] at h
 | k + 1 => by
  have ih0 := impl_UrnOk.mono_l k
  ·
   intro y0 y1 y2 y3
   unfold impl_UrnOk.l0
   repeat' (with_reducible first | exact ih0 _ _ _ _ | exact mr_ | exact mn_ | refine mi_ ?_ ?_ | refine mb_ ?_ (fun _ => ?_))
theorem impl_UrnOk.mono : ∀ a0 k, LeO (impl_UrnOk.f k a0) (impl_UrnOk.f (k + 1) a0) := by
 intro a0 k; have ih0 := impl_UrnOk.mono_l k; unfold impl_UrnOk.f; repeat' (with_reducible first | exact ih0 _ _ _ _ | exact mr_ | exact mn_ | refine mi_ ?_ ?_ | refine mb_ ?_ (fun _ => ?_))
set_option maxHeartbeats 8000000 in
set_option maxRecDepth 100000 in
theorem impl_UrnOk.calls (k : Nat) (A0 : Option Addr) (c0 : Nat) (l0 : List Int) (r : Bool) (w : World) (hr0 : Kd.C (Kd.int .i64) w A0 l0.length l0) (hc0 : l0.length ≤ c0) (h : impl_UrnOk.f k l0 = some r) :
  Calls Try.prog 32 #[.slice A0 l0.length c0] w fun e w' => e = .returned (.bool r) ∧ Drawn0 w w' := by
 have HR0 := A_ hr0; have HC0 := A_ hc0; clear hr0 hc0; have H : (impl_UrnOk.l0 k l0 l0 (l0.length : Int) 0) = some r := h; clear h; have H' := A_ H; clear H; go_enter Try.func32, Try.ntmps32; go_wp2
 go_loopg [7] k (fun kq v7 w' => ∃ (aa : Int), v7 = .int .i64 aa ∧ Aside0 (impl_UrnOk.l0 kq l0 l0 (l0.length : Int) aa = some r) ∧ Aside0 (kq ≤ k) ∧ Drawn0 w w')
 case atStart => exact ⟨(0), tx_, H', ⟨Nat.le_refl _⟩, by repeat (first | exact Drawn0.refl _ | apply Drawn0.step)⟩
 case round =>
  clear H'; obtain ⟨aa, rfl, HA, HK1, ⟨m1, rfl⟩⟩ := hrel
  cases gk with
  | zero => exact absurd HA.out (by simp [impl_UrnOk.l0])
  | succ k1 =>
   have H := HA.out; clear HA; simp only [impl_UrnOk.l0] at H; by_cases c2 : aa < (l0.length : Int)
   ·
    rw [if_pos c2] at H; have ap : decide (aa < (l0.length : Int)) = true := decide_eq_true c2; clear c2; by_cases c3 : 0 ≤ aa
    ·
     rw [if_pos c3] at H; have aJ : decide (0 ≤ aa) = true := decide_eq_true c3; clear c3; by_cases c4 : aa < (l0.length : Int)
     ·
      rw [if_pos c4] at H; have bf : decide (aa < (l0.length : Int)) = true := decide_eq_true c4; clear c4; by_cases c5 : (rd l0 aa) < 0
      ·
       rw [if_pos c5] at H; have az : decide ((rd l0 aa) < 0) = true := decide_eq_true c5; clear c5; obtain rfl := Option.some.inj H; have p464 : 0 ≤ (aa : Int) := od_; have q464 : aa < (l0.length : Int) := od_; obtain ⟨ad464, e464, av⟩ := Kd.at_int HR0.out aa p464 q464; cases e464; replace p464 := eq_true p464; replace q464 := eq_true q464; go_wp2; go_ret; exact ⟨tx_, by repeat (first | exact Drawn0.refl _ | apply Drawn0.step)⟩
      ·
       rw [if_neg c5] at H; have az : decide ((rd l0 aa) < 0) = false := decide_eq_false c5; clear c5; by_cases c6 : (rd l0 aa) > 40
       ·
        rw [if_pos c6] at H; have aA : decide (40 < (rd l0 aa)) = true := decide_eq_true c6; clear c6; obtain rfl := Option.some.inj H; have p464 : 0 ≤ (aa : Int) := od_; have q464 : aa < (l0.length : Int) := od_; obtain ⟨ad464, e464, av⟩ := Kd.at_int HR0.out aa p464 q464; cases e464; replace p464 := eq_true p464; replace q464 := eq_true q464; go_wp2; go_ret; exact ⟨tx_, by repeat (first | exact Drawn0.refl _ | apply Drawn0.step)⟩
       ·
        rw [if_neg c6] at H; have aA : decide (40 < (rd l0 aa)) = false := decide_eq_false c6; clear c6; have H' := A_ H; clear H; have p464 : 0 ≤ (aa : Int) := od_; have q464 : aa < (l0.length : Int) := od_; obtain ⟨ad464, e464, av⟩ := Kd.at_int HR0.out aa p464 q464; cases e464; replace p464 := eq_true p464; replace q464 := eq_true q464; go_wp2
        go_roundg k1
        case measure => have := HK1.out; omega
        case rel => exact ⟨(wrap64 (aa + 1)), tx_, H', ⟨by have := HK1.out; omega⟩, by repeat (first | exact Drawn0.refl _ | apply Drawn0.step)⟩
     ·
      rw [if_neg c4] at H; exact absurd H (by simp)
    ·
     rw [if_neg c3] at H; exact absurd H (by simp)
   ·
    rw [if_neg c2] at H; have ap : decide (aa < (l0.length : Int)) = false := decide_eq_false c2; clear c2; obtain ⟨aW, A7, H⟩ := bnd_ H; (try dsimp only at H); obtain rfl := Option.some.inj H; go_wp2_with (first | ((with_reducible refine gate_callee (f := 48) rfl ?_); refine gl_ (some 20) Try.func48 #[.int .i64 (l0.length : Int)] ?_; (with_reducible refine (impl_coloursOk.calls (l0.length : Int) aW _ A7.out).mono ?_); rintro e w' ⟨rfl, ⟨nd, rfl⟩⟩; refine ⟨_, rfl, ?_⟩)); go_ret; exact ⟨tx_, by repeat (first | exact Drawn0.refl _ | apply Drawn0.step)⟩

/-! ### impl_StartOk: function 37 -/
def impl_StartOk.l0 : Nat → List Int → List Int → Int → Int → Option (Bool)
 | 0, _, _, _, _ => none
 | k + 1, x0, x5, x6, x7 => if x7 < x6 then (if 0 ≤ x7 then (if x7 < (x5.length : Int) then (if (rd x5 x7) > 10 then (some false) else (impl_StartOk.l0 k x0 x5 x6 (wrap64 (x7 + 1)))) else (none)) else (none)) else ((impl_UrnOk.f k x0).bind fun aX => (some aX))
def impl_StartOk.f (k : Nat) (l0 : List Int) : Option (Bool) := impl_StartOk.l0 k l0 l0 (l0.length : Int) 0
theorem impl_StartOk.mono_l : ∀ k, (∀ y0 y1 y2 y3, LeO (impl_StartOk.l0 k y0 y1 y2 y3) (impl_StartOk.l0 (k + 1) y0 y1 y2 y3))
 | 0 => fun _ _ _ _ r h => by simp [impl_StartOk.l0] at h
 | k + 1 => by
  have ih0 := impl_StartOk.mono_l k
  ·
   intro y0 y1 y2 y3
   unfold impl_StartOk.l0
   repeat' (with_reducible first | exact ih0 _ _ _ _ | exact impl_UrnOk.mono _ _ | exact mr_ | exact mn_ | refine mi_ ?_ ?_ | refine mb_ ?_ (fun _ => ?_))
theorem impl_StartOk.mono : ∀ a0 k, LeO (impl_StartOk.f k a0) (impl_StartOk.f (k + 1) a0) := by
 intro a0 k; have ih0 := impl_StartOk.mono_l k; unfold impl_StartOk.f; repeat' (with_reducible first | exact ih0 _ _ _ _ | exact impl_UrnOk.mono _ _ | exact mr_ | exact mn_ | refine mi_ ?_ ?_ | refine mb_ ?_ (fun _ => ?_))
set_option maxHeartbeats 8000000 in
set_option maxRecDepth 100000 in
theorem impl_StartOk.calls (k : Nat) (A0 : Option Addr) (c0 : Nat) (l0 : List Int) (r : Bool) (w : World) (hr0 : Kd.C (Kd.int .i64) w A0 l0.length l0) (hc0 : l0.length ≤ c0) (h : impl_StartOk.f k l0 = some r) :
  Calls Try.prog 37 #[.slice A0 l0.length c0] w fun e w' => e = .returned (.bool r) ∧ Drawn0 w w' := by
 have HR0 := A_ hr0; have HC0 := A_ hc0; clear hr0 hc0; have H : (impl_StartOk.l0 k l0 l0 (l0.length : Int) 0) = some r := h; clear h; have H' := A_ H; clear H; go_enter Try.func37, Try.ntmps37; go_wp2
 go_loopg [7] k (fun kq v7 w' => ∃ (aa : Int), v7 = .int .i64 aa ∧ Aside0 (impl_StartOk.l0 kq l0 l0 (l0.length : Int) aa = some r) ∧ Aside0 (kq ≤ k) ∧ Drawn0 w w')
 case atStart => exact ⟨(0), tx_, H', ⟨Nat.le_refl _⟩, by repeat (first | exact Drawn0.refl _ | apply Drawn0.step)⟩
 case round =>
  clear H'; obtain ⟨aa, rfl, HA, HK1, ⟨m1, rfl⟩⟩ := hrel
  cases gk with
  | zero => exact absurd HA.out (by simp [impl_StartOk.l0])
  | succ k1 =>
   have H := HA.out; clear HA; simp only [impl_StartOk.l0] at H; by_cases c2 : aa < (l0.length : Int)
   ·
    rw [if_pos c2] at H; have ap : decide (aa < (l0.length : Int)) = true := decide_eq_true c2; clear c2; by_cases c3 : 0 ≤ aa
    ·
     rw [if_pos c3] at H; have aJ : decide (0 ≤ aa) = true := decide_eq_true c3; clear c3; by_cases c4 : aa < (l0.length : Int)
     ·
      rw [if_pos c4] at H; have bf : decide (aa < (l0.length : Int)) = true := decide_eq_true c4; clear c4; by_cases c5 : (rd l0 aa) > 10
      ·
       rw [if_pos c5] at H; have az : decide (10 < (rd l0 aa)) = true := decide_eq_true c5; clear c5; obtain rfl := Option.some.inj H; have p466 : 0 ≤ (aa : Int) := od_; have q466 : aa < (l0.length : Int) := od_; obtain ⟨ad466, e466, aM⟩ := Kd.at_int HR0.out aa p466 q466; cases e466; replace p466 := eq_true p466; replace q466 := eq_true q466; go_wp2; go_ret; exact ⟨tx_, by repeat (first | exact Drawn0.refl _ | apply Drawn0.step)⟩
      ·
       rw [if_neg c5] at H; have az : decide (10 < (rd l0 aa)) = false := decide_eq_false c5; clear c5; have H' := A_ H; clear H; have p466 : 0 ≤ (aa : Int) := od_; have q466 : aa < (l0.length : Int) := od_; obtain ⟨ad466, e466, aM⟩ := Kd.at_int HR0.out aa p466 q466; cases e466; replace p466 := eq_true p466; replace q466 := eq_true q466; go_wp2
       go_roundg k1
       case measure => have := HK1.out; omega
       case rel => exact ⟨(wrap64 (aa + 1)), tx_, H', ⟨by have := HK1.out; omega⟩, by repeat (first | exact Drawn0.refl _ | apply Drawn0.step)⟩
     ·
      rw [if_neg c4] at H; exact absurd H (by simp)
    ·
     rw [if_neg c3] at H; exact absurd H (by simp)
   ·
    rw [if_neg c2] at H; have ap : decide (aa < (l0.length : Int)) = false := decide_eq_false c2; clear c2; obtain ⟨aX, A6, H⟩ := bnd_ H; (try dsimp only at H); obtain rfl := Option.some.inj H; go_wp2_with (first | ((with_reducible refine gate_callee (f := 32) rfl ?_); refine gl_ (some 15) Try.func32 #[.slice A0 l0.length c0] ?_; (with_reducible refine (impl_UrnOk.calls k1 _ _ l0 aX _ ?s1 ?s2 A6.out).mono ?_); (case s1 => exact td_); (case s2 => exact HC0.out); rintro e w' ⟨rfl, ⟨nd, rfl⟩⟩; refine ⟨_, rfl, ?_⟩)); go_ret; exact ⟨tx_, by repeat (first | exact Drawn0.refl _ | apply Drawn0.step)⟩

/-! ### impl_WordOk: function 38 -/
def impl_WordOk.l0 : Nat → Int → List Int → List Int → Int → Int → Option (Bool)
 | 0, _, _, _, _, _ => none
 | k + 1, x0, x1, x7, x8, x9 => if x9 < x8 then (if 0 ≤ x9 then (if x9 < (x7.length : Int) then (if (rd x7 x9) < 0 then (some false) else (if (rd x7 x9) ≥ x0 then (some false) else (impl_WordOk.l0 k x0 x1 x7 x8 (wrap64 (x9 + 1))))) else (none)) else (none)) else ((impl_coloursOk.f x0).bind fun aY => (if aY = true then (some (decide ((x1.length : Int) ≤ 6))) else (some false)))
def impl_WordOk.f (k : Nat) (a0 : Int) (l1 : List Int) : Option (Bool) := impl_WordOk.l0 k a0 l1 l1 (l1.length : Int) 0
theorem impl_WordOk.mono_l : ∀ k, (∀ y0 y1 y2 y3 y4, LeO (impl_WordOk.l0 k y0 y1 y2 y3 y4) (impl_WordOk.l0 (k + 1) y0 y1 y2 y3 y4))
 | 0 => fun _ _ _ _ _ r h => by simp [impl_WordOk.l0] at h
 | k + 1 => by
  have ih0 := impl_WordOk.mono_l k
  ·
   intro y0 y1 y2 y3 y4
   unfold impl_WordOk.l0
   repeat' (with_reducible first | exact ih0 _ _ _ _ _ | exact mr_ | exact mn_ | refine mi_ ?_ ?_ | refine mb_ ?_ (fun _ => ?_))
theorem impl_WordOk.mono : ∀ a0 a1 k, LeO (impl_WordOk.f k a0 a1) (impl_WordOk.f (k + 1) a0 a1) := by
 intro a0 a1 k; have ih0 := impl_WordOk.mono_l k; unfold impl_WordOk.f; repeat' (with_reducible first | exact ih0 _ _ _ _ _ | exact mr_ | exact mn_ | refine mi_ ?_ ?_ | refine mb_ ?_ (fun _ => ?_))
set_option maxHeartbeats 8000000 in
set_option maxRecDepth 100000 in
theorem impl_WordOk.calls (k : Nat) (a0 : Int) (A1 : Option Addr) (c1 : Nat) (l1 : List Int) (r : Bool) (w : World) (hr1 : Kd.C (Kd.int .i64) w A1 l1.length l1) (hc1 : l1.length ≤ c1) (h : impl_WordOk.f k a0 l1 = some r) :
  Calls Try.prog 38 #[.int .i64 a0, .slice A1 l1.length c1] w fun e w' => e = .returned (.bool r) ∧ Drawn0 w w' := by
 have HR1 := A_ hr1; have HC1 := A_ hc1; clear hr1 hc1; have H : (impl_WordOk.l0 k a0 l1 l1 (l1.length : Int) 0) = some r := h; clear h; have H' := A_ H; clear H; go_enter Try.func38, Try.ntmps38; go_wp2
 go_loopg [9] k (fun kq v9 w' => ∃ (af : Int), v9 = .int .i64 af ∧ Aside0 (impl_WordOk.l0 kq a0 l1 l1 (l1.length : Int) af = some r) ∧ Aside0 (kq ≤ k) ∧ Drawn0 w w')
 case atStart => exact ⟨(0), tx_, H', ⟨Nat.le_refl _⟩, by repeat (first | exact Drawn0.refl _ | apply Drawn0.step)⟩
 case round =>
  clear H'; (try clear c1); (try clear p2); obtain ⟨af, rfl, HA, HK1, ⟨m1, rfl⟩⟩ := hrel
  cases gk with
  | zero => exact absurd HA.out (by simp [impl_WordOk.l0])
  | succ k1 =>
   have H := HA.out; clear HA; simp only [impl_WordOk.l0] at H; by_cases c3 : af < (l1.length : Int)
   ·
    rw [if_pos c3] at H; have aJ : decide (af < (l1.length : Int)) = true := decide_eq_true c3; clear c3; by_cases c4 : 0 ≤ af
    ·
     rw [if_pos c4] at H; have bf : decide (0 ≤ af) = true := decide_eq_true c4; clear c4; by_cases c5 : af < (l1.length : Int)
     ·
      rw [if_pos c5] at H; have az : decide (af < (l1.length : Int)) = true := decide_eq_true c5; clear c5; by_cases c6 : (rd l1 af) < 0
      ·
       rw [if_pos c6] at H; have aA : decide ((rd l1 af) < 0) = true := decide_eq_true c6; clear c6; obtain rfl := Option.some.inj H; have p468 : 0 ≤ (af : Int) := od_; have q468 : af < (l1.length : Int) := od_; obtain ⟨ad468, e468, aw⟩ := Kd.at_int HR1.out af p468 q468; cases e468; replace p468 := eq_true p468; replace q468 := eq_true q468; go_wp2; go_ret; exact ⟨tx_, by repeat (first | exact Drawn0.refl _ | apply Drawn0.step)⟩
      ·
       rw [if_neg c6] at H; have aA : decide ((rd l1 af) < 0) = false := decide_eq_false c6; clear c6; by_cases c7 : (rd l1 af) ≥ a0
       ·
        rw [if_pos c7] at H; have aZ : decide (a0 ≤ (rd l1 af)) = true := decide_eq_true c7; clear c7; obtain rfl := Option.some.inj H; have p468 : 0 ≤ (af : Int) := od_; have q468 : af < (l1.length : Int) := od_; obtain ⟨ad468, e468, aw⟩ := Kd.at_int HR1.out af p468 q468; cases e468; replace p468 := eq_true p468; replace q468 := eq_true q468; go_wp2; go_ret; exact ⟨tx_, by repeat (first | exact Drawn0.refl _ | apply Drawn0.step)⟩
       ·
        rw [if_neg c7] at H; have aZ : decide (a0 ≤ (rd l1 af)) = false := decide_eq_false c7; clear c7; have H' := A_ H; clear H; have p468 : 0 ≤ (af : Int) := od_; have q468 : af < (l1.length : Int) := od_; obtain ⟨ad468, e468, aw⟩ := Kd.at_int HR1.out af p468 q468; cases e468; replace p468 := eq_true p468; replace q468 := eq_true q468; go_wp2
        go_roundg k1
        case measure => have := HK1.out; omega
        case rel => exact ⟨(wrap64 (af + 1)), tx_, H', ⟨by have := HK1.out; omega⟩, by repeat (first | exact Drawn0.refl _ | apply Drawn0.step)⟩
     ·
      rw [if_neg c5] at H; exact absurd H (by simp)
    ·
     rw [if_neg c4] at H; exact absurd H (by simp)
   ·
    rw [if_neg c3] at H; have aJ : decide (af < (l1.length : Int)) = false := decide_eq_false c3; clear c3; obtain ⟨aY, A8, H⟩ := bnd_ H; (try dsimp only at H); by_cases c9 : aY = true
    ·
     subst c9; replace H : (some (decide ((l1.length : Int) ≤ 6))) = some r := by rw [if_pos rfl] at H; exact H
     obtain rfl := Option.some.inj H; go_wp2_with (first | ((with_reducible refine gate_callee (f := 48) rfl ?_); refine gl_ (some 22) Try.func48 #[.int .i64 a0] ?_; (with_reducible refine (impl_coloursOk.calls a0 true _ A8.out).mono ?_); rintro e w' ⟨rfl, ⟨nd, rfl⟩⟩; refine ⟨_, rfl, ?_⟩)); go_ret; exact ⟨tx_, by repeat (first | exact Drawn0.refl _ | apply Drawn0.step)⟩
    ·
     replace c9 := Bool.eq_false_iff.mpr c9; subst c9; replace H : (some false) = some r := by rw [if_neg (show ¬ (false = true) by decide)] at H; exact H
     obtain rfl := Option.some.inj H; go_wp2_with (first | ((with_reducible refine gate_callee (f := 48) rfl ?_); refine gl_ (some 22) Try.func48 #[.int .i64 a0] ?_; (with_reducible refine (impl_coloursOk.calls a0 false _ A8.out).mono ?_); rintro e w' ⟨rfl, ⟨nd, rfl⟩⟩; refine ⟨_, rfl, ?_⟩)); go_ret; exact ⟨tx_, by repeat (first | exact Drawn0.refl _ | apply Drawn0.step)⟩

/-! ### slices_Clone_int_int: function 41 -/
def slices_Clone_int_int.f (l0 : List Int) : Option (List Int) := if l0.length * 8 ≤ 140737488355328 then some l0 else none
theorem slices_Clone_int_int.calls (A0 : Option Addr) (c0 : Nat) (l0 : List Int) (r : List Int) (w : World) (hr0 : Kd.C (Kd.int .i64) w A0 l0.length l0) (hc0 : l0.length ≤ c0) (h : slices_Clone_int_int.f l0 = some r) :
  Calls Try.prog 41 #[.slice A0 l0.length c0] w fun e w' => ∃ v0_ : Value, e = .returned (v0_) ∧ Kd.R (Kd.int .i64) 3 w' w.heap.size (fun _ => True) v0_ r ∧ Below w.heap.size w w' := by
 unfold slices_Clone_int_int.f at h; by_cases hl : l0.length * 8 ≤ 140737488355328
 ·
  rw [if_pos hl] at h; obtain rfl := Option.some.inj h; rcases Nat.eq_zero_or_pos l0.length with h0 | h0
  ·
   obtain rfl : l0 = [] := List.eq_nil_of_length_eq_zero h0
   cases A0 with
   | none => exact (Sh.Try.slices_Clone_int_nil 0 c0 w).mono fun e w' ⟨he, hw⟩ => ⟨.slice none 0 0, he, Kd.R_nil _ _ _ _ _, hw ▸ Below.refl _ _⟩
   | some ad => exact (Sh.Try.slices_Clone_int_zero ad c0 w).mono fun e w' ⟨v, he, ho, _, hb⟩ => ⟨v, he, Kd.R_of_own (xs := []) ho (fun _ _ => trivial), hb⟩
  ·
   obtain ⟨ad, rfl, hc⟩ := hr0.2.2 h0
   have hcell : ∀ j, j < l0.length → w.cell? (ad.add j) = some (.int .i64 (l0.getD j 0)) := by
    intro j hj; obtain ⟨c, hc1, hc2, hc3⟩ := hc j _ (List.getElem?_eq_getElem hj); have e1 : c = [.int .i64 l0[j]] := hc2; have := hc3 0 _ (by rw [e1]; rfl); rw [List.getD_eq_getElem?_getD, List.getElem?_eq_getElem hj]; simpa [Kd.int, Kd.scalar] using this
   have hs := hcell 0 h0
   have hsp : ad.spot = none := by
    cases hq : ad.spot with
    | none => rfl
    | some q => simp [World.cell?, Addr.add, hq] at hs; split at hs <;> simp at hs
   obtain ⟨b, o, sp⟩ := ad; simp only at hsp; subst hsp; refine (Sh.Try.slices_Clone_int b o l0.length c0 l0 w (Nat.le_refl _) hl (fun j hj => by have := hcell j hj; unfold Addr.add at this; split at this <;> simp_all)).mono fun e w' ⟨v, he, ho, _, hb⟩ => ⟨v, he, Kd.R_of_own (by rw [List.take_length] at ho; exact ho) (fun _ _ => trivial), hb⟩
 ·
  rw [if_neg hl] at h; exact absurd h (by simp)

/-! ### impl_added: function 58 -/
def impl_added.l0 : Nat → List Int → List Int → Int → Int → Option (List Int)
 | 0, _, _, _, _ => none
 | k + 1, x5, x10, x11, x12 => if x12 < x11 then (if 0 ≤ x12 then (if x12 < (x10.length : Int) then (if x12 < (x5.length : Int) then (impl_added.l0 k (x5.set (x12 : Int).toNat (wrap64 ((rd x5 x12) + (rd x10 x12)))) x10 x11 (wrap64 (x12 + 1))) else (none)) else (none)) else (none)) else (some x5)
def impl_added.f (k : Nat) (l0 : List Int) (l1 : List Int) : Option (List Int) := (slices_Clone_int_int.f l0).bind fun aB => (impl_added.l0 k aB l1 (l1.length : Int) 0)
theorem impl_added.mono_l : ∀ k, (∀ y0 y1 y2 y3, LeO (impl_added.l0 k y0 y1 y2 y3) (impl_added.l0 (k + 1) y0 y1 y2 y3))
 | 0 => fun _ _ _ _ r h => by simp [impl_added.l0] at h
 | k + 1 => by
  have ih0 := impl_added.mono_l k
  ·
   intro y0 y1 y2 y3
   unfold impl_added.l0
   repeat' (with_reducible first | exact ih0 _ _ _ _ | exact mr_ | exact mn_ | refine mi_ ?_ ?_ | refine mb_ ?_ (fun _ => ?_))
theorem impl_added.mono : ∀ a0 a1 k, LeO (impl_added.f k a0 a1) (impl_added.f (k + 1) a0 a1) := by
 intro a0 a1 k; have ih0 := impl_added.mono_l k; unfold impl_added.f; repeat' (with_reducible first | exact ih0 _ _ _ _ | exact mr_ | exact mn_ | refine mi_ ?_ ?_ | refine mb_ ?_ (fun _ => ?_))
set_option maxHeartbeats 8000000 in
set_option maxRecDepth 100000 in
theorem impl_added.calls (k : Nat) (A0 : Option Addr) (c0 : Nat) (l0 : List Int) (A1 : Option Addr) (c1 : Nat) (l1 : List Int) (r : List Int) (w : World) (hr0 : Kd.C (Kd.int .i64) w A0 l0.length l0) (hc0 : l0.length ≤ c0) (hr1 : Kd.C (Kd.int .i64) w A1 l1.length l1) (hc1 : l1.length ≤ c1) (h : impl_added.f k l0 l1 = some r) :
  Calls Try.prog 58 #[.slice A0 l0.length c0, .slice A1 l1.length c1] w fun e w' => ∃ v0_ : Value, e = .returned (v0_) ∧ Kd.R (Kd.int .i64) 3 w' w.heap.size (fun _ => True) v0_ r ∧ Below w.heap.size w w' := by
 have HR0 := A_ hr0; have HC0 := A_ hc0; clear hr0 hc0; have HR1 := A_ hr1; have HC1 := A_ hc1; clear hr1 hc1; have HB := A_ (Below.refl w.heap.size w); have H : ((slices_Clone_int_int.f l0).bind fun aB => (impl_added.l0 k aB l1 (l1.length : Int) 0)) = some r := h; clear h; obtain ⟨aB, A3, H⟩ := bnd_ H; (try dsimp only at H); have H' := A_ H; clear H; go_enter Try.func58, Try.ntmps58; go_wp2_with (first | ((with_reducible refine gate_callee (f := 41) rfl ?_); refine gl_ (some 9) Try.func41 #[.slice A0 l0.length c0] ?_; (with_reducible refine (slices_Clone_int_int.calls _ _ l0 aB _ ?s1 ?s2 A3.out).mono ?_); (case s1 => exact td_); (case s2 => exact HC0.out); rintro e w4 ⟨bz, rfl, ho0, hb⟩; refine ⟨_, rfl, ?_⟩; have bg := rx_ ho0 HB; replace HB := bs_ HB hb; (try clear hb ho0)))
 go_loopg [12] k (fun kq bU w' => ∃ (ai : List Int) (ab : Int), bU = .int .i64 ab ∧ Aside0 (impl_added.l0 kq ai l1 (l1.length : Int) ab = some r) ∧ Aside0 (kq ≤ k) ∧ Aside0 (Kd.R (Kd.int .i64) 3 w' w.heap.size (fun _ => True) bz ai) ∧ Aside0 (Below w.heap.size w w'))
 case atStart => exact ⟨(aB), (0), tx_, H', ⟨Nat.le_refl _⟩, ⟨rR_ bg.out⟩, ⟨(tb_ HB.out)⟩⟩
 case round =>
  clear H'; (try clear c1); (try clear p2); (try clear c4); obtain ⟨ai, ab, rfl, HA, HK1, ao, HB⟩ := hrel
  cases gk with
  | zero => exact absurd HA.out (by simp [impl_added.l0])
  | succ k1 =>
   have H := HA.out; clear HA; simp only [impl_added.l0] at H; by_cases c5 : ab < (l1.length : Int)
   ·
    rw [if_pos c5] at H; have az : decide (ab < (l1.length : Int)) = true := decide_eq_true c5; clear c5; by_cases c6 : 0 ≤ ab
    ·
     rw [if_pos c6] at H; have aA : decide (0 ≤ ab) = true := decide_eq_true c6; clear c6; by_cases c7 : ab < (l1.length : Int)
     ·
      rw [if_pos c7] at H; have aZ : decide (ab < (l1.length : Int)) = true := decide_eq_true c7; clear c7; by_cases c8 : ab < (ai.length : Int)
      ·
       rw [if_pos c8] at H; have bB : decide (ab < (ai.length : Int)) = true := decide_eq_true c8; clear c8; obtain ⟨a3, aI⟩ : ∃ y_ : List Int, y_ = (ai.set (ab : Int).toNat (wrap64 ((rd ai ab) + (rd l1 ab)))) := ⟨_, rfl⟩
       replace H : (impl_added.l0 k1 a3 l1 (l1.length : Int) (wrap64 (ab + 1))) = some r := yq_ aI H; have bh := A_ aI; clear aI; have H' := A_ H; clear H; have p473 : 0 ≤ (ab : Int) := od_; have q473 : ab < (l1.length : Int) := od_; obtain ⟨ad473, e473, ak⟩ := Kd.at_int HR1.out ab p473 q473; cases e473; replace ak := (HB.out.cell (World.block_lt_of_cell? w _ ak)).trans ak; replace p473 := eq_true p473; replace q473 := eq_true q473; obtain ⟨aH, ay, aV⟩ := Kd.R_slice ao.out; subst aV; have p474 : 0 ≤ (ab : Int) := od_; have q474 : ab < (ai.length : Int) := od_; obtain ⟨ad474, e474, aN⟩ := Kd.at_int (Kd.R_reads' ao.out).2.2 ab p474 q474; cases e474; replace p474 := eq_true p474; replace q474 := eq_true q474; have p9 : 0 ≤ (ab : Int) := od_; have q9 : (ab : Int) < ((ai.length : Int) : Int) := od_; obtain ⟨go9, co9, bI, bJ, gl9, cl9, HG9⟩ := Kd.R_form ao.out (by omega); (first | cases bI | (injection bI with ea_ en_ ec_; (first | subst ea_ | (injection ea_ with ea_; subst ea_)); subst ec_; clear en_)); have GB9 := A_ bJ; have GG9 := A_ HG9; clear bJ gl9 HG9; (first | simp only [add_plain] at aN | skip); obtain ⟨bK, hf9_0⟩ := Kd.R_celln 0 ao.out (ab : Int) p9 q9; replace p9 := eq_true p9; replace q9 := eq_true q9; have HP11 := Kd.R_putg ao.out (ab : Int) (wrap64 ((rd ai ab) + (rd l1 ab))); go_wp2_with (first | ((with_reducible refine gate_store (t := 3) (p := 23) rfl ?_); refine store_event (t := 3) (p := 23) (v := ?vo_w12) (w1 := (wr.setCell ⟨go9, (ab : Int).toNat, none⟩ (.int .i64 (wrap64 ((rd ai ab) + (rd l1 ab)))))) ?hg ?ho ?hn ?hr ?_; (case ho => rfl); (case hg => rfl); (case hn => rfl); (case hr => first | (go_simp; done) | (go_simp; rfl)); intro bC hw; have hg : wr.grownBy bC (some go9) := (by rw [hw]; exact HP11.2); have hp_ : Kd.R (Kd.int .i64) 3 bC w.heap.size (fun _ => True) (.slice (some ⟨go9, 0, none⟩) ai.length ay) a3 := (by rw [hw, bh.out]; exact HP11.1); clear HP11; replace ao := A_ (hp_); replace HB := A_ ((by rw [hw]; exact below_set (HB.out) GB9.out : Below w.heap.size w bC)); clear hg hw hp_))
       go_roundg k1
       case measure => have := HK1.out; omega
       case rel => exact ⟨(a3), (wrap64 (ab + 1)), tx_, H', ⟨by have := HK1.out; omega⟩, ⟨rR_ ao.out⟩, ⟨(tb_ HB.out)⟩⟩
      ·
       rw [if_neg c8] at H; exact absurd H (by simp)
     ·
      rw [if_neg c7] at H; exact absurd H (by simp)
    ·
     rw [if_neg c6] at H; exact absurd H (by simp)
   ·
    rw [if_neg c5] at H; have az : decide (ab < (l1.length : Int)) = false := decide_eq_false c5; clear c5; obtain rfl := Option.some.inj H; go_wp2; go_ret; exact ⟨_, tw_, by refine qR_ ?_; exact ao.out, (tb_ HB.out)⟩

/-! ### impl_after: function 53 -/
def impl_after.l0 : Nat → List (List Int) → List Int → List Int → Int → Int → Option (List Int)
 | 0, _, _, _, _, _ => none
 | k + 1, x1, x7, x12, x13, x14 => if x14 < x13 then (if 0 ≤ x14 then (if x14 < (x12.length : Int) then (if 0 ≤ (rd x12 x14) then (if (rd x12 x14) < (x1.length : Int) then ((impl_added.f k x7 (rd_L1 x1 (rd x12 x14))).bind fun aO => (impl_after.l0 k x1 aO x12 x13 (wrap64 (x14 + 1)))) else (none)) else (none)) else (none)) else (none)) else (some x7)
def impl_after.f (k : Nat) (l0 : List Int) (l1 : List (List Int)) (l2 : List Int) : Option (List Int) := (slices_Clone_int_int.f l0).bind fun aC => (impl_after.l0 k l1 aC l2 (l2.length : Int) 0)
theorem impl_after.mono_l : ∀ k, (∀ y0 y1 y2 y3 y4, LeO (impl_after.l0 k y0 y1 y2 y3 y4) (impl_after.l0 (k + 1) y0 y1 y2 y3 y4))
 | 0 => fun _ _ _ _ _ r h => by simp [impl_after.l0] at h
 | k + 1 => by
  have ih0 := impl_after.mono_l k
  ·
   intro y0 y1 y2 y3 y4
   unfold impl_after.l0
   repeat' (with_reducible first | exact ih0 _ _ _ _ _ | exact impl_added.mono _ _ _ | exact mr_ | exact mn_ | refine mi_ ?_ ?_ | refine mb_ ?_ (fun _ => ?_))
theorem impl_after.mono : ∀ a0 a1 a2 k, LeO (impl_after.f k a0 a1 a2) (impl_after.f (k + 1) a0 a1 a2) := by
 intro a0 a1 a2 k; have ih0 := impl_after.mono_l k; unfold impl_after.f; repeat' (with_reducible first | exact ih0 _ _ _ _ _ | exact impl_added.mono _ _ _ | exact mr_ | exact mn_ | refine mi_ ?_ ?_ | refine mb_ ?_ (fun _ => ?_))
set_option maxHeartbeats 8000000 in
set_option maxRecDepth 100000 in
theorem impl_after.calls (k : Nat) (A0 : Option Addr) (c0 : Nat) (l0 : List Int) (A1 : Option Addr) (c1 : Nat) (l1 : List (List Int)) (A2 : Option Addr) (c2 : Nat) (l2 : List Int) (r : List Int) (w : World) (hr0 : Kd.C (Kd.int .i64) w A0 l0.length l0) (hc0 : l0.length ≤ c0) (hr1 : Kd.C (Kd.slice 3 (Kd.int .i64)) w A1 l1.length l1) (hc1 : l1.length ≤ c1) (hr2 : Kd.C (Kd.int .i64) w A2 l2.length l2) (hc2 : l2.length ≤ c2) (h : impl_after.f k l0 l1 l2 = some r) :
  Calls Try.prog 53 #[.slice A0 l0.length c0, .slice A1 l1.length c1, .slice A2 l2.length c2] w fun e w' => ∃ v0_ : Value, e = .returned (v0_) ∧ Kd.R (Kd.int .i64) 3 w' w.heap.size (fun _ => True) v0_ r ∧ Below w.heap.size w w' := by
 have HR0 := A_ hr0; have HC0 := A_ hc0; clear hr0 hc0; have HR1 := A_ hr1; have HC1 := A_ hc1; clear hr1 hc1; have HR2 := A_ hr2; have HC2 := A_ hc2; clear hr2 hc2; have HB := A_ (Below.refl w.heap.size w); have H : ((slices_Clone_int_int.f l0).bind fun aC => (impl_after.l0 k l1 aC l2 (l2.length : Int) 0)) = some r := h; clear h; obtain ⟨aC, A4, H⟩ := bnd_ H; (try dsimp only at H); have H' := A_ H; clear H; go_enter Try.func53, Try.ntmps53; go_wp2_with (first | ((with_reducible refine gate_callee (f := 41) rfl ?_); refine gl_ (some 11) Try.func41 #[.slice A0 l0.length c0] ?_; (with_reducible refine (slices_Clone_int_int.calls _ _ l0 aC _ ?s1 ?s2 A4.out).mono ?_); (case s1 => exact td_); (case s2 => exact HC0.out); rintro e w5 ⟨bV, rfl, ho0, hb⟩; refine ⟨_, rfl, ?_⟩; have bi := rx_ ho0 HB; replace HB := bs_ HB hb; (try clear hb ho0)))
 go_loopg [7, 14] k (fun kq v7 bW w' => ∃ (aa : List Int) (ac : Int), bW = .int .i64 ac ∧ Aside0 (impl_after.l0 kq l1 aa l2 (l2.length : Int) ac = some r) ∧ Aside0 (kq ≤ k) ∧ Aside0 (Kd.R (Kd.int .i64) 3 w' w.heap.size (fun _ => True) v7 aa) ∧ Aside0 (Below w.heap.size w w'))
 case atStart => exact ⟨(aC), (0), tx_, H', ⟨Nat.le_refl _⟩, ⟨rR_ bi.out⟩, ⟨(tb_ HB.out)⟩⟩
 case round =>
  clear H'; (try clear c1); (try clear c2); (try clear p2); (try clear c4); (try clear c5); obtain ⟨aa, ac, rfl, HA, HK1, aq, HB⟩ := hrel
  cases gk with
  | zero => exact absurd HA.out (by simp [impl_after.l0])
  | succ k1 =>
   have H := HA.out; clear HA; simp only [impl_after.l0] at H; by_cases c6 : ac < (l2.length : Int)
   ·
    rw [if_pos c6] at H; have aA : decide (ac < (l2.length : Int)) = true := decide_eq_true c6; clear c6; by_cases c7 : 0 ≤ ac
    ·
     rw [if_pos c7] at H; have aZ : decide (0 ≤ ac) = true := decide_eq_true c7; clear c7; by_cases c8 : ac < (l2.length : Int)
     ·
      rw [if_pos c8] at H; have bB : decide (ac < (l2.length : Int)) = true := decide_eq_true c8; clear c8; by_cases c9 : 0 ≤ (rd l2 ac)
      ·
       rw [if_pos c9] at H; have bX : decide (0 ≤ (rd l2 ac)) = true := decide_eq_true c9; clear c9; by_cases c10 : (rd l2 ac) < (l1.length : Int)
       ·
        rw [if_pos c10] at H; have bL : decide ((rd l2 ac) < (l1.length : Int)) = true := decide_eq_true c10; clear c10; obtain ⟨aO, A11, H⟩ := bnd_ H; (try dsimp only at H); have H' := A_ H; clear H; have p479 : 0 ≤ (ac : Int) := od_; have q479 : ac < (l2.length : Int) := od_; obtain ⟨ad479, e479, al⟩ := Kd.at_int HR2.out ac p479 q479; cases e479; replace al := (HB.out.cell (World.block_lt_of_cell? w _ al)).trans al; replace p479 := eq_true p479; replace q479 := eq_true q479; have p480 : 0 ≤ ((rd l2 ac) : Int) := od_; have q480 : (rd l2 ac) < (l1.length : Int) := od_; obtain ⟨ad480, a4, a5, e480, am, hl480_0, hi480_0⟩ := at_L1 HR1.out (rd l2 ac) p480 q480; cases e480; replace am := (HB.out.cell (World.block_lt_of_cell? w _ am)).trans am; have bl := A_ hi480_0; have aP := A_ hl480_0; clear hi480_0 hl480_0; replace p480 := eq_true p480; replace q480 := eq_true q480; obtain ⟨bD, bE, bF⟩ := Kd.R_slice aq.out; subst bF; go_wp2_with (first | ((with_reducible refine gate_callee (f := 58) rfl ?_); refine gl_ (some 23) Try.func58 #[.slice bD aa.length bE, .slice a4 (rd_L1 l1 (rd l2 ac)).length a5] ?_; (with_reducible refine (impl_added.calls k1 _ _ aa _ _ (rd_L1 l1 (rd l2 ac)) aO _ ?s1 ?s2 ?s3 ?s4 A11.out).mono ?_); (case s1 => exact rc_ aq); (case s2 => exact (ll_ aq)); (case s3 => exact tD_); (case s4 => exact aP.out); rintro e b0 ⟨bZ, rfl, ho0, hb⟩; refine ⟨_, rfl, ?_⟩; have bj := rx_ (nR_ ho0 (Kd.R_lt (rR_ aq.out))) HB; replace aq := A_ (Kd.R_elder' (rR_ aq.out) (Kd.R_base ho0) hb); replace HB := bs_ HB hb; (try clear hb ho0)))
        go_roundg k1
        case measure => have := HK1.out; omega
        case rel => exact ⟨(aO), (wrap64 (ac + 1)), tx_, H', ⟨by have := HK1.out; omega⟩, ⟨by refine qR_ ?_; exact Kd.R_mono bj.out (fun _ hk => trivial)⟩, ⟨(tb_ HB.out)⟩⟩
       ·
        rw [if_neg c10] at H; exact absurd H (by simp)
      ·
       rw [if_neg c9] at H; exact absurd H (by simp)
     ·
      rw [if_neg c8] at H; exact absurd H (by simp)
    ·
     rw [if_neg c7] at H; exact absurd H (by simp)
   ·
    rw [if_neg c6] at H; have aA : decide (ac < (l2.length : Int)) = false := decide_eq_false c6; clear c6; obtain rfl := Option.some.inj H; go_wp2; go_ret; exact ⟨_, tw_, by refine qR_ ?_; exact aq.out, (tb_ HB.out)⟩

end Go.Proofs.Ytncgleffkbegjaa.MFnDeskOk
