/- For the law FnExactDeskNew: walks of the functions that it reaches: each call returns what the plain function beside it tells. The conditions stand in each statement. -/
import Derived.Test.YtncgleffkbegjaaV
import Derived.Test.YtncgleffkbegjaaMFnExactDeskNewx0
namespace Go.Proofs.Ytncgleffkbegjaa.MFnExactDeskNew
open Go.RowKit Go.Proofs.YtncgleffkbegjaaW.PrintWords Go.Proofs.YtncgleffkbegjaaW.PrintLast Go.Proofs.YtncgleffkbegjaaW.PrintMore
attribute [local go_sem] max2_int min2_int max_two min_two max_three min_three max_four min_four   -- for this text's walks alone
set_option linter.unusedVariables false
set_option linter.unusedSimpArgs false

/-! ### laws_toIntS: function 21 -/
def laws_toIntS.l0 : Nat → List Int → List Int → Int → Option (List Int)
 | 0, _, _, _ => none
 | k + 1, x0, x3, x4 => if x4 < (x0.length : Int) then (if 0 ≤ x4 then (if x4 < (x3.length : Int) then (laws_toIntS.l0 k x0 (x3.set (x4 : Int).toNat (rd x0 x4)) (wrap64 (x4 + 1))) else (none)) else (none)) else (some x3)
def laws_toIntS.f (k : Nat) (l0 : List Int) : Option (List Int) := if 0 ≤ (l0.length : Int) then (if ((l0.length : Int) : Int).toNat ≤ 35184372088832 then (laws_toIntS.l0 k l0 (List.replicate ((l0.length : Int) : Int).toNat 0) 0) else (none)) else (none)
theorem laws_toIntS.mono_l : ∀ k, (∀ y0 y1 y2, LeO (laws_toIntS.l0 k y0 y1 y2) (laws_toIntS.l0 (k + 1) y0 y1 y2))
 | 0 => fun _ _ _ r h => by simp [laws_toIntS.l0] at h
 | k + 1 => by
  have ih0 := laws_toIntS.mono_l k
  ·
   intro y0 y1 y2
   unfold laws_toIntS.l0
   repeat' (with_reducible first | exact ih0 _ _ _ | exact mr_ | exact mn_ | refine mi_ ?_ ?_ | refine mb_ ?_ (fun _ => ?_))
theorem laws_toIntS.mono : ∀ a0 k, LeO (laws_toIntS.f k a0) (laws_toIntS.f (k + 1) a0) := by
 intro a0 k; have ih0 := laws_toIntS.mono_l k; unfold laws_toIntS.f; repeat' (with_reducible first | exact ih0 _ _ _ | exact mr_ | exact mn_ | refine mi_ ?_ ?_ | refine mb_ ?_ (fun _ => ?_))
set_option maxHeartbeats 8000000 in
set_option maxRecDepth 100000 in
theorem laws_toIntS.calls (k : Nat) (A0 : Option Addr) (c0 : Nat) (l0 : List Int) (r : List Int) (w : World) (hr0 : Kd.C (Kd.int .i64) w A0 l0.length l0) (hc0 : l0.length ≤ c0) (h : laws_toIntS.f k l0 = some r) :
  Calls Try.prog 21 #[.slice A0 l0.length c0] w fun e w' => ∃ v0_ : Value, e = .returned (v0_) ∧ Kd.R (Kd.int .i64) 3 w' w.heap.size (fun _ => True) v0_ r ∧ Below w.heap.size w w' := by
 have HR0 := A_ hr0; have HC0 := A_ hc0; clear hr0 hc0; have HB := A_ (Below.refl w.heap.size w); have H : (if 0 ≤ (l0.length : Int) then (if ((l0.length : Int) : Int).toNat ≤ 35184372088832 then (laws_toIntS.l0 k l0 (List.replicate ((l0.length : Int) : Int).toNat 0) 0) else (none)) else (none)) = some r := h; clear h; by_cases c2 : 0 ≤ (l0.length : Int)
 ·
  rw [if_pos c2] at H; have aw := eq_true c2; have bO : decide (0 ≤ (l0.length : Int)) = true := decide_eq_true c2; clear c2; by_cases c3 : ((l0.length : Int) : Int).toNat ≤ 35184372088832
  ·
   rw [if_pos c3] at H; have aL := eq_true c3; have bP : decide (((l0.length : Int) : Int).toNat ≤ 35184372088832) = true := decide_eq_true c3; clear c3; obtain ⟨bb, aM⟩ : ∃ y_ : List Int, y_ = (List.replicate ((l0.length : Int) : Int).toNat 0) := ⟨_, rfl⟩
   replace H : (laws_toIntS.l0 k l0 bb 0) = some r := yq_ aM H; have aZ := A_ aM; clear aM; have H' := A_ H; clear H; go_enter Try.func21, Try.ntmps21; go_wp2_with (first | ((with_reducible refine gate_dst (N := 7) rfl ?_); refine Kd.R_make (Kd.int .i64) _ 3 rfl (N := 7) rfl 22 _ _ rfl (l0.length : Int) rfl rfl Try.underlying22 (.int .i64 0) 8 info3 rfl (by decide) (by omega) 0 (ok := fun _ => True) (okp := fun _ => True) rfl (fun _ hk => hk) trivial (od_) (Nat.le_trans (Nat.mul_le_mul_right _ (od_ : (l0.length : Int).toNat ≤ 35184372088832)) (by omega)) (Below.refl _ _) (Nat.le_refl _) ?_; intro bQ w4 ho5 hb hg_ hnew_; clear hg_ hnew_; (first | rw [← aZ.out] at ho5 | (simp only [Int.reduceToNat] at ho5; rw [← aZ.out] at ho5)); have bc := rx_ ho5 HB; replace HB := bs_ HB hb; clear hb ho5))
   go_loopg [4] k (fun kq v4 w' => ∃ (ar : List Int) (ah : Int), v4 = .int .i64 ah ∧ Aside0 (laws_toIntS.l0 kq l0 ar ah = some r) ∧ Aside0 (kq ≤ k) ∧ Aside0 (Kd.R (Kd.int .i64) 3 w' w.heap.size (fun _ => True) bQ ar) ∧ Aside0 (Below w.heap.size w w'))
   case atStart => exact ⟨(bb), (0), tx_, H', ⟨Nat.le_refl _⟩, ⟨rR_ bc.out⟩, ⟨(tb_ HB.out)⟩⟩
   case round =>
    clear H'; (try clear c2); (try clear aw); (try clear bO); (try clear p2); (try clear c3); (try clear aL); (try clear bP); obtain ⟨ar, ah, rfl, HA, HK1, az, HB⟩ := hrel
    cases gk with
    | zero => exact absurd HA.out (by simp [laws_toIntS.l0])
    | succ k1 =>
     have H := HA.out; clear HA; simp only [laws_toIntS.l0] at H; by_cases c6 : ah < (l0.length : Int)
     ·
      rw [if_pos c6] at H; have aA : decide (ah < (l0.length : Int)) = true := decide_eq_true c6; clear c6; by_cases c7 : 0 ≤ ah
      ·
       rw [if_pos c7] at H; have a4 : decide (0 ≤ ah) = true := decide_eq_true c7; clear c7; by_cases c8 : ah < (ar.length : Int)
       ·
        rw [if_pos c8] at H; have bR : decide (ah < (ar.length : Int)) = true := decide_eq_true c8; clear c8; obtain ⟨a5, aN⟩ : ∃ y_ : List Int, y_ = (ar.set (ah : Int).toNat (rd l0 ah)) := ⟨_, rfl⟩
        replace H : (laws_toIntS.l0 k1 l0 a5 (wrap64 (ah + 1))) = some r := yq_ aN H; have bd := A_ aN; clear aN; have H' := A_ H; clear H; have p198 : 0 ≤ (ah : Int) := od_; have q198 : ah < (l0.length : Int) := od_; obtain ⟨ad198, e198, ap⟩ := Kd.at_int HR0.out ah p198 q198; cases e198; replace ap := (HB.out.cell (World.block_lt_of_cell? w _ ap)).trans ap; replace p198 := eq_true p198; replace q198 := eq_true q198; have p9 : 0 ≤ (ah : Int) := od_; have q9 : (ah : Int) < ((ar.length : Int) : Int) := od_; obtain ⟨go9, co9, be, bf, gl9, cl9, HG9⟩ := Kd.R_form az.out (by omega); (first | cases be | (injection be with ea_ en_ ec_; (first | subst ea_ | (injection ea_ with ea_; subst ea_)); subst ec_; clear en_)); have GB9 := A_ bf; have GG9 := A_ HG9; clear bf gl9 HG9; obtain ⟨bg, hf9_0⟩ := Kd.R_celln 0 az.out (ah : Int) p9 q9; replace p9 := eq_true p9; replace q9 := eq_true q9; have HP10 := Kd.R_putg az.out (ah : Int) (rd l0 ah); go_wp2_with (first | ((with_reducible refine gate_store (t := 3) (p := 20) rfl ?_); refine store_event (t := 3) (p := 20) (v := ?vo_w11) (w1 := (wr.setCell ⟨go9, (ah : Int).toNat, none⟩ (.int .i64 (rd l0 ah)))) ?hg ?ho ?hn ?hr ?_; (case ho => rfl); (case hg => rfl); (case hn => rfl); (case hr => first | (go_simp; done) | (go_simp; rfl)); intro bS hw; have hg : wr.grownBy bS (some go9) := (by rw [hw]; exact HP10.2); have hp_ : Kd.R (Kd.int .i64) 3 bS w.heap.size (fun _ => True) (.slice (some ⟨go9, 0, none⟩) ar.length co9) a5 := (by rw [hw, bd.out]; exact HP10.1); clear HP10; replace az := A_ (hp_); replace HB := A_ ((by rw [hw]; exact below_set (HB.out) GB9.out : Below w.heap.size w bS)); clear hg hw hp_))
        go_roundg k1
        case measure => have := HK1.out; omega
        case rel => exact ⟨(a5), (wrap64 (ah + 1)), tx_, H', ⟨by have := HK1.out; omega⟩, ⟨rR_ az.out⟩, ⟨(tb_ HB.out)⟩⟩
       ·
        rw [if_neg c8] at H; exact absurd H (by simp)
      ·
       rw [if_neg c7] at H; exact absurd H (by simp)
     ·
      rw [if_neg c6] at H; have aA : decide (ah < (l0.length : Int)) = false := decide_eq_false c6; clear c6; obtain rfl := Option.some.inj H; go_wp2; go_ret; exact ⟨_, tw_, by refine qR_ ?_; exact az.out, (tb_ HB.out)⟩
  ·
   rw [if_neg c3] at H; exact absurd H (by simp)
 ·
  rw [if_neg c2] at H; exact absurd H (by simp)

/-! ### laws_toPlace: function 7 -/
def laws_toPlace.f (k : Nat) (aj : List Int) (a0_1 : Int) (ak : List Int) : Option (List Int × Int × List Int) := (laws_toIntS.f k aj).bind fun al => ((laws_toIntS.f k ak).bind fun ao => (some (al, a0_1, ao)))
theorem laws_toPlace.mono : ∀ a0 a1 a2 k, LeO (laws_toPlace.f k a0 a1 a2) (laws_toPlace.f (k + 1) a0 a1 a2) := by
 intro a0 a1 a2 k; unfold laws_toPlace.f; repeat' (with_reducible first | exact laws_toIntS.mono _ _ | exact mr_ | exact mn_ | refine mi_ ?_ ?_ | refine mb_ ?_ (fun _ => ?_))
set_option maxHeartbeats 8000000 in
set_option maxRecDepth 100000 in
theorem laws_toPlace.calls (k : Nat) (aR : Option Addr) (aU : Nat) (aj : List Int) (a0_1 : Int) (aV : Option Addr) (aW : Nat) (ak : List Int) (r1 : List Int) (r2 : Int) (r3 : List Int) (w : World) (hr0_0 : Kd.C (Kd.int .i64) w aR aj.length aj) (hc0_0 : aj.length ≤ aU) (hr0_2 : Kd.C (Kd.int .i64) w aV ak.length ak) (hc0_2 : ak.length ≤ aW) (h : laws_toPlace.f k aj a0_1 ak = some (r1, r2, r3)) :
  Calls Try.prog 7 #[.agg #[.slice aR aj.length aU, .int .i64 a0_1, .slice aV ak.length aW]] w fun e w' => ∃ v0_ v2_ : Value, e = .returned (.agg #[v0_, .int .i64 r2, v2_]) ∧ Kd.R (Kd.int .i64) 3 w' w.heap.size (fun k_ => some k_ ≠ (v2_ : Value).ownBlock) v0_ r1 ∧ Kd.R (Kd.int .i64) 3 w' w.heap.size (fun k_ => some k_ ≠ (v0_ : Value).ownBlock) v2_ r3 ∧ Below w.heap.size w w' := by
 have hu24 := Try.underlying24; have hu26 := Try.underlying26; have b7 := A_ hr0_0; have bh := A_ hc0_0; clear hr0_0 hc0_0; have bi := A_ hr0_2; have bj := A_ hc0_2; clear hr0_2 hc0_2; have HB := A_ (Below.refl w.heap.size w); have H : ((laws_toIntS.f k aj).bind fun al => ((laws_toIntS.f k ak).bind fun ao => (some (al, a0_1, ao)))) = some (r1, r2, r3) := h; clear h; obtain ⟨al, A2, H⟩ := bnd_ H; (try dsimp only at H); obtain ⟨ao, A3, H⟩ := bnd_ H; (try dsimp only at H); simp only [Option.some.injEq, Prod.mk.injEq] at H; obtain ⟨rfl, rfl, rfl⟩ := H; go_enter Try.func7, Try.ntmps7; go_wp2_with (first | ((with_reducible refine gate_dst (N := 1) rfl ?_); refine be_ 1 #[.slice aR aj.length aU, .int .i64 a0_1, .slice aV ak.length aW] 24 ?_; intro b8 hg w4 ac hb; have b9 := gx_ HB hg; have ca := gx_ HB hg; replace HB := bs_ HB hb; clear hb hg) | ((with_reducible refine gate_dst (N := 2) rfl ?_); refine be_ 2 #[.slice none 0 0, .int .i64 0, .slice none 0 0] 26 ?_; intro am hg w5 af hb; have cb := gx_ HB hg; have cc := gx_ HB hg; replace HB := bs_ HB hb; have aB := nl_ ac hg; have aC := ng_ ac hg; replace ac := bb_ ac hb; clear hb hg) | ((with_reducible refine gate_dst (N := 3) rfl ?_); refine be_ 3 #[.slice none 0 0, .int .i64 0, .slice none 0 0] 26 ?_; intro an hg w6 ae hb; have cd := gx_ HB hg; have ce := gx_ HB hg; replace HB := bs_ HB hb; have aD := nl_ ac hg; have aE := ng_ ac hg; replace ac := bb_ ac hb; have aF := nl_ af hg; have aG := ng_ af hg; replace af := bb_ af hb; clear hb hg; have ch := aB.out; have ci := aC.out; have cj := aD.out; have ck := aE.out; obtain ⟨bU, bV, bW, bX, bZ, b0⟩ := cf3_ ac) | ((with_reducible refine gate_callee (f := 21) rfl ?_); refine gl_ (some 6) Try.func21 #[.slice aR aj.length aU] ?_; (with_reducible refine (laws_toIntS.calls k _ _ aj al _ ?s1 ?s2 A2.out).mono ?_); (case s1 => exact tD_); (case s2 => exact bh.out); rintro e cp ⟨cl, rfl, ho0, hb⟩; refine ⟨_, rfl, ?_⟩; have au := rx_ ho0 HB; replace ac := bb_ ac hb; replace af := bb_ af hb; replace ae := bb_ ae hb; replace HB := bs_ HB hb; (try clear hb ho0); obtain ⟨aH, aI, b1⟩ := Kd.R_slice au.out; subst b1; have cf := aG.out; have cg := aF.out; obtain ⟨bn, bo, bp, bq, br, bs⟩ := cf3_ ae; obtain ⟨bu, bv, bw, bx, bz, bB⟩ := cf3_ ac) | ((with_reducible refine gate_callee (f := 21) rfl ?_); refine gl_ (some 13) Try.func21 #[.slice aV ak.length aW] ?_; (with_reducible refine (laws_toIntS.calls k _ _ ak ao _ ?s1 ?s2 A3.out).mono ?_); (case s1 => exact Kd.C_below bi.out (tb_ HB.out)); (case s2 => exact bj.out); rintro e cq ⟨cm, rfl, ho0, hb⟩; refine ⟨_, rfl, ?_⟩; have a3 := rx_ (nR_ ho0 (lR_ au)) HB; replace au := A_ (Kd.R_elder' (wR_ au ae) (Kd.R_base ho0) hb); replace ac := bb_ ac hb; replace af := bb_ af hb; replace ae := bp_ #[.slice aH al.length aI, .int .i64 a0_1, .slice none 0 0] ae hb; replace HB := bs_ HB hb; (try clear hb ho0); obtain ⟨aO, aP, b2⟩ := Kd.R_slice a3.out; subst b2; obtain ⟨bC, bD, bE, bF, bG, bH⟩ := cf3_ ae; obtain ⟨bI, bJ, bK, bL, bM, bN⟩ := cf3_ af)); refine bodyPost_ret (results_cell_row rfl _ _ am 26 #[.slice aH al.length aI, .int .i64 a0_1, .slice aO ao.length aP] (0, 0) _ rfl (ps_ af.out) Try.underlying26 rfl (by kernel_rfl)) rfl ?_; exact ⟨_, _, tw_, Kd.R_mono (zR_ au ae af) (fun _ hk => hk.1.1.2), Kd.R_mono (zR_ a3 ae af) (fun _ hk => hk.1.1.2), (tb_ HB.out)⟩

/-! ### impl_coloursOk: function 48 -/
def impl_coloursOk.f (a0 : Int) : Option (Bool) := if a0 ≥ 1 then (some (decide (a0 ≤ 3))) else (some false)
set_option maxHeartbeats 8000000 in
set_option maxRecDepth 100000 in
theorem impl_coloursOk.calls (a0 : Int) (r : Bool) (w : World) (h : impl_coloursOk.f a0 = some r) :
  Calls Try.prog 48 #[.int .i64 a0] w fun e w' => e = .returned (.bool r) ∧ Drawn0 w w' := by
 have H : (if a0 ≥ 1 then (some (decide (a0 ≤ 3))) else (some false)) = some r := h; clear h; by_cases c2 : a0 ≥ 1
 ·
  rw [if_pos c2] at H; have aw : decide (1 ≤ a0) = true := decide_eq_true c2; clear c2; obtain rfl := Option.some.inj H; go_enter Try.func48, Try.ntmps48; go_wp2; go_ret; exact ⟨tx_, by repeat (first | exact Drawn0.refl _ | apply Drawn0.step)⟩
 ·
  rw [if_neg c2] at H; have aw : decide (1 ≤ a0) = false := decide_eq_false c2; clear c2; obtain rfl := Option.some.inj H; go_enter Try.func48, Try.ntmps48; go_wp2; go_ret; exact ⟨tx_, by repeat (first | exact Drawn0.refl _ | apply Drawn0.step)⟩

/-! ### impl_UrnOk: function 32 -/
def impl_UrnOk.l0 : Nat → List Int → List Int → Int → Int → Option (Bool)
 | 0, _, _, _, _ => none
 | k + 1, x0, x5, x6, x7 => if x7 < x6 then (if 0 ≤ x7 then (if x7 < (x5.length : Int) then (if (rd x5 x7) < 0 then (some false) else (if (rd x5 x7) > 40 then (some false) else (impl_UrnOk.l0 k x0 x5 x6 (wrap64 (x7 + 1))))) else (none)) else (none)) else ((impl_coloursOk.f (x0.length : Int)).bind fun a6 => (some a6))
def impl_UrnOk.f (k : Nat) (l0 : List Int) : Option (Bool) := impl_UrnOk.l0 k l0 l0 (l0.length : Int) 0
theorem impl_UrnOk.mono_l : ∀ k, (∀ y0 y1 y2 y3, LeO (impl_UrnOk.l0 k y0 y1 y2 y3) (impl_UrnOk.l0 (k + 1) y0 y1 y2 y3))
 | 0 => fun _ _ _ _ r h => by simp [impl_UrnOk.l0] at h
 | k + 1 => by
  have ih0 := impl_UrnOk.mono_l k
  ·
   intro y0 y1 y2 y3
   unfold impl_UrnOk.l0
   repeat' (with_reducible first | exact ih0 _ _ _ _ | exact mr_ | exact mn_ | refine mi_ ?_ ?_ | refine mb_ ?_ (fun _ => ?_))
theorem impl_UrnOk.mono : ∀ a0 k, LeO (impl_UrnOk.f k a0) (impl_UrnOk.f (k + 1) a0) := by
 intro a0 k; have ih0 := impl_UrnOk.mono_l k; unfold impl_UrnOk.f; repeat' (with_reducible first | exact ih0 _ _ _ _ | exact mr_ | exact mn_ | refine mi_ ?_ ?_ | refine mb_ ?_ (fun _ => ?_))
set_option maxHeartbeats 8000000 in
set_option maxRecDepth 100000 in
theorem impl_UrnOk.calls (k : Nat) (A0 : Option Addr) (c0 : Nat) (l0 : List Int) (r : Bool) (w : World) (hr0 : Kd.C (Kd.int .i64) w A0 l0.length l0) (hc0 : l0.length ≤ c0) (h : impl_UrnOk.f k l0 = some r) :
  Calls Try.prog 32 #[.slice A0 l0.length c0] w fun e w' => e = .returned (.bool r) ∧ Drawn0 w w' := by
 have HR0 := A_ hr0; have HC0 := A_ hc0; clear hr0 hc0; have H : (impl_UrnOk.l0 k l0 l0 (l0.length : Int) 0) = some r := h; clear h; have H' := A_ H; clear H; go_enter Try.func32, Try.ntmps32; go_wp2
 go_loopg [7] k (fun kq v7 w' => ∃ (ab : Int), v7 = .int .i64 ab ∧ Aside0 (impl_UrnOk.l0 kq l0 l0 (l0.length : Int) ab = some r) ∧ Aside0 (kq ≤ k) ∧ Drawn0 w w')
 case atStart => exact ⟨(0), tx_, H', ⟨Nat.le_refl _⟩, by repeat (first | exact Drawn0.refl _ | apply Drawn0.step)⟩
 case round =>
  clear H'; obtain ⟨ab, rfl, HA, HK1, ⟨m1, rfl⟩⟩ := hrel
  cases gk with
  | zero => exact absurd HA.out (by simp [impl_UrnOk.l0])
  | succ k1 =>
   have H := HA.out; clear HA; simp only [impl_UrnOk.l0] at H; by_cases c2 : ab < (l0.length : Int)
   ·
    rw [if_pos c2] at H; have aw : decide (ab < (l0.length : Int)) = true := decide_eq_true c2; clear c2; by_cases c3 : 0 ≤ ab
    ·
     rw [if_pos c3] at H; have aL : decide (0 ≤ ab) = true := decide_eq_true c3; clear c3; by_cases c4 : ab < (l0.length : Int)
     ·
      rw [if_pos c4] at H; have bk : decide (ab < (l0.length : Int)) = true := decide_eq_true c4; clear c4; by_cases c5 : (rd l0 ab) < 0
      ·
       rw [if_pos c5] at H; have aJ : decide ((rd l0 ab) < 0) = true := decide_eq_true c5; clear c5; obtain rfl := Option.some.inj H; have p209 : 0 ≤ (ab : Int) := od_; have q209 : ab < (l0.length : Int) := od_; obtain ⟨ad209, e209, ax⟩ := Kd.at_int HR0.out ab p209 q209; cases e209; replace p209 := eq_true p209; replace q209 := eq_true q209; go_wp2; go_ret; exact ⟨tx_, by repeat (first | exact Drawn0.refl _ | apply Drawn0.step)⟩
      ·
       rw [if_neg c5] at H; have aJ : decide ((rd l0 ab) < 0) = false := decide_eq_false c5; clear c5; by_cases c6 : (rd l0 ab) > 40
       ·
        rw [if_pos c6] at H; have aA : decide (40 < (rd l0 ab)) = true := decide_eq_true c6; clear c6; obtain rfl := Option.some.inj H; have p209 : 0 ≤ (ab : Int) := od_; have q209 : ab < (l0.length : Int) := od_; obtain ⟨ad209, e209, ax⟩ := Kd.at_int HR0.out ab p209 q209; cases e209; replace p209 := eq_true p209; replace q209 := eq_true q209; go_wp2; go_ret; exact ⟨tx_, by repeat (first | exact Drawn0.refl _ | apply Drawn0.step)⟩
       ·
        rw [if_neg c6] at H; have aA : decide (40 < (rd l0 ab)) = false := decide_eq_false c6; clear c6; have H' := A_ H; clear H; have p209 : 0 ≤ (ab : Int) := od_; have q209 : ab < (l0.length : Int) := od_; obtain ⟨ad209, e209, ax⟩ := Kd.at_int HR0.out ab p209 q209; cases e209; replace p209 := eq_true p209; replace q209 := eq_true q209; go_wp2
        go_roundg k1
        case measure => have := HK1.out; omega
        case rel => exact ⟨(wrap64 (ab + 1)), tx_, H', ⟨by have := HK1.out; omega⟩, by repeat (first | exact Drawn0.refl _ | apply Drawn0.step)⟩
     ·
      rw [if_neg c4] at H; exact absurd H (by simp)
    ·
     rw [if_neg c3] at H; exact absurd H (by simp)
   ·
    rw [if_neg c2] at H; have aw : decide (ab < (l0.length : Int)) = false := decide_eq_false c2; clear c2; obtain ⟨a6, A7, H⟩ := bnd_ H; (try dsimp only at H); obtain rfl := Option.some.inj H; go_wp2_with (first | ((with_reducible refine gate_callee (f := 48) rfl ?_); refine gl_ (some 20) Try.func48 #[.int .i64 (l0.length : Int)] ?_; (with_reducible refine (impl_coloursOk.calls (l0.length : Int) a6 _ A7.out).mono ?_); rintro e w' ⟨rfl, ⟨nd, rfl⟩⟩; refine ⟨_, rfl, ?_⟩)); go_ret; exact ⟨tx_, by repeat (first | exact Drawn0.refl _ | apply Drawn0.step)⟩

/-! ### impl_StartOk: function 37 -/
def impl_StartOk.l0 : Nat → List Int → List Int → Int → Int → Option (Bool)
 | 0, _, _, _, _ => none
 | k + 1, x0, x5, x6, x7 => if x7 < x6 then (if 0 ≤ x7 then (if x7 < (x5.length : Int) then (if (rd x5 x7) > 10 then (some false) else (impl_StartOk.l0 k x0 x5 x6 (wrap64 (x7 + 1)))) else (none)) else (none)) else ((impl_UrnOk.f k x0).bind fun a7 => (some a7))
def impl_StartOk.f (k : Nat) (l0 : List Int) : Option (Bool) := impl_StartOk.l0 k l0 l0 (l0.length : Int) 0
theorem impl_StartOk.mono_l : ∀ k, (∀ y0 y1 y2 y3, LeO (impl_StartOk.l0 k y0 y1 y2 y3) (impl_StartOk.l0 (k + 1) y0 y1 y2 y3))
 | 0 => fun _ _ _ _ r h => by simp [impl_StartOk.l0] at h
 | k + 1 => by
  have ih0 := impl_StartOk.mono_l k
  ·
   intro y0 y1 y2 y3
   unfold impl_StartOk.l0
   repeat' (with_reducible first | exact ih0 _ _ _ _ | exact impl_UrnOk.mono _ _ | exact mr_ | exact mn_ | refine mi_ ?_ ?_ | refine mb_ ?_ (fun _ => ?_))
theorem impl_StartOk.mono : ∀ a0 k, LeO (impl_StartOk.f k a0) (impl_StartOk.f (k + 1) a0) := by
 intro a0 k; have ih0 := impl_StartOk.mono_l k; unfold impl_StartOk.f; repeat' (with_reducible first | exact ih0 _ _ _ _ | exact impl_UrnOk.mono _ _ | exact mr_ | exact mn_ | refine mi_ ?_ ?_ | refine mb_ ?_ (fun _ => ?_))
set_option maxHeartbeats 8000000 in
set_option maxRecDepth 100000 in
theorem impl_StartOk.calls (k : Nat) (A0 : Option Addr) (c0 : Nat) (l0 : List Int) (r : Bool) (w : World) (hr0 : Kd.C (Kd.int .i64) w A0 l0.length l0) (hc0 : l0.length ≤ c0) (h : impl_StartOk.f k l0 = some r) :
  Calls Try.prog 37 #[.slice A0 l0.length c0] w fun e w' => e = .returned (.bool r) ∧ Drawn0 w w' := by
 have HR0 := A_ hr0; have HC0 := A_ hc0; clear hr0 hc0; have H : (impl_StartOk.l0 k l0 l0 (l0.length : Int) 0) = some r := h; clear h; have H' := A_ H; clear H; go_enter Try.func37, Try.ntmps37; go_wp2
 go_loopg [7] k (fun kq v7 w' => ∃ (ab : Int), v7 = .int .i64 ab ∧ Aside0 (impl_StartOk.l0 kq l0 l0 (l0.length : Int) ab = some r) ∧ Aside0 (kq ≤ k) ∧ Drawn0 w w')
 case atStart => exact ⟨(0), tx_, H', ⟨Nat.le_refl _⟩, by repeat (first | exact Drawn0.refl _ | apply Drawn0.step)⟩
 case round =>
  clear H'; obtain ⟨ab, rfl, HA, HK1, ⟨m1, rfl⟩⟩ := hrel
  cases gk with
  | zero => exact absurd HA.out (by simp [impl_StartOk.l0])
  | succ k1 =>
   have H := HA.out; clear HA; simp only [impl_StartOk.l0] at H; by_cases c2 : ab < (l0.length : Int)
   ·
    rw [if_pos c2] at H; have aw : decide (ab < (l0.length : Int)) = true := decide_eq_true c2; clear c2; by_cases c3 : 0 ≤ ab
    ·
     rw [if_pos c3] at H; have aL : decide (0 ≤ ab) = true := decide_eq_true c3; clear c3; by_cases c4 : ab < (l0.length : Int)
     ·
      rw [if_pos c4] at H; have bk : decide (ab < (l0.length : Int)) = true := decide_eq_true c4; clear c4; by_cases c5 : (rd l0 ab) > 10
      ·
       rw [if_pos c5] at H; have aJ : decide (10 < (rd l0 ab)) = true := decide_eq_true c5; clear c5; obtain rfl := Option.some.inj H; have p211 : 0 ≤ (ab : Int) := od_; have q211 : ab < (l0.length : Int) := od_; obtain ⟨ad211, e211, aX⟩ := Kd.at_int HR0.out ab p211 q211; cases e211; replace p211 := eq_true p211; replace q211 := eq_true q211; go_wp2; go_ret; exact ⟨tx_, by repeat (first | exact Drawn0.refl _ | apply Drawn0.step)⟩
      ·
       rw [if_neg c5] at H; have aJ : decide (10 < (rd l0 ab)) = false := decide_eq_false c5; clear c5; have H' := A_ H; clear H; have p211 : 0 ≤ (ab : Int) := od_; have q211 : ab < (l0.length : Int) := od_; obtain ⟨ad211, e211, aX⟩ := Kd.at_int HR0.out ab p211 q211; cases e211; replace p211 := eq_true p211; replace q211 := eq_true q211; go_wp2
       go_roundg k1
       case measure => have := HK1.out; omega
       case rel => exact ⟨(wrap64 (ab + 1)), tx_, H', ⟨by have := HK1.out; omega⟩, by repeat (first | exact Drawn0.refl _ | apply Drawn0.step)⟩
     ·
      rw [if_neg c4] at H; exact absurd H (by simp)
    ·
     rw [if_neg c3] at H; exact absurd H (by simp)
   ·
    rw [if_neg c2] at H; have aw : decide (ab < (l0.length : Int)) = false := decide_eq_false c2; clear c2; obtain ⟨a7, A6, H⟩ := bnd_ H; (try dsimp only at H); obtain rfl := Option.some.inj H; go_wp2_with (first | ((with_reducible refine gate_callee (f := 32) rfl ?_); refine gl_ (some 15) Try.func32 #[.slice A0 l0.length c0] ?_; (with_reducible refine (impl_UrnOk.calls k1 _ _ l0 a7 _ ?s1 ?s2 A6.out).mono ?_); (case s1 => exact td_); (case s2 => exact HC0.out); rintro e w' ⟨rfl, ⟨nd, rfl⟩⟩; refine ⟨_, rfl, ?_⟩)); go_ret; exact ⟨tx_, by repeat (first | exact Drawn0.refl _ | apply Drawn0.step)⟩

/-! ### impl_WordOk: function 38 -/
def impl_WordOk.l0 : Nat → Int → List Int → List Int → Int → Int → Option (Bool)
 | 0, _, _, _, _, _ => none
 | k + 1, x0, x1, x7, x8, x9 => if x9 < x8 then (if 0 ≤ x9 then (if x9 < (x7.length : Int) then (if (rd x7 x9) < 0 then (some false) else (if (rd x7 x9) ≥ x0 then (some false) else (impl_WordOk.l0 k x0 x1 x7 x8 (wrap64 (x9 + 1))))) else (none)) else (none)) else ((impl_coloursOk.f x0).bind fun a8 => (if a8 = true then (some (decide ((x1.length : Int) ≤ 6))) else (some false)))
def impl_WordOk.f (k : Nat) (a0 : Int) (l1 : List Int) : Option (Bool) := impl_WordOk.l0 k a0 l1 l1 (l1.length : Int) 0
theorem impl_WordOk.mono_l : ∀ k, (∀ y0 y1 y2 y3 y4, LeO (impl_WordOk.l0 k y0 y1 y2 y3 y4) (impl_WordOk.l0 (k + 1) y0 y1 y2 y3 y4))
 | 0 => fun _ _ _ _ _ r h => by simp [impl_WordOk.l0] at h
 | k + 1 => by
  have ih0 := impl_WordOk.mono_l k
  ·
   intro y0 y1 y2 y3 y4
   unfold impl_WordOk.l0
   repeat' (with_reducible first | exact ih0 _ _ _ _ _ | exact mr_ | exact mn_ | refine mi_ ?_ ?_ | refine mb_ ?_ (fun _ => ?_))
theorem impl_WordOk.mono : ∀ a0 a1 k, LeO (impl_WordOk.f k a0 a1) (impl_WordOk.f (k + 1) a0 a1) := by
 intro a0 a1 k; have ih0 := impl_WordOk.mono_l k; unfold impl_WordOk.f; repeat' (with_reducible first | exact ih0 _ _ _ _ _ | exact mr_ | exact mn_ | refine mi_ ?_ ?_ | refine mb_ ?_ (fun _ => ?_))
set_option maxHeartbeats 8000000 in
set_option maxRecDepth 100000 in
theorem impl_WordOk.calls (k : Nat) (a0 : Int) (A1 : Option Addr) (c1 : Nat) (l1 : List Int) (r : Bool) (w : World) (hr1 : Kd.C (Kd.int .i64) w A1 l1.length l1) (hc1 : l1.length ≤ c1) (h : impl_WordOk.f k a0 l1 = some r) :
  Calls Try.prog 38 #[.int .i64 a0, .slice A1 l1.length c1] w fun e w' => e = .returned (.bool r) ∧ Drawn0 w w' := by
 have HR1 := A_ hr1; have HC1 := A_ hc1; clear hr1 hc1; have H : (impl_WordOk.l0 k a0 l1 l1 (l1.length : Int) 0) = some r := h; clear h; have H' := A_ H; clear H; go_enter Try.func38, Try.ntmps38; go_wp2
 go_loopg [9] k (fun kq v9 w' => ∃ (ag : Int), v9 = .int .i64 ag ∧ Aside0 (impl_WordOk.l0 kq a0 l1 l1 (l1.length : Int) ag = some r) ∧ Aside0 (kq ≤ k) ∧ Drawn0 w w')
 case atStart => exact ⟨(0), tx_, H', ⟨Nat.le_refl _⟩, by repeat (first | exact Drawn0.refl _ | apply Drawn0.step)⟩
 case round =>
  clear H'; (try clear c1); (try clear p2); obtain ⟨ag, rfl, HA, HK1, ⟨m1, rfl⟩⟩ := hrel
  cases gk with
  | zero => exact absurd HA.out (by simp [impl_WordOk.l0])
  | succ k1 =>
   have H := HA.out; clear HA; simp only [impl_WordOk.l0] at H; by_cases c3 : ag < (l1.length : Int)
   ·
    rw [if_pos c3] at H; have aL : decide (ag < (l1.length : Int)) = true := decide_eq_true c3; clear c3; by_cases c4 : 0 ≤ ag
    ·
     rw [if_pos c4] at H; have bk : decide (0 ≤ ag) = true := decide_eq_true c4; clear c4; by_cases c5 : ag < (l1.length : Int)
     ·
      rw [if_pos c5] at H; have aJ : decide (ag < (l1.length : Int)) = true := decide_eq_true c5; clear c5; by_cases c6 : (rd l1 ag) < 0
      ·
       rw [if_pos c6] at H; have aA : decide ((rd l1 ag) < 0) = true := decide_eq_true c6; clear c6; obtain rfl := Option.some.inj H; have p213 : 0 ≤ (ag : Int) := od_; have q213 : ag < (l1.length : Int) := od_; obtain ⟨ad213, e213, ay⟩ := Kd.at_int HR1.out ag p213 q213; cases e213; replace p213 := eq_true p213; replace q213 := eq_true q213; go_wp2; go_ret; exact ⟨tx_, by repeat (first | exact Drawn0.refl _ | apply Drawn0.step)⟩
      ·
       rw [if_neg c6] at H; have aA : decide ((rd l1 ag) < 0) = false := decide_eq_false c6; clear c6; by_cases c7 : (rd l1 ag) ≥ a0
       ·
        rw [if_pos c7] at H; have a4 : decide (a0 ≤ (rd l1 ag)) = true := decide_eq_true c7; clear c7; obtain rfl := Option.some.inj H; have p213 : 0 ≤ (ag : Int) := od_; have q213 : ag < (l1.length : Int) := od_; obtain ⟨ad213, e213, ay⟩ := Kd.at_int HR1.out ag p213 q213; cases e213; replace p213 := eq_true p213; replace q213 := eq_true q213; go_wp2; go_ret; exact ⟨tx_, by repeat (first | exact Drawn0.refl _ | apply Drawn0.step)⟩
       ·
        rw [if_neg c7] at H; have a4 : decide (a0 ≤ (rd l1 ag)) = false := decide_eq_false c7; clear c7; have H' := A_ H; clear H; have p213 : 0 ≤ (ag : Int) := od_; have q213 : ag < (l1.length : Int) := od_; obtain ⟨ad213, e213, ay⟩ := Kd.at_int HR1.out ag p213 q213; cases e213; replace p213 := eq_true p213; replace q213 := eq_true q213; go_wp2
        go_roundg k1
        case measure => have := HK1.out; omega
        case rel => exact ⟨(wrap64 (ag + 1)), tx_, H', ⟨by have := HK1.out; omega⟩, by repeat (first | exact Drawn0.refl _ | apply Drawn0.step)⟩
     ·
      rw [if_neg c5] at H; exact absurd H (by simp)
    ·
     rw [if_neg c4] at H; exact absurd H (by simp)
   ·
    rw [if_neg c3] at H; have aL : decide (ag < (l1.length : Int)) = false := decide_eq_false c3; clear c3; obtain ⟨a8, A8, H⟩ := bnd_ H; (try dsimp only at H); by_cases c9 : a8 = true
    ·
     subst c9; replace H : (some (decide ((l1.length : Int) ≤ 6))) = some r := by rw [if_pos rfl] at H; exact H
     obtain rfl := Option.some.inj H; go_wp2_with (first | ((with_reducible refine gate_callee (f := 48) rfl ?_); refine gl_ (some 22) Try.func48 #[.int .i64 a0] ?_; (with_reducible refine (impl_coloursOk.calls a0 true _ A8.out).mono ?_); rintro e w' ⟨rfl, ⟨nd, rfl⟩⟩; refine ⟨_, rfl, ?_⟩)); go_ret; exact ⟨tx_, by repeat (first | exact Drawn0.refl _ | apply Drawn0.step)⟩
    ·
     replace c9 := Bool.eq_false_iff.mpr c9; subst c9; replace H : (some false) = some r := by rw [if_neg (show ¬ (false = true) by decide)] at H; exact H
     obtain rfl := Option.some.inj H; go_wp2_with (first | ((with_reducible refine gate_callee (f := 48) rfl ?_); refine gl_ (some 22) Try.func48 #[.int .i64 a0] ?_; (with_reducible refine (impl_coloursOk.calls a0 false _ A8.out).mono ?_); rintro e w' ⟨rfl, ⟨nd, rfl⟩⟩; refine ⟨_, rfl, ?_⟩)); go_ret; exact ⟨tx_, by repeat (first | exact Drawn0.refl _ | apply Drawn0.step)⟩

/-! ### slices_Clone_int_int: function 41 -/
def slices_Clone_int_int.f (l0 : List Int) : Option (List Int) := if l0.length * 8 ≤ 140737488355328 then some l0 else none
theorem slices_Clone_int_int.calls (A0 : Option Addr) (c0 : Nat) (l0 : List Int) (r : List Int) (w : World) (hr0 : Kd.C (Kd.int .i64) w A0 l0.length l0) (hc0 : l0.length ≤ c0) (h : slices_Clone_int_int.f l0 = some r) :
  Calls Try.prog 41 #[.slice A0 l0.length c0] w fun e w' => ∃ v0_ : Value, e = .returned (v0_) ∧ Kd.R (Kd.int .i64) 3 w' w.heap.size (fun _ => True) v0_ r ∧ Below w.heap.size w w' := by
 unfold slices_Clone_int_int.f at h; by_cases hl : l0.length * 8 ≤ 140737488355328
 ·
  rw [if_pos hl] at h; obtain rfl := Option.some.inj h; rcases Nat.eq_zero_or_pos l0.length with h0 | h0
  ·
   obtain rfl : l0 = [] := List.eq_nil_of_length_eq_zero h0
   cases A0 with
   | none => exact (Sh.Try.slices_Clone_int_nil 0 c0 w).mono fun e w' ⟨he, hw⟩ => ⟨.slice none 0 0, he, Kd.R_nil _ _ _ _ _, hw ▸ Below.refl _ _⟩
   | some ad => exact (Sh.Try.slices_Clone_int_zero ad c0 w).mono fun e w' ⟨v, he, ho, _, hb⟩ => ⟨v, he, Kd.R_of_own (xs := []) ho (fun _ _ => trivial), hb⟩
  ·
   obtain ⟨ad, rfl, hc⟩ := hr0.2.2 h0
   have hcell : ∀ j, j < l0.length → w.cell? (ad.add j) = some (.int .i64 (l0.getD j 0)) := by
    intro j hj; obtain ⟨c, hc1, hc2, hc3⟩ := hc j _ (List.getElem?_eq_getElem hj); have e1 : c = [.int .i64 l0[j]] := hc2; have := hc3 0 _ (by rw [e1]; rfl); rw [List.getD_eq_getElem?_getD, List.getElem?_eq_getElem hj]; simpa [Kd.int, Kd.scalar] using this
   have hs := hcell 0 h0
   have hsp : ad.spot = none := by
    cases hq : ad.spot with
    | none => rfl
    | some q => simp [World.cell?, Addr.add, hq] at hs; split at hs <;> simp at hs
   obtain ⟨b, o, sp⟩ := ad; simp only at hsp; subst hsp; refine (Sh.Try.slices_Clone_int b o l0.length c0 l0 w (Nat.le_refl _) hl (fun j hj => by have := hcell j hj; unfold Addr.add at this; split at this <;> simp_all)).mono fun e w' ⟨v, he, ho, _, hb⟩ => ⟨v, he, Kd.R_of_own (by rw [List.take_length] at ho; exact ho) (fun _ _ => trivial), hb⟩
 ·
  rw [if_neg hl] at h; exact absurd h (by simp)

/-! ### impl_added: function 58 -/
def impl_added.l0 : Nat → List Int → List Int → Int → Int → Option (List Int)
 | 0, _, _, _, _ => none
 | k + 1, x5, x10, x11, x12 => if x12 < x11 then (if 0 ≤ x12 then (if x12 < (x10.length : Int) then (if x12 < (x5.length : Int) then (impl_added.l0 k (x5.set (x12 : Int).toNat (wrap64 ((rd x5 x12) + (rd x10 x12)))) x10 x11 (wrap64 (x12 + 1))) else (none)) else (none)) else (none)) else (some x5)
def impl_added.f (k : Nat) (l0 : List Int) (l1 : List Int) : Option (List Int) := (slices_Clone_int_int.f l0).bind fun aK => (impl_added.l0 k aK l1 (l1.length : Int) 0)
theorem impl_added.mono_l : ∀ k, (∀ y0 y1 y2 y3, LeO (impl_added.l0 k y0 y1 y2 y3) (impl_added.l0 (k + 1) y0 y1 y2 y3))
 | 0 => fun _ _ _ _ r h => by simp [impl_added.l0] at h
 | k + 1 => by
  have ih0 := impl_added.mono_l k
  ·
   intro y0 y1 y2 y3
   unfold impl_added.l0
   repeat' (with_reducible first | exact ih0 _ _ _ _ | exact mr_ | exact mn_ | refine mi_ ?_ ?_ | refine mb_ ?_ (fun _ => ?_))
theorem impl_added.mono : ∀ a0 a1 k, LeO (impl_added.f k a0 a1) (impl_added.f (k + 1) a0 a1) := by
 intro a0 a1 k; have ih0 := impl_added.mono_l k; unfold impl_added.f; repeat' (with_reducible first | exact ih0 _ _ _ _ | exact mr_ | exact mn_ | refine mi_ ?_ ?_ | refine mb_ ?_ (fun _ => ?_))
set_option maxHeartbeats 8000000 in
set_option maxRecDepth 100000 in
theorem impl_added.calls (k : Nat) (A0 : Option Addr) (c0 : Nat) (l0 : List Int) (A1 : Option Addr) (c1 : Nat) (l1 : List Int) (r : List Int) (w : World) (hr0 : Kd.C (Kd.int .i64) w A0 l0.length l0) (hc0 : l0.length ≤ c0) (hr1 : Kd.C (Kd.int .i64) w A1 l1.length l1) (hc1 : l1.length ≤ c1) (h : impl_added.f k l0 l1 = some r) :
  Calls Try.prog 58 #[.slice A0 l0.length c0, .slice A1 l1.length c1] w fun e w' => ∃ v0_ : Value, e = .returned (v0_) ∧ Kd.R (Kd.int .i64) 3 w' w.heap.size (fun _ => True) v0_ r ∧ Below w.heap.size w w' := by
 have HR0 := A_ hr0; have HC0 := A_ hc0; clear hr0 hc0; have HR1 := A_ hr1; have HC1 := A_ hc1; clear hr1 hc1; have HB := A_ (Below.refl w.heap.size w); have H : ((slices_Clone_int_int.f l0).bind fun aK => (impl_added.l0 k aK l1 (l1.length : Int) 0)) = some r := h; clear h; obtain ⟨aK, A3, H⟩ := bnd_ H; (try dsimp only at H); have H' := A_ H; clear H; go_enter Try.func58, Try.ntmps58; go_wp2_with (first | ((with_reducible refine gate_callee (f := 41) rfl ?_); refine gl_ (some 9) Try.func41 #[.slice A0 l0.length c0] ?_; (with_reducible refine (slices_Clone_int_int.calls _ _ l0 aK _ ?s1 ?s2 A3.out).mono ?_); (case s1 => exact td_); (case s2 => exact HC0.out); rintro e w4 ⟨b3, rfl, ho0, hb⟩; refine ⟨_, rfl, ?_⟩; have bl := rx_ ho0 HB; replace HB := bs_ HB hb; (try clear hb ho0)))
 go_loopg [12] k (fun kq cn w' => ∃ (ai : List Int) (aa : Int), cn = .int .i64 aa ∧ Aside0 (impl_added.l0 kq ai l1 (l1.length : Int) aa = some r) ∧ Aside0 (kq ≤ k) ∧ Aside0 (Kd.R (Kd.int .i64) 3 w' w.heap.size (fun _ => True) b3 ai) ∧ Aside0 (Below w.heap.size w w'))
 case atStart => exact ⟨(aK), (0), tx_, H', ⟨Nat.le_refl _⟩, ⟨rR_ bl.out⟩, ⟨(tb_ HB.out)⟩⟩
 case round =>
  clear H'; (try clear c1); (try clear p2); (try clear c4); obtain ⟨ai, aa, rfl, HA, HK1, av, HB⟩ := hrel
  cases gk with
  | zero => exact absurd HA.out (by simp [impl_added.l0])
  | succ k1 =>
   have H := HA.out; clear HA; simp only [impl_added.l0] at H; by_cases c5 : aa < (l1.length : Int)
   ·
    rw [if_pos c5] at H; have aJ : decide (aa < (l1.length : Int)) = true := decide_eq_true c5; clear c5; by_cases c6 : 0 ≤ aa
    ·
     rw [if_pos c6] at H; have aA : decide (0 ≤ aa) = true := decide_eq_true c6; clear c6; by_cases c7 : aa < (l1.length : Int)
     ·
      rw [if_pos c7] at H; have a4 : decide (aa < (l1.length : Int)) = true := decide_eq_true c7; clear c7; by_cases c8 : aa < (ai.length : Int)
      ·
       rw [if_pos c8] at H; have bR : decide (aa < (ai.length : Int)) = true := decide_eq_true c8; clear c8; obtain ⟨a9, aQ⟩ : ∃ y_ : List Int, y_ = (ai.set (aa : Int).toNat (wrap64 ((rd ai aa) + (rd l1 aa)))) := ⟨_, rfl⟩
       replace H : (impl_added.l0 k1 a9 l1 (l1.length : Int) (wrap64 (aa + 1))) = some r := yq_ aQ H; have bm := A_ aQ; clear aQ; have H' := A_ H; clear H; have p218 : 0 ≤ (aa : Int) := od_; have q218 : aa < (l1.length : Int) := od_; obtain ⟨ad218, e218, aq⟩ := Kd.at_int HR1.out aa p218 q218; cases e218; replace aq := (HB.out.cell (World.block_lt_of_cell? w _ aq)).trans aq; replace p218 := eq_true p218; replace q218 := eq_true q218; obtain ⟨co, b4, b5⟩ := Kd.R_slice av.out; subst b5; have p219 : 0 ≤ (aa : Int) := od_; have q219 : aa < (ai.length : Int) := od_; obtain ⟨ad219, e219, aY⟩ := Kd.at_int (Kd.R_reads' av.out).2.2 aa p219 q219; cases e219; replace p219 := eq_true p219; replace q219 := eq_true q219; have p9 : 0 ≤ (aa : Int) := od_; have q9 : (aa : Int) < ((ai.length : Int) : Int) := od_; obtain ⟨go9, co9, be, bf, gl9, cl9, HG9⟩ := Kd.R_form av.out (by omega); (first | cases be | (injection be with ea_ en_ ec_; (first | subst ea_ | (injection ea_ with ea_; subst ea_)); subst ec_; clear en_)); have GB9 := A_ bf; have GG9 := A_ HG9; clear bf gl9 HG9; (first | simp only [add_plain] at aY | skip); obtain ⟨bg, hf9_0⟩ := Kd.R_celln 0 av.out (aa : Int) p9 q9; replace p9 := eq_true p9; replace q9 := eq_true q9; have HP11 := Kd.R_putg av.out (aa : Int) (wrap64 ((rd ai aa) + (rd l1 aa))); go_wp2_with (first | ((with_reducible refine gate_store (t := 3) (p := 23) rfl ?_); refine store_event (t := 3) (p := 23) (v := ?vo_w12) (w1 := (wr.setCell ⟨go9, (aa : Int).toNat, none⟩ (.int .i64 (wrap64 ((rd ai aa) + (rd l1 aa)))))) ?hg ?ho ?hn ?hr ?_; (case ho => rfl); (case hg => rfl); (case hn => rfl); (case hr => first | (go_simp; done) | (go_simp; rfl)); intro b6 hw; have hg : wr.grownBy b6 (some go9) := (by rw [hw]; exact HP11.2); have hp_ : Kd.R (Kd.int .i64) 3 b6 w.heap.size (fun _ => True) (.slice (some ⟨go9, 0, none⟩) ai.length b4) a9 := (by rw [hw, bm.out]; exact HP11.1); clear HP11; replace av := A_ (hp_); replace HB := A_ ((by rw [hw]; exact below_set (HB.out) GB9.out : Below w.heap.size w b6)); clear hg hw hp_))
       go_roundg k1
       case measure => have := HK1.out; omega
       case rel => exact ⟨(a9), (wrap64 (aa + 1)), tx_, H', ⟨by have := HK1.out; omega⟩, ⟨rR_ av.out⟩, ⟨(tb_ HB.out)⟩⟩
      ·
       rw [if_neg c8] at H; exact absurd H (by simp)
     ·
      rw [if_neg c7] at H; exact absurd H (by simp)
    ·
     rw [if_neg c6] at H; exact absurd H (by simp)
   ·
    rw [if_neg c5] at H; have aJ : decide (aa < (l1.length : Int)) = false := decide_eq_false c5; clear c5; obtain rfl := Option.some.inj H; go_wp2; go_ret; exact ⟨_, tw_, by refine qR_ ?_; exact av.out, (tb_ HB.out)⟩

end Go.Proofs.Ytncgleffkbegjaa.MFnExactDeskNew
