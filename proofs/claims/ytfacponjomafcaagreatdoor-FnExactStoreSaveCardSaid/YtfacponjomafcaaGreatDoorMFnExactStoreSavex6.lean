/- For the law FnExactStoreSave: walks of the functions that it reaches: each call returns what the plain function beside it tells. The conditions stand in each statement. -/
import Derived.Test.YtfacponjomafcaaGreatDoorV
import Derived.Test.YtfacponjomafcaaGreatDoorMFnExactStoreSavex0
import Derived.Test.YtfacponjomafcaaGreatDoorMFnExactStoreSavex2
namespace Go.Proofs.YtfacponjomafcaaGreatDoor.MFnExactStoreSave
open Go.RowKit Go.Proofs.YtfacponjomafcaaGreatDoorW.PrintWords Go.Proofs.YtfacponjomafcaaGreatDoorW.PrintLast Go.Proofs.YtfacponjomafcaaGreatDoorW.PrintMore
attribute [local go_sem] max2_int min2_int max_two min_two max_three min_three max_four min_four   -- for this text's walks alone
set_option linter.unusedVariables false
set_option linter.unusedSimpArgs false
set_option maxHeartbeats 8000000
set_option maxRecDepth 100000

/-! ### spec_l1Cut: function 71 -/
def spec_l1Cut.l0 : Nat → ByteArray → Int → List ByteArray → Int → Int → Option (List ByteArray)
 | 0, _, _, _, _, _ => none
 | k + 1, x0, x1, x5, x6, x7 => if x7 < (x0.size : Int) then (if 0 ≤ x7 then (if (bt x0 x7) = x1 then (if 0 ≤ x6 then (if x6 ≤ x7 then (if x7 ≤ (x0.size : Int) then (if x5.length < 8796093022208 then (spec_l1Cut.l0 k x0 x1 (x5 ++ [x0.extract (x6 : Int).toNat (x7 : Int).toNat]) (wrap64 (x7 + 1)) (wrap64 (x7 + 1))) else (none)) else (none)) else (none)) else (none)) else (spec_l1Cut.l0 k x0 x1 x5 x6 (wrap64 (x7 + 1)))) else (none)) else (if 0 ≤ x6 then (if x6 ≤ (x0.size : Int) then (if x5.length < 8796093022208 then (some (x5 ++ [x0.extract (x6 : Int).toNat x0.size])) else (none)) else (none)) else (none))
def spec_l1Cut.f (k : Nat) (a0 : ByteArray) (a1 : Int) : Option (List ByteArray) := spec_l1Cut.l0 k a0 a1 (([] : List ByteArray)) 0 0
theorem spec_l1Cut.calls (k : Nat) (a0 : ByteArray) (a1 : Int) (r : List ByteArray) (w : World) (h : spec_l1Cut.f k a0 a1 = some r) :
  Calls Tryz.prog 71 #[.string a0, .int .u8 a1] w fun e w' => ∃ v0_ : Value, e = .returned (v0_) ∧ Kd.R Kd.string 9 w' w.heap.size (fun _ => True) v0_ r ∧ Below w.heap.size w w' := by
 have HB := A_ (Below.refl w.heap.size w); have H : (spec_l1Cut.l0 k a0 a1 (([] : List ByteArray)) 0 0) = some r := h; clear h; obtain ⟨az, al⟩ : ∃ y_ : List ByteArray, y_ = (([] : List ByteArray)) := ⟨_, rfl⟩
 replace H : (spec_l1Cut.l0 k a0 a1 az 0 0) = some r := yq_ al H; have av := A_ al; clear al; have H' := A_ H; clear H; go_enter Tryz.func71, Tryz.ntmps71; go_wp2_with (first | ((with_reducible refine gate_dst (N := 8) rfl ?_); refine Kd.R_lit Kd.string _ 9 ?hg (N := 8) ?hd (xs := ([] : List ByteArray)) (inner := []) (ok := fun _ => True) (okp := fun _ => True) ?hr ?hp (fun _ hk => hk) trivial (Below.refl _ _) (Nat.le_refl _) (by simp) ?_; (case hd => rfl); (case hg => rfl); (case hr => first | (go_simp; done) | (go_simp; rfl)); (case hp => exact (Reps.none _ _)); intro bb w3 ho4 hb hg_ hnew_; clear hg_ hnew_; (first | rw [← av.out] at ho4 | (simp only [Int.reduceToNat] at ho4; rw [← av.out] at ho4)); have aA := rx_ ho4 HB; replace HB := bs_ HB hb; clear hb ho4))
 go_loopg [5, 6, 7] k (fun kq v5 v6 v7 w' => ∃ (ae : List ByteArray) (ac : Int) (ab : Int), v6 = .int .i64 ac ∧ v7 = .int .i64 ab ∧ Aside0 (spec_l1Cut.l0 kq a0 a1 ae ac ab = some r) ∧ Aside0 (kq ≤ k) ∧ Aside0 (Kd.R Kd.string 9 w' w.heap.size (fun _ => True) v5 ae) ∧ Aside0 (Below w.heap.size w w'))
 case atStart => exact ⟨(az), (0), (0), tx_, tx_, H', ⟨Nat.le_refl _⟩, ⟨rR_ aA.out⟩, ⟨(tb_ HB.out)⟩⟩
 case round =>
  clear H'; obtain ⟨ae, ac, ab, rfl, rfl, HA, HK1, am, HB⟩ := hrel
  cases gk with
  | zero => exact absurd HA.out (by simp [spec_l1Cut.l0])
  | succ k1 =>
   have H := HA.out; clear HA; simp only [spec_l1Cut.l0] at H; replace H := it_ H; rcases H with ⟨af, H⟩ | ⟨af, H⟩
   ·
    replace H := in_ H; obtain ⟨ai, H⟩ := H; by_cases c8 : (bt a0 ab) = a1
    ·
     rw [if_pos c8] at H; have aU : ((bt a0 ab) == a1) = true := beq_iff_eq.mpr c8; have aV : ((bt a0 ab) != a1) = false := bne_eq_false_iff_eq.mpr c8; clear c8; replace H := i0_ H; obtain ⟨c9, H⟩ := H; have aC := eq_true c9; have bc : decide (0 ≤ ac) = true := decide_eq_true c9; clear c9; replace H := i0_ H; obtain ⟨c10, H⟩ := H; have aw := eq_true c10; have aD : decide (ac ≤ ab) = true := decide_eq_true c10; clear c10; replace H := i0_ H; obtain ⟨c11, H⟩ := H; have a3 := eq_true c11; have a4 : decide (ab ≤ (a0.size : Int)) = true := decide_eq_true c11; clear c11; replace H := il_ H; obtain ⟨aE, H⟩ := H; obtain ⟨aG, an⟩ : ∃ y_ : List ByteArray, y_ = (ae ++ [a0.extract (ac : Int).toNat (ab : Int).toNat]) := ⟨_, rfl⟩
     replace H : (spec_l1Cut.l0 k1 a0 a1 aG (wrap64 (ab + 1)) (wrap64 (ab + 1))) = some r := yq_ an H; have aH := A_ an; clear an; have H' := A_ H; clear H; have p7 : 0 ≤ (ab : Int) := od_; have q7 : ab < (a0.size : Int) := od_; have hx7 := bt_at a0 ab; replace p7 := eq_true p7; replace q7 := eq_true q7; go_wp2_with (first | ((with_reducible refine gate_builtin (b := .append) (xs := #[.tmp 20, .tmp 25]) rfl ?_); at_builtin; refine Kd.R_append Kd.string (w0 := w) w.heap.size rfl (.tmp 20) (.tmp 25) 78 9 (.string ⟨#[]⟩) 16 rfl Tryz.underlying78 info9 rfl (by decide) (by omega) u5 ae (a0.extract (ac : Int).toNat (ab : Int).toNat) [.string (a0.extract (ac : Int).toNat (ab : Int).toNat)] (fun _ => True) (fun _ => False) rfl rfl ?aP (fun _ hk => hk.elim) ?aF ?aO ?aB ?aS ?aL ?_; (case aP => exact rfl); (case aB => exact (tb_ HB.out)); (case aF => exact (fun _ _ => trivial)); (case aO => exact (rR_ am.out)); (case aS => exact (below_size (tb_ HB.out))); (case aL => have := aE.out; omega); intro bd bh ho hb hg hat; rw [← aH.out] at ho; replace HB := A_ (hb); have aI := A_ (ho); clear am ho hb hg hat))
     go_roundg k1
     case measure => have := HK1.out; omega
     case rel => exact ⟨(aG), (wrap64 (ab + 1)), (wrap64 (ab + 1)), tx_, tx_, H', ⟨by have := HK1.out; omega⟩, ⟨rR_ aI.out⟩, ⟨(tb_ HB.out)⟩⟩
    ·
     rw [if_neg c8] at H; have aU : ((bt a0 ab) == a1) = false := beq_eq_false_iff_ne.mpr c8; have aV : ((bt a0 ab) != a1) = true := bne_iff_ne.mpr c8; have H' := A_ H; clear H; have p7 : 0 ≤ (ab : Int) := od_; have q7 : ab < (a0.size : Int) := od_; have hx7 := bt_at a0 ab; replace p7 := eq_true p7; replace q7 := eq_true q7; go_wp2
     go_roundg k1
     case measure => have := HK1.out; omega
     case rel => exact ⟨(ae), (ac), (wrap64 (ab + 1)), tx_, tx_, H', ⟨by have := HK1.out; omega⟩, ⟨rR_ am.out⟩, ⟨(tb_ HB.out)⟩⟩
   ·
    replace H := i0_ H; obtain ⟨c14, H⟩ := H; have ax := eq_true c14; have a5 : decide (0 ≤ ac) = true := decide_eq_true c14; clear c14; replace H := i0_ H; obtain ⟨c15, H⟩ := H; have a6 := eq_true c15; have a7 : decide (ac ≤ (a0.size : Int)) = true := decide_eq_true c15; clear c15; replace H := il_ H; obtain ⟨aJ, H⟩ := H; obtain ⟨aW, ao⟩ : ∃ y_ : List ByteArray, y_ = (ae ++ [a0.extract (ac : Int).toNat a0.size]) := ⟨_, rfl⟩
    replace H : (some aW) = some r := yq_ ao H; have aK := A_ ao; clear ao; obtain rfl := Option.some.inj H; go_wp2_with (first | ((with_reducible refine gate_builtin (b := .append) (xs := #[.tmp 29, .tmp 33]) rfl ?_); at_builtin; refine Kd.R_append Kd.string (w0 := w) w.heap.size rfl (.tmp 29) (.tmp 33) 78 9 (.string ⟨#[]⟩) 16 rfl Tryz.underlying78 info9 rfl (by decide) (by omega) u5 ae (a0.extract (ac : Int).toNat a0.size) [.string (a0.extract (ac : Int).toNat a0.size)] (fun _ => True) (fun _ => False) rfl rfl ?aP (fun _ hk => hk.elim) ?aF ?aO ?aB ?aS ?aL ?_; (case aP => exact rfl); (case aB => exact (tb_ HB.out)); (case aF => exact (fun _ _ => trivial)); (case aO => exact (rR_ am.out)); (case aS => exact (below_size (tb_ HB.out))); (case aL => have := aJ.out; omega); intro be bi ho hb hg hat; rw [← aK.out] at ho; replace HB := A_ (hb); have aM := A_ (ho); clear am ho hb hg hat)); go_ret; exact ⟨_, tw_, by refine qR_ ?_; exact aM.out, (tb_ HB.out)⟩
/-! ### spec_l1Digits: function 73 -/
mutual
def spec_l1Digits.j0 : Nat → ByteArray → Bool → Option (Int)
 | 0, _, _ => none
 | k + 1, x0, x18 => if x18 = true then (some (-1)) else (spec_l1Digits.l0 k x0 0 0)
def spec_l1Digits.l0 : Nat → ByteArray → Int → Int → Option (Int)
 | 0, _, _, _ => none
 | k + 1, x0, x3, x4 => if x4 < (x0.size : Int) then (if 0 ≤ x4 then (if (bt x0 x4) < 48 then (some (-1)) else (if (bt x0 x4) > 57 then (some (-1)) else (spec_l1Digits.l0 k x0 (wrap64 ((wrap64 (10 * x3)) + (((bt x0 x4) - 48) % 256))) (wrap64 (x4 + 1))))) else (none)) else (some x3)
end
def spec_l1Digits.f (k : Nat) (a0 : ByteArray) : Option (Int) := (spec_l1In.f (a0.size : Int) 1 6).bind fun ap => (if ap = true then (if (a0.size : Int) > 1 then (if 0 < (a0.size : Int) then (spec_l1Digits.j0 k a0 ((bt a0 0) == 48)) else (none)) else (spec_l1Digits.j0 k a0 false)) else (spec_l1Digits.j0 k a0 true))
theorem spec_l1Digits.mono_l : ∀ k, (∀ y0 y1, LeO (spec_l1Digits.j0 k y0 y1) (spec_l1Digits.j0 (k + 1) y0 y1)) ∧ (∀ y0 y1 y2, LeO (spec_l1Digits.l0 k y0 y1 y2) (spec_l1Digits.l0 (k + 1) y0 y1 y2))
 | 0 => ⟨fun _ _ r h => by simp [spec_l1Digits.j0] at h, fun _ _ _ r h => by simp [spec_l1Digits.l0] at h⟩
 | k + 1 => by
  obtain ⟨ih0, ih1⟩ := spec_l1Digits.mono_l k
  refine ⟨?_, ?_⟩
  ·
   intro y0 y1
   unfold spec_l1Digits.j0
   repeat' (with_reducible first | exact ih0 _ _ | exact ih1 _ _ _ | exact mr_ | exact mn_ | refine mi_ ?_ ?_ | refine mb_ ?_ (fun _ => ?_))
  ·
   intro y0 y1 y2
   unfold spec_l1Digits.l0
   repeat' (with_reducible first | exact ih0 _ _ | exact ih1 _ _ _ | exact mr_ | exact mn_ | refine mi_ ?_ ?_ | refine mb_ ?_ (fun _ => ?_))
theorem spec_l1Digits.mono : ∀ a0 k, LeO (spec_l1Digits.f k a0) (spec_l1Digits.f (k + 1) a0) := by
 intro a0 k; obtain ⟨ih0, ih1⟩ := spec_l1Digits.mono_l k; unfold spec_l1Digits.f; repeat' (with_reducible first | exact ih0 _ _ | exact ih1 _ _ _ | exact mr_ | exact mn_ | refine mi_ ?_ ?_ | refine mb_ ?_ (fun _ => ?_))
theorem spec_l1Digits.calls (k : Nat) (a0 : ByteArray) (r : Int) (w : World) (h : spec_l1Digits.f k a0 = some r) :
  Calls Tryz.prog 73 #[.string a0] w fun e w' => e = .returned (.int .i64 r) ∧ Drawn0 w w' := by
 have H : ((spec_l1In.f (a0.size : Int) 1 6).bind fun ap => (if ap = true then (if (a0.size : Int) > 1 then (if 0 < (a0.size : Int) then (spec_l1Digits.j0 k a0 ((bt a0 0) == 48)) else (none)) else (spec_l1Digits.j0 k a0 false)) else (spec_l1Digits.j0 k a0 true))) = some r := h; clear h; have HC2 := A_ H; clear H; go_enter Tryz.func73, Tryz.ntmps73
 go_upto_region 1 with (fail)
 go_cut [18] (fun bf wc => ∃ (kq : Nat) (ag : Bool), bf = .bool ag ∧ Aside0 (spec_l1Digits.j0 kq a0 ag = some r) ∧ Aside0 (kq ≤ k) ∧ Drawn0 w wc)
 case first =>
  have H := HC2.out; clear HC2; obtain ⟨ap, A3, H⟩ := bnd_ H; (try dsimp only at H); by_cases c4 : ap = true
  ·
   subst c4; replace H : (if (a0.size : Int) > 1 then (if 0 < (a0.size : Int) then (spec_l1Digits.j0 k a0 ((bt a0 0) == 48)) else (none)) else (spec_l1Digits.j0 k a0 false)) = some r := by rw [if_pos rfl] at H; exact H
   by_cases c5 : (a0.size : Int) > 1
   ·
    rw [if_pos c5] at H; have af : decide (1 < (a0.size : Int)) = true := decide_eq_true c5; have ay : decide (1 < a0.size) = true := decide_eq_true (by omega); clear c5; (first | rw [af] | (simp only [i64_w, i32_w]; rw [af]) | skip); replace H := i0_ H; obtain ⟨c6, H⟩ := H; have ai : decide (0 < (a0.size : Int)) = true := decide_eq_true c6; have aq : decide (0 < a0.size) = true := decide_eq_true (by omega); clear c6; have H' := A_ H; clear H; go_wp2_with (first | ((with_reducible refine gate_callee (f := 40) rfl ?_); refine gl_ (some 7) Tryz.func40 #[.int .i64 (a0.size : Int), .int .i64 1, .int .i64 6] ?_; (with_reducible refine (spec_l1In.calls (a0.size : Int) 1 6 true _ A3.out).mono ?_); rintro e w' ⟨rfl, ⟨nd, rfl⟩⟩; refine ⟨_, rfl, ?_⟩; have p7 : 0 ≤ (0 : Int) := (by omega); have q7 : 0 < a0.size := (by have : (0 : Int) < (a0.size : Int) := od_; omega); have hx7 : ∀ h : 0 < a0.size, ((a0[0]'h).toNat : Int) = bt a0 0 := bt_at a0 0; clear p7; have a8 : (0 < (a0.size : Int)) = True := eq_true (od_); replace q7 := eq_true q7)); go_meet
    case rel => exact ⟨_, (((bt a0 0) == 48)), tx_, H', ⟨by first | omega | exact Nat.le_refl _⟩, dz_⟩
   ·
    rw [if_neg c5] at H; have af : decide (1 < (a0.size : Int)) = false := decide_eq_false c5; have ay : decide (1 < a0.size) = false := decide_eq_false (by omega); clear c5; (first | rw [af] | (simp only [i64_w, i32_w]; rw [af]) | skip); have H' := A_ H; clear H; go_wp2_with (first | ((with_reducible refine gate_callee (f := 40) rfl ?_); refine gl_ (some 7) Tryz.func40 #[.int .i64 (a0.size : Int), .int .i64 1, .int .i64 6] ?_; (with_reducible refine (spec_l1In.calls (a0.size : Int) 1 6 true _ A3.out).mono ?_); rintro e w' ⟨rfl, ⟨nd, rfl⟩⟩; refine ⟨_, rfl, ?_⟩)); go_meet
    case rel => exact ⟨_, (false), tx_, H', ⟨by first | omega | exact Nat.le_refl _⟩, dz_⟩
  ·
   replace c4 := Bool.eq_false_iff.mpr c4; subst c4; replace H : (spec_l1Digits.j0 k a0 true) = some r := by rw [if_neg (show ¬ (false = true) by decide)] at H; exact H
   have H' := A_ H; clear H; go_wp2_with (first | ((with_reducible refine gate_callee (f := 40) rfl ?_); refine gl_ (some 7) Tryz.func40 #[.int .i64 (a0.size : Int), .int .i64 1, .int .i64 6] ?_; (with_reducible refine (spec_l1In.calls (a0.size : Int) 1 6 false _ A3.out).mono ?_); rintro e w' ⟨rfl, ⟨nd, rfl⟩⟩; refine ⟨_, rfl, ?_⟩)); go_meet
   case rel => exact ⟨_, (true), tx_, H', ⟨by first | omega | exact Nat.le_refl _⟩, dz_⟩
 case rest =>
  clear HC2; obtain ⟨kq, ag, rfl, HA, HJ1, ⟨mc1, rfl⟩⟩ := hcut
  cases kq with
  | zero => exact absurd HA.out (by simp [spec_l1Digits.j0])
  | succ kj1 =>
   have H := HA.out; clear HA; simp only [spec_l1Digits.j0] at H; by_cases c8 : ag = true
   ·
    subst c8; replace H : (some (-1)) = some r := by rw [if_pos rfl] at H; exact H
    obtain rfl := Option.some.inj H; go_wp2; go_ret; exact ⟨tx_, dz_⟩
   ·
    replace c8 := Bool.eq_false_iff.mpr c8; subst c8; replace H : (spec_l1Digits.l0 kj1 a0 0 0) = some r := by rw [if_neg (show ¬ (false = true) by decide)] at H; exact H
    have H' := A_ H; clear H; go_wp2
    go_loopg [3, 4] kj1 (fun kq v3 v4 w' => ∃ (au : Int) (aa : Int), v3 = .int .i64 au ∧ v4 = .int .i64 aa ∧ Aside0 (spec_l1Digits.l0 kq a0 au aa = some r) ∧ Aside0 (kq ≤ kj1) ∧ Drawn0 w w')
    case atStart => exact ⟨(0), (0), tx_, tx_, H', ⟨Nat.le_refl _⟩, dz_⟩
    case round =>
     clear H'; (try clear c8); obtain ⟨au, aa, rfl, rfl, HA, HK2, ⟨m2, rfl⟩⟩ := hrel
     cases gk with
     | zero => exact absurd HA.out (by simp [spec_l1Digits.l0])
     | succ k2 =>
      have H := HA.out; clear HA; simp only [spec_l1Digits.l0] at H; replace H := it_ H; rcases H with ⟨aC, H⟩ | ⟨aC, H⟩
      ·
       replace H := in_ H; obtain ⟨aw, H⟩ := H; replace H := it_ H; rcases H with ⟨aN, H⟩ | ⟨aN, H⟩
       ·
        obtain rfl := Option.some.inj H; have p11 : 0 ≤ (aa : Int) := od_; have q11 : aa < (a0.size : Int) := od_; have hx11 := bt_at a0 aa; replace p11 := eq_true p11; replace q11 := eq_true q11; go_wp2; go_ret; exact ⟨tx_, dz_⟩
       ·
        replace H := ig_ H; rcases H with ⟨ax, H⟩ | ⟨ax, H⟩
        ·
         obtain rfl := Option.some.inj H; have p11 : 0 ≤ (aa : Int) := od_; have q11 : aa < (a0.size : Int) := od_; have hx11 := bt_at a0 aa; replace p11 := eq_true p11; replace q11 := eq_true q11; have p13 : 0 ≤ (aa : Int) := od_; have q13 : aa < (a0.size : Int) := od_; have hx13 := bt_at a0 aa; replace p13 := eq_true p13; replace q13 := eq_true q13; go_wp2; go_ret; exact ⟨tx_, dz_⟩
        ·
         have H' := A_ H; clear H; have p11 : 0 ≤ (aa : Int) := od_; have q11 : aa < (a0.size : Int) := od_; have hx11 := bt_at a0 aa; replace p11 := eq_true p11; replace q11 := eq_true q11; have p13 : 0 ≤ (aa : Int) := od_; have q13 : aa < (a0.size : Int) := od_; have hx13 := bt_at a0 aa; replace p13 := eq_true p13; replace q13 := eq_true q13; have p15 : 0 ≤ (aa : Int) := od_; have q15 : aa < (a0.size : Int) := od_; have hx15 := bt_at a0 aa; replace p15 := eq_true p15; replace q15 := eq_true q15; go_wp2
         go_roundg k2
         case measure => have := HJ1.out; have := HK2.out; omega
         case rel => exact ⟨(wrap64 ((wrap64 (10 * au)) + (((bt a0 aa) - 48) % 256))), (wrap64 (aa + 1)), tx_, tx_, H', ⟨by have := HJ1.out; have := HK2.out; omega⟩, dz_⟩
      ·
       obtain rfl := Option.some.inj H; go_wp2; go_ret; exact ⟨tx_, dz_⟩

/-! ### spec_l15Signed: function 72 -/
def spec_l15Signed.j0 : Nat → ByteArray → Bool → Option (Int)
 | 0, _, _ => none
 | k + 1, x0, x17 => if x17 = true then (if 1 ≤ (x0.size : Int) then ((spec_l1Digits.f k (x0.extract 1 x0.size)).bind fun ar => (some (wrap64 (-ar)))) else (none)) else ((spec_l1Digits.f k x0).bind fun ad => (if ad < 0 then (some (-100)) else (some ad)))
def spec_l15Signed.f (k : Nat) (a0 : ByteArray) : Option (Int) := if (a0.size : Int) > 1 then (if 0 < (a0.size : Int) then (if (bt a0 0) = 45 then (if 1 ≤ (a0.size : Int) then ((spec_l1Digits.f k (a0.extract 1 a0.size)).bind fun aj => (spec_l15Signed.j0 k a0 (decide (aj > 0)))) else (none)) else (spec_l15Signed.j0 k a0 false)) else (none)) else (spec_l15Signed.j0 k a0 false)
theorem spec_l15Signed.mono_l : ∀ k, (∀ y0 y1, LeO (spec_l15Signed.j0 k y0 y1) (spec_l15Signed.j0 (k + 1) y0 y1))
 | 0 => fun _ _ r h => by simp [spec_l15Signed.j0] at h
 | k + 1 => by
  have ih0 := spec_l15Signed.mono_l k
  ·
   intro y0 y1
   unfold spec_l15Signed.j0
   repeat' (with_reducible first | exact ih0 _ _ | exact spec_l1Digits.mono _ _ | exact mr_ | exact mn_ | refine mi_ ?_ ?_ | refine mb_ ?_ (fun _ => ?_))
theorem spec_l15Signed.mono : ∀ a0 k, LeO (spec_l15Signed.f k a0) (spec_l15Signed.f (k + 1) a0) := by
 intro a0 k; have ih0 := spec_l15Signed.mono_l k; unfold spec_l15Signed.f; repeat' (with_reducible first | exact ih0 _ _ | exact spec_l1Digits.mono _ _ | exact mr_ | exact mn_ | refine mi_ ?_ ?_ | refine mb_ ?_ (fun _ => ?_))
theorem spec_l15Signed.calls (k : Nat) (a0 : ByteArray) (r : Int) (w : World) (h : spec_l15Signed.f k a0 = some r) :
  Calls Tryz.prog 72 #[.string a0] w fun e w' => e = .returned (.int .i64 r) ∧ Drawn0 w w' := by
 have H : (if (a0.size : Int) > 1 then (if 0 < (a0.size : Int) then (if (bt a0 0) = 45 then (if 1 ≤ (a0.size : Int) then ((spec_l1Digits.f k (a0.extract 1 a0.size)).bind fun aj => (spec_l15Signed.j0 k a0 (decide (aj > 0)))) else (none)) else (spec_l15Signed.j0 k a0 false)) else (none)) else (spec_l15Signed.j0 k a0 false)) = some r := h; clear h; have HC2 := A_ H; clear H; go_enter Tryz.func72, Tryz.ntmps72
 go_upto_region 1 with (fail)
 go_cut [17] (fun bg wc => ∃ (kq : Nat) (ah : Bool), bg = .bool ah ∧ Aside0 (spec_l15Signed.j0 kq a0 ah = some r) ∧ Aside0 (kq ≤ k) ∧ Drawn0 w wc)
 case first =>
  have H := HC2.out; clear HC2; by_cases c3 : (a0.size : Int) > 1
  ·
   rw [if_pos c3] at H; have ak : decide (1 < (a0.size : Int)) = true := decide_eq_true c3; have aQ : decide (1 < a0.size) = true := decide_eq_true (by omega); clear c3; (first | rw [ak] | (simp only [i64_w, i32_w]; rw [ak]) | skip); replace H := i0_ H; obtain ⟨c4, H⟩ := H; have aX : decide (0 < (a0.size : Int)) = true := decide_eq_true c4; have aY : decide (0 < a0.size) = true := decide_eq_true (by omega); clear c4; by_cases c6 : (bt a0 0) = 45
   ·
    rw [if_pos c6] at H; have ai : ((bt a0 0) == 45) = true := beq_iff_eq.mpr c6; have aq : ((bt a0 0) != 45) = false := bne_eq_false_iff_eq.mpr c6; clear c6; replace H := i0_ H; obtain ⟨c7, H⟩ := H; have aZ := eq_true c7; have a2 : decide (1 ≤ (a0.size : Int)) = true := decide_eq_true c7; clear c7; obtain ⟨aj, A8, H⟩ := bnd_ H; (try dsimp only at H); have H' := A_ H; clear H; have p5 : 0 ≤ (0 : Int) := (by omega)
    have q5 : 0 < a0.size := (by have : (0 : Int) < (a0.size : Int) := od_; omega)
    have hx5 : ∀ h : 0 < a0.size, ((a0[0]'h).toNat : Int) = bt a0 0 := bt_at a0 0; clear p5; have a9 : (0 < (a0.size : Int)) = True := eq_true (od_); replace q5 := eq_true q5; go_wp2_with (first | (go_at_call 73; (with_reducible refine (spec_l1Digits.calls k (a0.extract 1 a0.size) aj _ A8.out).mono ?_); rintro e w' ⟨rfl, ⟨nd, rfl⟩⟩)); go_meet
    case rel => exact ⟨_, (decide (aj > 0)), tx_, H', ⟨by first | omega | exact Nat.le_refl _⟩, dz_⟩
   ·
    rw [if_neg c6] at H; have ai : ((bt a0 0) == 45) = false := beq_eq_false_iff_ne.mpr c6; have aq : ((bt a0 0) != 45) = true := bne_iff_ne.mpr c6; have H' := A_ H; clear H; have p5 : 0 ≤ (0 : Int) := (by omega)
    have q5 : 0 < a0.size := (by have : (0 : Int) < (a0.size : Int) := od_; omega)
    have hx5 : ∀ h : 0 < a0.size, ((a0[0]'h).toNat : Int) = bt a0 0 := bt_at a0 0; clear p5; have a9 : (0 < (a0.size : Int)) = True := eq_true (od_); replace q5 := eq_true q5; go_wp2; go_meet
    case rel => exact ⟨_, (false), tx_, H', ⟨by first | omega | exact Nat.le_refl _⟩, dz_⟩
  ·
   rw [if_neg c3] at H; have ak : decide (1 < (a0.size : Int)) = false := decide_eq_false c3; have aQ : decide (1 < a0.size) = false := decide_eq_false (by omega); clear c3; (first | rw [ak] | (simp only [i64_w, i32_w]; rw [ak]) | skip); have H' := A_ H; clear H; go_wp2; go_meet
   case rel => exact ⟨_, (false), tx_, H', ⟨by first | omega | exact Nat.le_refl _⟩, dz_⟩
 case rest =>
  clear HC2; obtain ⟨kq, ah, rfl, HA, HJ1, ⟨mc1, rfl⟩⟩ := hcut
  cases kq with
  | zero => exact absurd HA.out (by simp [spec_l15Signed.j0])
  | succ kj1 =>
   have H := HA.out; clear HA; simp only [spec_l15Signed.j0] at H; by_cases c9 : ah = true
   ·
    subst c9; replace H : (if 1 ≤ (a0.size : Int) then ((spec_l1Digits.f kj1 (a0.extract 1 a0.size)).bind fun ar => (some (wrap64 (-ar)))) else (none)) = some r := by rw [if_pos rfl] at H; exact H
    replace H := i0_ H; obtain ⟨c10, H⟩ := H; have aw := eq_true c10; have aD : decide (1 ≤ (a0.size : Int)) = true := decide_eq_true c10; clear c10; obtain ⟨ar, A11, H⟩ := bnd_ H; (try dsimp only at H); obtain rfl := Option.some.inj H; go_wp2_with (first | ((with_reducible refine gate_callee (f := 73) rfl ?_); refine gl_ (some 20) Tryz.func73 #[.string (a0.extract 1 a0.size)] ?_; (with_reducible refine (spec_l1Digits.calls kj1 (a0.extract 1 a0.size) ar _ A11.out).mono ?_); rintro e w' ⟨rfl, ⟨nd, rfl⟩⟩; refine ⟨_, rfl, ?_⟩)); go_ret; exact ⟨tx_, dz_⟩
   ·
    replace c9 := Bool.eq_false_iff.mpr c9; subst c9; replace H : ((spec_l1Digits.f kj1 a0).bind fun ad => (if ad < 0 then (some (-100)) else (some ad))) = some r := by rw [if_neg (show ¬ (false = true) by decide)] at H; exact H
    obtain ⟨ad, A12, H⟩ := bnd_ H; (try dsimp only at H); replace H := it_ H; rcases H with ⟨aR, H⟩ | ⟨aR, H⟩
    ·
     obtain rfl := Option.some.inj H; go_wp2_with (first | ((with_reducible refine gate_callee (f := 73) rfl ?_); refine gl_ (some 23) Tryz.func73 #[.string a0] ?_; (with_reducible refine (spec_l1Digits.calls kj1 a0 ad _ A12.out).mono ?_); rintro e w' ⟨rfl, ⟨nd, rfl⟩⟩; refine ⟨_, rfl, ?_⟩)); go_ret; exact ⟨tx_, dz_⟩
    ·
     obtain rfl := Option.some.inj H; go_wp2_with (first | ((with_reducible refine gate_callee (f := 73) rfl ?_); refine gl_ (some 23) Tryz.func73 #[.string a0] ?_; (with_reducible refine (spec_l1Digits.calls kj1 a0 ad _ A12.out).mono ?_); rintro e w' ⟨rfl, ⟨nd, rfl⟩⟩; refine ⟨_, rfl, ?_⟩)); go_ret; exact ⟨tx_, dz_⟩

end Go.Proofs.YtfacponjomafcaaGreatDoor.MFnExactStoreSave
