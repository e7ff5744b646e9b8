/- For the law FnStoreCrash: walks of the functions that it reaches: each call returns what the plain function beside it tells. The conditions stand in each statement. -/
import Derived.Test.YtmcibffagofkjaaGreatDoorV
import Derived.Test.YtmcibffagofkjaaGreatDoorMFnStoreCrashx0
import Derived.Test.YtmcibffagofkjaaGreatDoorMFnStoreCrashx6
namespace Go.Proofs.YtmcibffagofkjaaGreatDoor.MFnStoreCrash
open Go.RowKit Go.Proofs.YtmcibffagofkjaaGreatDoorW.PrintWords Go.Proofs.YtmcibffagofkjaaGreatDoorW.PrintLast Go.Proofs.YtmcibffagofkjaaGreatDoorW.PrintMore
attribute [local go_sem] max2_int min2_int max_two min_two max_three min_three max_four min_four   -- for this text's walks alone
set_option linter.unusedVariables false
set_option linter.unusedSimpArgs false
set_option maxHeartbeats 8000000
set_option maxRecDepth 100000

/-! ### impl_StoreCrash: function 14 -/
def impl_StoreCrash.f (k : Nat) (a0_0 : ByteArray) (a0_1 : ByteArray) (a0_2 : Int) (a1 : Int) : Option (ByteArray × ByteArray × Int × Bool) := (impl_StoreOk.f k a0_0 a0_1 a0_2).bind fun az => (if az = true then (if a1 < a0_2 then (some ((⟨#[]⟩ : ByteArray), (⟨#[]⟩ : ByteArray), 0, false)) else (if a1 > (a0_1.size : Int) then (some ((⟨#[]⟩ : ByteArray), (⟨#[]⟩ : ByteArray), 0, false)) else (if 0 ≤ a1 then (if a1 ≤ (a0_1.size : Int) then (some (a0_0, a0_1.extract 0 (a1 : Int).toNat, a0_2, true)) else (none)) else (none)))) else (some ((⟨#[]⟩ : ByteArray), (⟨#[]⟩ : ByteArray), 0, false)))
theorem impl_StoreCrash.mono : ∀ a0 a1 a2 a3 k, LeO (impl_StoreCrash.f k a0 a1 a2 a3) (impl_StoreCrash.f (k + 1) a0 a1 a2 a3) := by
 intro a0 a1 a2 a3 k; unfold impl_StoreCrash.f; repeat' (with_reducible first | exact impl_StoreOk.mono _ _ _ _ | exact mr_ | exact mn_ | refine mi_ ?_ ?_ | refine mb_ ?_ (fun _ => ?_))
theorem impl_StoreCrash.calls (k : Nat) (a0_0 : ByteArray) (a0_1 : ByteArray) (a0_2 : Int) (a1 : Int) (r1 : ByteArray) (r2 : ByteArray) (r3 : Int) (r4 : Bool) (w : World) (hG : GWb w) (h : impl_StoreCrash.f k a0_0 a0_1 a0_2 a1 = some (r1, r2, r3, r4)) :
  Calls Tryz.prog 14 #[.agg #[.string a0_0, .string a0_1, .int .i64 a0_2], .int .i64 a1] w fun e w' => e = .returned (.tuple #[.agg #[.string r1, .string r2, .int .i64 r3], .bool r4]) ∧ Below w.heap.size w w' := by
 have HG := A_ hG; clear hG; have hu24 := Tryz.underlying24; have HB := A_ (Below.refl w.heap.size w); have H : ((impl_StoreOk.f k a0_0 a0_1 a0_2).bind fun az => (if az = true then (if a1 < a0_2 then (some ((⟨#[]⟩ : ByteArray), (⟨#[]⟩ : ByteArray), 0, false)) else (if a1 > (a0_1.size : Int) then (some ((⟨#[]⟩ : ByteArray), (⟨#[]⟩ : ByteArray), 0, false)) else (if 0 ≤ a1 then (if a1 ≤ (a0_1.size : Int) then (some (a0_0, a0_1.extract 0 (a1 : Int).toNat, a0_2, true)) else (none)) else (none)))) else (some ((⟨#[]⟩ : ByteArray), (⟨#[]⟩ : ByteArray), 0, false)))) = some (r1, r2, r3, r4) := h; clear h; obtain ⟨az, A3, H⟩ := bnd_ H; (try dsimp only at H); by_cases c4 : az = true
 ·
  subst c4; replace H : (if a1 < a0_2 then (some ((⟨#[]⟩ : ByteArray), (⟨#[]⟩ : ByteArray), 0, false)) else (if a1 > (a0_1.size : Int) then (some ((⟨#[]⟩ : ByteArray), (⟨#[]⟩ : ByteArray), 0, false)) else (if 0 ≤ a1 then (if a1 ≤ (a0_1.size : Int) then (some (a0_0, a0_1.extract 0 (a1 : Int).toNat, a0_2, true)) else (none)) else (none)))) = some (r1, r2, r3, r4) := by rw [if_pos rfl] at H; exact H
  replace H := it_ H; rcases H with ⟨aw, H⟩ | ⟨aw, H⟩
  ·
   simp only [Option.some.injEq, Prod.mk.injEq] at H; obtain ⟨rfl, rfl, rfl, rfl⟩ := H; go_enter Tryz.func14, Tryz.ntmps14; go_wp2_with (first | ((with_reducible refine gate_dst (N := 2) rfl ?_); (try (refine gate_guard (by rfl) ?_; dsimp only)); refine be_ 2 #[.string a0_0, .string a0_1, .int .i64 a0_2] 24 ?_; intro aA hg w6 ab hb; have aB := gx_ HB hg; have aC := gx_ HB hg; replace HB := bs_ HB hb; clear hb hg) | ((with_reducible refine gate_dst (N := 4) rfl ?_); (try (refine gate_guard (by rfl) ?_; dsimp only)); refine be_ 4 #[.string (⟨#[]⟩ : ByteArray), .string (⟨#[]⟩ : ByteArray), .int .i64 0] 24 ?_; intro al hg w7 ac hb; have aD := gx_ HB hg; have aE := gx_ HB hg; replace HB := bs_ HB hb; have af := nl_ ab hg; have ag := ng_ ab hg; replace ab := bb_ ab hb; clear hb hg; have ct := af.out; have cu := ag.out; obtain ⟨cb, cc, cd, ce, cf, cg⟩ := cf3_ ab) | ((with_reducible refine gate_callee (f := 8) rfl ?_); refine gl_ (some 7) Tryz.func8 #[.agg #[.string a0_0, .string a0_1, .int .i64 a0_2]] ?_; (with_reducible refine (impl_StoreOk.calls k a0_0 a0_1 a0_2 true _ ?s1 A3.out).mono ?_); (case s1 => exact GWb.below HG.out (tb_ HB.out)); rintro e cy ⟨rfl, hb⟩; refine ⟨_, rfl, ?_⟩; replace ab := bb_ ab hb; replace ac := bb_ ac hb; replace HB := bs_ HB hb; (try clear hb); obtain ⟨a7, a8, a9, bb, bc, bd⟩ := cf3_ ab; obtain ⟨be, bf, bg, bh, bi, bj⟩ := cf3_ ac)); refine bodyPost_ret (results_ct rfl _ _ al 24 #[.string (⟨#[]⟩ : ByteArray), .string (⟨#[]⟩ : ByteArray), .int .i64 0] (0, 0) _ rfl (ps_ ac.out) Tryz.underlying24 rfl (by kernel_rfl)) rfl ?_; exact ⟨tw_, (tb_ HB.out)⟩
  ·
   replace H := ig_ H; rcases H with ⟨aF, H⟩ | ⟨aF, H⟩
   ·
    simp only [Option.some.injEq, Prod.mk.injEq] at H; obtain ⟨rfl, rfl, rfl, rfl⟩ := H; go_enter Tryz.func14, Tryz.ntmps14; go_wp2_with (first | ((with_reducible refine gate_dst (N := 2) rfl ?_); (try (refine gate_guard (by rfl) ?_; dsimp only)); refine be_ 2 #[.string a0_0, .string a0_1, .int .i64 a0_2] 24 ?_; intro aA hg cz ab hb; have aB := gx_ HB hg; have aC := gx_ HB hg; replace HB := bs_ HB hb; clear hb hg) | ((with_reducible refine gate_dst (N := 4) rfl ?_); (try (refine gate_guard (by rfl) ?_; dsimp only)); refine be_ 4 #[.string (⟨#[]⟩ : ByteArray), .string (⟨#[]⟩ : ByteArray), .int .i64 0] 24 ?_; intro al hg cA ac hb; have aD := gx_ HB hg; have aE := gx_ HB hg; replace HB := bs_ HB hb; have af := nl_ ab hg; have ag := ng_ ab hg; replace ab := bb_ ab hb; clear hb hg; have ch := af.out; have ci := ag.out; obtain ⟨bk, bl, bm, bn, bo, bp⟩ := cf3_ ab) | ((with_reducible refine gate_callee (f := 8) rfl ?_); refine gl_ (some 7) Tryz.func8 #[.agg #[.string a0_0, .string a0_1, .int .i64 a0_2]] ?_; (with_reducible refine (impl_StoreOk.calls k a0_0 a0_1 a0_2 true _ ?s1 A3.out).mono ?_); (case s1 => exact GWb.below HG.out (tb_ HB.out)); rintro e cB ⟨rfl, hb⟩; refine ⟨_, rfl, ?_⟩; replace ab := bb_ ab hb; replace ac := bb_ ac hb; replace HB := bs_ HB hb; (try clear hb); obtain ⟨bq, br, bs, bu, bv, bw⟩ := cf3_ ab; obtain ⟨bx, bz, bB, bC, bD, bE⟩ := cf3_ ac)); refine bodyPost_ret (results_ct rfl _ _ al 24 #[.string (⟨#[]⟩ : ByteArray), .string (⟨#[]⟩ : ByteArray), .int .i64 0] (0, 0) _ rfl (ps_ ac.out) Tryz.underlying24 rfl (by kernel_rfl)) rfl ?_; exact ⟨tw_, (tb_ HB.out)⟩
   ·
    replace H := i0_ H; obtain ⟨c21, H⟩ := H; have cj := eq_true c21; have ck : decide (0 ≤ a1) = true := decide_eq_true c21; clear c21; replace H := i0_ H; obtain ⟨c22, H⟩ := H; have cl := eq_true c22; have cm : decide (a1 ≤ (a0_1.size : Int)) = true := decide_eq_true c22; clear c22; simp only [Option.some.injEq, Prod.mk.injEq] at H; obtain ⟨rfl, rfl, rfl, rfl⟩ := H; go_enter Tryz.func14, Tryz.ntmps14; go_wp2_with (first | ((with_reducible refine gate_dst (N := 2) rfl ?_); (try (refine gate_guard (by rfl) ?_; dsimp only)); refine be_ 2 #[.string a0_0, .string a0_1, .int .i64 a0_2] 24 ?_; intro aA hg cC ab hb; have aB := gx_ HB hg; have aC := gx_ HB hg; replace HB := bs_ HB hb; clear hb hg) | ((with_reducible refine gate_dst (N := 4) rfl ?_); (try (refine gate_guard (by rfl) ?_; dsimp only)); refine be_ 4 #[.string (⟨#[]⟩ : ByteArray), .string (⟨#[]⟩ : ByteArray), .int .i64 0] 24 ?_; intro al hg cD ac hb; have aD := gx_ HB hg; have aE := gx_ HB hg; replace HB := bs_ HB hb; have af := nl_ ab hg; have ag := ng_ ab hg; replace ab := bb_ ab hb; clear hb hg; have cn := af.out; have co := ag.out; obtain ⟨bF, bG, bH, bI, bJ, bK⟩ := cf3_ ab) | ((with_reducible refine gate_callee (f := 8) rfl ?_); refine gl_ (some 7) Tryz.func8 #[.agg #[.string a0_0, .string a0_1, .int .i64 a0_2]] ?_; (with_reducible refine (impl_StoreOk.calls k a0_0 a0_1 a0_2 true _ ?s1 A3.out).mono ?_); (case s1 => exact GWb.below HG.out (tb_ HB.out)); rintro e cE ⟨rfl, hb⟩; refine ⟨_, rfl, ?_⟩; replace ab := bb_ ab hb; replace ac := bb_ ac hb; replace HB := bs_ HB hb; (try clear hb); obtain ⟨bL, bM, bN, bO, bP, bQ⟩ := cf3_ ab; obtain ⟨bR, bS, bU, bV, bW, bX⟩ := cf3_ ac)); refine bodyPost_ret (results_ct rfl _ _ al 24 #[.string a0_0, .string (a0_1.extract 0 (a1 : Int).toNat), .int .i64 a0_2] (0, 0) _ rfl (ps_ ac.out) Tryz.underlying24 rfl (by kernel_rfl)) rfl ?_; exact ⟨tw_, (tb_ HB.out)⟩
 ·
  replace c4 := Bool.eq_false_iff.mpr c4; subst c4; replace H : (some ((⟨#[]⟩ : ByteArray), (⟨#[]⟩ : ByteArray), 0, false)) = some (r1, r2, r3, r4) := by rw [if_neg (show ¬ (false = true) by decide)] at H; exact H
  simp only [Option.some.injEq, Prod.mk.injEq] at H; obtain ⟨rfl, rfl, rfl, rfl⟩ := H; go_enter Tryz.func14, Tryz.ntmps14; go_wp2_with (first | ((with_reducible refine gate_dst (N := 2) rfl ?_); (try (refine gate_guard (by rfl) ?_; dsimp only)); refine be_ 2 #[.string a0_0, .string a0_1, .int .i64 a0_2] 24 ?_; intro aA hg cF ab hb; have aB := gx_ HB hg; have aC := gx_ HB hg; replace HB := bs_ HB hb; clear hb hg) | ((with_reducible refine gate_dst (N := 4) rfl ?_); (try (refine gate_guard (by rfl) ?_; dsimp only)); refine be_ 4 #[.string (⟨#[]⟩ : ByteArray), .string (⟨#[]⟩ : ByteArray), .int .i64 0] 24 ?_; intro al hg cG ac hb; have aD := gx_ HB hg; have aE := gx_ HB hg; replace HB := bs_ HB hb; have af := nl_ ab hg; have ag := ng_ ab hg; replace ab := bb_ ab hb; clear hb hg; have cp := af.out; have cq := ag.out; obtain ⟨bZ, b0, b1, b2, b3, b4⟩ := cf3_ ab) | ((with_reducible refine gate_callee (f := 8) rfl ?_); refine gl_ (some 7) Tryz.func8 #[.agg #[.string a0_0, .string a0_1, .int .i64 a0_2]] ?_; (with_reducible refine (impl_StoreOk.calls k a0_0 a0_1 a0_2 false _ ?s1 A3.out).mono ?_); (case s1 => exact GWb.below HG.out (tb_ HB.out)); rintro e cH ⟨rfl, hb⟩; refine ⟨_, rfl, ?_⟩; replace ab := bb_ ab hb; replace ac := bb_ ac hb; replace HB := bs_ HB hb; (try clear hb); obtain ⟨b5, b6, b7, b8, b9, ca⟩ := cf3_ ac)); refine bodyPost_ret (results_ct rfl _ _ al 24 #[.string (⟨#[]⟩ : ByteArray), .string (⟨#[]⟩ : ByteArray), .int .i64 0] (0, 0) _ rfl (ps_ ac.out) Tryz.underlying24 rfl (by kernel_rfl)) rfl ?_; exact ⟨tw_, (tb_ HB.out)⟩

/-! ### spec_l1In: function 27 -/
def spec_l1In.f (a0 : Int) (a1 : Int) (a2 : Int) : Option (Bool) := if a0 ≥ a1 then (some (decide (a0 ≤ a2))) else (some false)
theorem spec_l1In.calls (a0 : Int) (a1 : Int) (a2 : Int) (r : Bool) (w : World) (h : spec_l1In.f a0 a1 a2 = some r) :
  Calls Tryz.prog 27 #[.int .i64 a0, .int .i64 a1, .int .i64 a2] w fun e w' => e = .returned (.bool r) ∧ Drawn0 w w' := by
 have H : (if a0 ≥ a1 then (some (decide (a0 ≤ a2))) else (some false)) = some r := h; clear h; replace H := ih_ H; rcases H with ⟨ax, H⟩ | ⟨ax, H⟩
 ·
  obtain rfl := Option.some.inj H; go_enter Tryz.func27, Tryz.ntmps27; go_wp2; go_ret; exact ⟨tx_, dz_⟩
 ·
  obtain rfl := Option.some.inj H; go_enter Tryz.func27, Tryz.ntmps27; go_wp2; go_ret; exact ⟨tx_, dz_⟩

/-! ### spec_UrnOk: function 75 -/
def spec_UrnOk.l0 : Nat → List Int → Int → Option (Bool)
 | 0, _, _ => none
 | k + 1, x0, x3 => if x3 < (x0.length : Int) then (if 0 ≤ x3 then ((spec_l1In.f (rd x0 x3) 0 40).bind fun aN => (if aN = true then (spec_UrnOk.l0 k x0 (wrap64 (x3 + 1))) else (some false))) else (none)) else ((spec_l1In.f (x0.length : Int) 1 3).bind fun aO => (some aO))
def spec_UrnOk.f (k : Nat) (l0 : List Int) : Option (Bool) := spec_UrnOk.l0 k l0 0
theorem spec_UrnOk.mono_l : ∀ k, (∀ y0 y1, LeO (spec_UrnOk.l0 k y0 y1) (spec_UrnOk.l0 (k + 1) y0 y1))
 | 0 => fun _ _ r h => by simp [spec_UrnOk.l0] at h
 | k + 1 => by
  have ih0 := spec_UrnOk.mono_l k
  ·
   intro y0 y1
   unfold spec_UrnOk.l0
   repeat' (with_reducible first | exact ih0 _ _ | exact mr_ | exact mn_ | refine mi_ ?_ ?_ | refine mb_ ?_ (fun _ => ?_))
theorem spec_UrnOk.mono : ∀ a0 k, LeO (spec_UrnOk.f k a0) (spec_UrnOk.f (k + 1) a0) := by
 intro a0 k; have ih0 := spec_UrnOk.mono_l k; unfold spec_UrnOk.f; repeat' (with_reducible first | exact ih0 _ _ | exact mr_ | exact mn_ | refine mi_ ?_ ?_ | refine mb_ ?_ (fun _ => ?_))
theorem spec_UrnOk.calls (k : Nat) (A0 : Option Addr) (c0 : Nat) (l0 : List Int) (r : Bool) (w : World) (hr0 : Kd.C (Kd.int .i64) w A0 l0.length l0) (hc0 : l0.length ≤ c0) (h : spec_UrnOk.f k l0 = some r) :
  Calls Tryz.prog 75 #[.slice A0 l0.length c0] w fun e w' => e = .returned (.bool r) ∧ Drawn0 w w' := by
 have HR0 := A_ hr0; have HC0 := A_ hc0; clear hr0 hc0; have H : (spec_UrnOk.l0 k l0 0) = some r := h; clear h; have H' := A_ H; clear H; go_enter Tryz.func75, Tryz.ntmps75; go_wp2
 go_loopg [3] k (fun kq v3 w' => ∃ (ae : Int), v3 = .int .i64 ae ∧ Aside0 (spec_UrnOk.l0 kq l0 ae = some r) ∧ Aside0 (kq ≤ k) ∧ Drawn0 w w')
 case atStart => exact ⟨(0), tx_, H', ⟨Nat.le_refl _⟩, dz_⟩
 case round =>
  clear H'; obtain ⟨ae, rfl, HA, HK1, ⟨m1, rfl⟩⟩ := hrel
  cases gk with
  | zero => exact absurd HA.out (by simp [spec_UrnOk.l0])
  | succ k1 =>
   have H := HA.out; clear HA; simp only [spec_UrnOk.l0] at H; replace H := it_ H; rcases H with ⟨aP, H⟩ | ⟨aP, H⟩
   ·
    replace H := in_ H; obtain ⟨ay, H⟩ := H; obtain ⟨aN, A4, H⟩ := bnd_ H; (try dsimp only at H); by_cases c5 : aN = true
    ·
     subst c5; replace H : (spec_UrnOk.l0 k1 l0 (wrap64 (ae + 1))) = some r := by rw [if_pos rfl] at H; exact H
     have H' := A_ H; clear H; obtain ⟨p218, q218, ad218, e218, aI⟩ := a2_ (Kd.at_int HR0.out ae); cases e218; go_wp2_with (first | ((with_reducible refine gate_callee (f := 27) rfl ?_); refine gl_ (some 14) Tryz.func27 #[.int .i64 (rd l0 ae), .int .i64 0, .int .i64 40] ?_; (with_reducible refine (spec_l1In.calls (rd l0 ae) 0 40 true _ A4.out).mono ?_); rintro e w' ⟨rfl, ⟨nd, rfl⟩⟩; refine ⟨_, rfl, ?_⟩))
     go_roundg k1
     case measure => have := HK1.out; omega
     case rel => exact ⟨(wrap64 (ae + 1)), tx_, H', ⟨by have := HK1.out; omega⟩, dz_⟩
    ·
     replace c5 := Bool.eq_false_iff.mpr c5; subst c5; replace H : (some false) = some r := by rw [if_neg (show ¬ (false = true) by decide)] at H; exact H
     obtain rfl := Option.some.inj H; obtain ⟨p218, q218, ad218, e218, aI⟩ := a2_ (Kd.at_int HR0.out ae); cases e218; go_wp2_with (first | ((with_reducible refine gate_callee (f := 27) rfl ?_); refine gl_ (some 14) Tryz.func27 #[.int .i64 (rd l0 ae), .int .i64 0, .int .i64 40] ?_; (with_reducible refine (spec_l1In.calls (rd l0 ae) 0 40 false _ A4.out).mono ?_); rintro e w' ⟨rfl, ⟨nd, rfl⟩⟩; refine ⟨_, rfl, ?_⟩)); go_ret; exact ⟨tx_, dz_⟩
   ·
    obtain ⟨aO, A6, H⟩ := bnd_ H; (try dsimp only at H); obtain rfl := Option.some.inj H; go_wp2_with (first | ((with_reducible refine gate_callee (f := 27) rfl ?_); refine gl_ (some 18) Tryz.func27 #[.int .i64 (l0.length : Int), .int .i64 1, .int .i64 3] ?_; (with_reducible refine (spec_l1In.calls (l0.length : Int) 1 3 aO _ A6.out).mono ?_); rintro e w' ⟨rfl, ⟨nd, rfl⟩⟩; refine ⟨_, rfl, ?_⟩)); go_ret; exact ⟨tx_, dz_⟩

/-! ### spec_StartOk: function 56 -/
def spec_StartOk.l0 : Nat → List Int → Int → Option (Bool)
 | 0, _, _ => none
 | k + 1, x0, x3 => if x3 < (x0.length : Int) then (if 0 ≤ x3 then (if (rd x0 x3) > 10 then (some false) else (spec_StartOk.l0 k x0 (wrap64 (x3 + 1)))) else (none)) else ((spec_UrnOk.f k x0).bind fun aQ => (some aQ))
def spec_StartOk.f (k : Nat) (l0 : List Int) : Option (Bool) := spec_StartOk.l0 k l0 0
theorem spec_StartOk.mono_l : ∀ k, (∀ y0 y1, LeO (spec_StartOk.l0 k y0 y1) (spec_StartOk.l0 (k + 1) y0 y1))
 | 0 => fun _ _ r h => by simp [spec_StartOk.l0] at h
 | k + 1 => by
  have ih0 := spec_StartOk.mono_l k
  ·
   intro y0 y1
   unfold spec_StartOk.l0
   repeat' (with_reducible first | exact ih0 _ _ | exact spec_UrnOk.mono _ _ | exact mr_ | exact mn_ | refine mi_ ?_ ?_ | refine mb_ ?_ (fun _ => ?_))
theorem spec_StartOk.mono : ∀ a0 k, LeO (spec_StartOk.f k a0) (spec_StartOk.f (k + 1) a0) := by
 intro a0 k; have ih0 := spec_StartOk.mono_l k; unfold spec_StartOk.f; repeat' (with_reducible first | exact ih0 _ _ | exact spec_UrnOk.mono _ _ | exact mr_ | exact mn_ | refine mi_ ?_ ?_ | refine mb_ ?_ (fun _ => ?_))
theorem spec_StartOk.calls (k : Nat) (A0 : Option Addr) (c0 : Nat) (l0 : List Int) (r : Bool) (w : World) (hr0 : Kd.C (Kd.int .i64) w A0 l0.length l0) (hc0 : l0.length ≤ c0) (h : spec_StartOk.f k l0 = some r) :
  Calls Tryz.prog 56 #[.slice A0 l0.length c0] w fun e w' => e = .returned (.bool r) ∧ Drawn0 w w' := by
 have HR0 := A_ hr0; have HC0 := A_ hc0; clear hr0 hc0; have H : (spec_StartOk.l0 k l0 0) = some r := h; clear h; have H' := A_ H; clear H; go_enter Tryz.func56, Tryz.ntmps56; go_wp2
 go_loopg [3] k (fun kq v3 w' => ∃ (ae : Int), v3 = .int .i64 ae ∧ Aside0 (spec_StartOk.l0 kq l0 ae = some r) ∧ Aside0 (kq ≤ k) ∧ Drawn0 w w')
 case atStart => exact ⟨(0), tx_, H', ⟨Nat.le_refl _⟩, dz_⟩
 case round =>
  clear H'; obtain ⟨ae, rfl, HA, HK1, ⟨m1, rfl⟩⟩ := hrel
  cases gk with
  | zero => exact absurd HA.out (by simp [spec_StartOk.l0])
  | succ k1 =>
   have H := HA.out; clear HA; simp only [spec_StartOk.l0] at H; replace H := it_ H; rcases H with ⟨aP, H⟩ | ⟨aP, H⟩
   ·
    replace H := in_ H; obtain ⟨ay, H⟩ := H; replace H := ig_ H; rcases H with ⟨ax, H⟩ | ⟨ax, H⟩
    ·
     obtain rfl := Option.some.inj H; obtain ⟨p221, q221, ad221, e221, aJ⟩ := a2_ (Kd.at_int HR0.out ae); cases e221; go_wp2; go_ret; exact ⟨tx_, dz_⟩
    ·
     have H' := A_ H; clear H; obtain ⟨p221, q221, ad221, e221, aJ⟩ := a2_ (Kd.at_int HR0.out ae); cases e221; go_wp2
     go_roundg k1
     case measure => have := HK1.out; omega
     case rel => exact ⟨(wrap64 (ae + 1)), tx_, H', ⟨by have := HK1.out; omega⟩, dz_⟩
   ·
    obtain ⟨aQ, A5, H⟩ := bnd_ H; (try dsimp only at H); obtain rfl := Option.some.inj H; go_wp2_with (first | ((with_reducible refine gate_callee (f := 75) rfl ?_); refine gl_ (some 16) Tryz.func75 #[.slice A0 l0.length c0] ?_; (with_reducible refine (spec_UrnOk.calls k1 _ _ l0 aQ _ ?s1 ?s2 A5.out).mono ?_); (case s1 => exact td_); (case s2 => exact HC0.out); rintro e w' ⟨rfl, ⟨nd, rfl⟩⟩; refine ⟨_, rfl, ?_⟩)); go_ret; exact ⟨tx_, dz_⟩

/-! ### spec_RuleOk: function 76 -/
mutual
def spec_RuleOk.l0 : Nat → Int → List (List Int) → Int → Option (Bool)
 | 0, _, _, _ => none
 | k + 1, x0, x1, x5 => if x5 < (x1.length : Int) then (if 0 ≤ x5 then (if ((rd_L1 x1 x5).length : Int) = x0 then (spec_RuleOk.l1 k x0 x1 x5 0) else (some false)) else (none)) else ((spec_l1In.f x0 1 3).bind fun aR => (if aR = true then (some ((x1.length : Int) == x0)) else (some false)))
def spec_RuleOk.l1 : Nat → Int → List (List Int) → Int → Int → Option (Bool)
 | 0, _, _, _, _ => none
 | k + 1, x0, x1, x5, x6 => if x6 < x0 then (if 0 ≤ x5 then (if x5 < (x1.length : Int) then (if 0 ≤ x6 then (if x6 < ((rd_L1 x1 x5).length : Int) then ((spec_l1In.f (rd (rd_L1 x1 x5) x6) 0 3).bind fun aU => (if aU = true then (spec_RuleOk.l1 k x0 x1 x5 (wrap64 (x6 + 1))) else (if (rd (rd_L1 x1 x5) x6) = (-1) then (if x6 = x5 then (spec_RuleOk.l1 k x0 x1 x5 (wrap64 (x6 + 1))) else (some false)) else (some false)))) else (none)) else (none)) else (none)) else (none)) else (spec_RuleOk.l0 k x0 x1 (wrap64 (x5 + 1)))
end
def spec_RuleOk.f (k : Nat) (a0 : Int) (l1 : List (List Int)) : Option (Bool) := spec_RuleOk.l0 k a0 l1 0
theorem spec_RuleOk.mono_l : ∀ k, (∀ y0 y1 y2, LeO (spec_RuleOk.l0 k y0 y1 y2) (spec_RuleOk.l0 (k + 1) y0 y1 y2)) ∧ (∀ y0 y1 y2 y3, LeO (spec_RuleOk.l1 k y0 y1 y2 y3) (spec_RuleOk.l1 (k + 1) y0 y1 y2 y3))
 | 0 => ⟨fun _ _ _ r h => by simp [spec_RuleOk.l0] at h, fun _ _ _ _ r h => by simp [spec_RuleOk.l1] at h⟩
 | k + 1 => by
  obtain ⟨ih0, ih1⟩ := spec_RuleOk.mono_l k
  refine ⟨?_, ?_⟩
  ·
   intro y0 y1 y2
   unfold spec_RuleOk.l0
   repeat' (with_reducible first | exact ih0 _ _ _ | exact ih1 _ _ _ _ | exact mr_ | exact mn_ | refine mi_ ?_ ?_ | refine mb_ ?_ (fun _ => ?_))
  ·
   intro y0 y1 y2 y3
   unfold spec_RuleOk.l1
   repeat' (with_reducible first | exact ih0 _ _ _ | exact ih1 _ _ _ _ | exact mr_ | exact mn_ | refine mi_ ?_ ?_ | refine mb_ ?_ (fun _ => ?_))
theorem spec_RuleOk.mono : ∀ a0 a1 k, LeO (spec_RuleOk.f k a0 a1) (spec_RuleOk.f (k + 1) a0 a1) := by
 intro a0 a1 k; obtain ⟨ih0, ih1⟩ := spec_RuleOk.mono_l k; unfold spec_RuleOk.f; repeat' (with_reducible first | exact ih0 _ _ _ | exact ih1 _ _ _ _ | exact mr_ | exact mn_ | refine mi_ ?_ ?_ | refine mb_ ?_ (fun _ => ?_))
theorem spec_RuleOk.calls (k : Nat) (a0 : Int) (A1 : Option Addr) (c1 : Nat) (l1 : List (List Int)) (r : Bool) (w : World) (hr1 : Kd.C (Kd.slice 3 (Kd.int .i64)) w A1 l1.length l1) (hc1 : l1.length ≤ c1) (h : spec_RuleOk.f k a0 l1 = some r) :
  Calls Tryz.prog 76 #[.int .i64 a0, .slice A1 l1.length c1] w fun e w' => e = .returned (.bool r) ∧ Drawn0 w w' := by
 have HR1 := A_ hr1; have HC1 := A_ hc1; clear hr1 hc1; have H : (spec_RuleOk.l0 k a0 l1 0) = some r := h; clear h; have H' := A_ H; clear H; go_enter Tryz.func76, Tryz.ntmps76; go_wp2
 go_loopg [5] k (fun kq v5 w' => ∃ (aa : Int), v5 = .int .i64 aa ∧ Aside0 (spec_RuleOk.l0 kq a0 l1 aa = some r) ∧ Aside0 (kq ≤ k) ∧ Drawn0 w w')
 case atStart => exact ⟨(0), tx_, H', ⟨Nat.le_refl _⟩, dz_⟩
 case round =>
  clear H'; obtain ⟨aa, rfl, HA, HK1, ⟨m1, rfl⟩⟩ := hrel
  cases gk with
  | zero => exact absurd HA.out (by simp [spec_RuleOk.l0])
  | succ k1 =>
   have H := HA.out; clear HA; simp only [spec_RuleOk.l0] at H; replace H := it_ H; rcases H with ⟨ay, H⟩ | ⟨ay, H⟩
   ·
    replace H := in_ H; obtain ⟨ax, H⟩ := H; by_cases c5 : ((rd_L1 l1 aa).length : Int) = a0
    ·
     rw [if_pos c5] at H; have aw : (((rd_L1 l1 aa).length : Int) == a0) = true := beq_iff_eq.mpr c5; have aZ : (((rd_L1 l1 aa).length : Int) != a0) = false := bne_eq_false_iff_eq.mpr c5; clear c5; have H' := A_ H; clear H; obtain ⟨p224, q224, ad224, aV, aW, e224, aq, hl224_0, hi224_0⟩ := a2_ (at_L1 HR1.out aa); cases e224; have aK := A_ hi224_0; have aL := A_ hl224_0; clear hi224_0 hl224_0; go_wp2
     go_loopg [6] k1 (fun kq v6 w' => ∃ (ad : Int), v6 = .int .i64 ad ∧ Aside0 (spec_RuleOk.l1 kq a0 l1 aa ad = some r) ∧ Aside0 (kq ≤ k1) ∧ Drawn0 w w')
     case atStart => exact ⟨(0), tx_, H', ⟨Nat.le_refl _⟩, dz_⟩
     case round =>
      clear H'; (try clear c3); (try clear ay); (try clear c4); (try clear ax); (try clear c5); (try clear aw); (try clear aZ); (try clear aq); (try clear p224); (try clear q224); obtain ⟨ad, rfl, HA, HK2, ⟨m2, rfl⟩⟩ := hrel
      cases gk with
      | zero => exact absurd HA.out (by simp [spec_RuleOk.l1])
      | succ k2 =>
       have H := HA.out; clear HA; simp only [spec_RuleOk.l1] at H; replace H := it_ H; rcases H with ⟨aX, H⟩ | ⟨aX, H⟩
       ·
        replace H := in_ H; obtain ⟨cv, H⟩ := H; replace H := in_ H; obtain ⟨cw, H⟩ := H; replace H := in_ H; obtain ⟨cx, H⟩ := H; replace H := in_ H; obtain ⟨cr, H⟩ := H; obtain ⟨aU, A11, H⟩ := bnd_ H; (try dsimp only at H); by_cases c12 : aU = true
        ·
         subst c12; replace H : (spec_RuleOk.l1 k2 a0 l1 aa (wrap64 (ad + 1))) = some r := by rw [if_pos rfl] at H; exact H
         have H' := A_ H; clear H; have p225 : 0 ≤ (aa : Int) := od_; have q225 : aa < (l1.length : Int) := od_; obtain ⟨ad225, ao, ap, e225, ai, hl225_0, hi225_0⟩ := at_L1 HR1.out aa p225 q225; obtain rfl : ad224 = ad225 := (by injection e225)
         have ah := A_ hi225_0; have am := A_ hl225_0; clear hi225_0 hl225_0; replace p225 := eq_true p225; replace q225 := eq_true q225; obtain ⟨p226, q226, ad226, e226, an⟩ := a2_ (Kd.at_int ah.out ad); cases e226; go_wp2_with (first | ((with_reducible refine gate_callee (f := 27) rfl ?_); refine gl_ (some 32) Tryz.func27 #[.int .i64 (rd (rd_L1 l1 aa) ad), .int .i64 0, .int .i64 3] ?_; (with_reducible refine (spec_l1In.calls (rd (rd_L1 l1 aa) ad) 0 3 true _ A11.out).mono ?_); rintro e w' ⟨rfl, ⟨nd, rfl⟩⟩; refine ⟨_, rfl, ?_⟩))
         go_roundg k2
         case measure => have := HK1.out; have := HK2.out; omega
         case rel => exact ⟨(wrap64 (ad + 1)), tx_, H', ⟨by have := HK1.out; have := HK2.out; omega⟩, dz_⟩
        ·
         replace c12 := Bool.eq_false_iff.mpr c12; subst c12; replace H : (if (rd (rd_L1 l1 aa) ad) = (-1) then (if ad = aa then (spec_RuleOk.l1 k2 a0 l1 aa (wrap64 (ad + 1))) else (some false)) else (some false)) = some r := by rw [if_neg (show ¬ (false = true) by decide)] at H; exact H
         by_cases c13 : (rd (rd_L1 l1 aa) ad) = (-1)
         ·
          rw [if_pos c13] at H; have aF : ((rd (rd_L1 l1 aa) ad) == (-1)) = true := beq_iff_eq.mpr c13; have a4 : ((rd (rd_L1 l1 aa) ad) != (-1)) = false := bne_eq_false_iff_eq.mpr c13; clear c13; by_cases c14 : ad = aa
          ·
           rw [if_pos c14] at H; have a5 : (ad == aa) = true := beq_iff_eq.mpr c14; have a6 : (ad != aa) = false := bne_eq_false_iff_eq.mpr c14; clear c14; have H' := A_ H; clear H; have p225 : 0 ≤ (aa : Int) := od_; have q225 : aa < (l1.length : Int) := od_; obtain ⟨ad225, ao, ap, e225, ai, hl225_0, hi225_0⟩ := at_L1 HR1.out aa p225 q225; obtain rfl : ad224 = ad225 := (by injection e225)
           have ah := A_ hi225_0; have am := A_ hl225_0; clear hi225_0 hl225_0; replace p225 := eq_true p225; replace q225 := eq_true q225; obtain ⟨p226, q226, ad226, e226, an⟩ := a2_ (Kd.at_int ah.out ad); cases e226; go_wp2_with (first | ((with_reducible refine gate_callee (f := 27) rfl ?_); refine gl_ (some 32) Tryz.func27 #[.int .i64 (rd (rd_L1 l1 aa) ad), .int .i64 0, .int .i64 3] ?_; (with_reducible refine (spec_l1In.calls (rd (rd_L1 l1 aa) ad) 0 3 false _ A11.out).mono ?_); rintro e w' ⟨rfl, ⟨nd, rfl⟩⟩; refine ⟨_, rfl, ?_⟩; have p228 : 0 ≤ (aa : Int) := od_; have q228 : aa < (l1.length : Int) := od_; obtain ⟨ad228, aG, aH, e228, aj, hl228_0, hi228_0⟩ := at_L1 HR1.out aa p228 q228; obtain rfl : ad224 = ad228 := (by injection e228); have ak := A_ hi228_0; have ar := A_ hl228_0; clear hi228_0 hl228_0; replace p228 := eq_true p228; replace q228 := eq_true q228; have ea_ := Option.some.inj (ai.symm.trans aj); injection ea_ with ea_ en_ ec_; subst ea_; subst ec_; clear en_; obtain ⟨p229, q229, ad229, e229, au⟩ := a2_ (Kd.at_int ak.out ad); cases e229))
           go_roundg k2
           case measure => have := HK1.out; have := HK2.out; omega
           case rel => exact ⟨(wrap64 (ad + 1)), tx_, H', ⟨by have := HK1.out; have := HK2.out; omega⟩, dz_⟩
          ·
           rw [if_neg c14] at H; have a5 : (ad == aa) = false := beq_eq_false_iff_ne.mpr c14; have a6 : (ad != aa) = true := bne_iff_ne.mpr c14; obtain rfl := Option.some.inj H; have p225 : 0 ≤ (aa : Int) := od_; have q225 : aa < (l1.length : Int) := od_; obtain ⟨ad225, ao, ap, e225, ai, hl225_0, hi225_0⟩ := at_L1 HR1.out aa p225 q225; obtain rfl : ad224 = ad225 := (by injection e225)
           have ah := A_ hi225_0; have am := A_ hl225_0; clear hi225_0 hl225_0; replace p225 := eq_true p225; replace q225 := eq_true q225; obtain ⟨p226, q226, ad226, e226, an⟩ := a2_ (Kd.at_int ah.out ad); cases e226; go_wp2_with (first | ((with_reducible refine gate_callee (f := 27) rfl ?_); refine gl_ (some 32) Tryz.func27 #[.int .i64 (rd (rd_L1 l1 aa) ad), .int .i64 0, .int .i64 3] ?_; (with_reducible refine (spec_l1In.calls (rd (rd_L1 l1 aa) ad) 0 3 false _ A11.out).mono ?_); rintro e w' ⟨rfl, ⟨nd, rfl⟩⟩; refine ⟨_, rfl, ?_⟩; have p228 : 0 ≤ (aa : Int) := od_; have q228 : aa < (l1.length : Int) := od_; obtain ⟨ad228, aG, aH, e228, aj, hl228_0, hi228_0⟩ := at_L1 HR1.out aa p228 q228; obtain rfl : ad224 = ad228 := (by injection e228); have ak := A_ hi228_0; have ar := A_ hl228_0; clear hi228_0 hl228_0; replace p228 := eq_true p228; replace q228 := eq_true q228; have ea_ := Option.some.inj (ai.symm.trans aj); injection ea_ with ea_ en_ ec_; subst ea_; subst ec_; clear en_; obtain ⟨p229, q229, ad229, e229, au⟩ := a2_ (Kd.at_int ak.out ad); cases e229)); go_ret; exact ⟨tx_, dz_⟩
         ·
          rw [if_neg c13] at H; have aF : ((rd (rd_L1 l1 aa) ad) == (-1)) = false := beq_eq_false_iff_ne.mpr c13; have a4 : ((rd (rd_L1 l1 aa) ad) != (-1)) = true := bne_iff_ne.mpr c13; obtain rfl := Option.some.inj H; have p225 : 0 ≤ (aa : Int) := od_; have q225 : aa < (l1.length : Int) := od_; obtain ⟨ad225, ao, ap, e225, ai, hl225_0, hi225_0⟩ := at_L1 HR1.out aa p225 q225; obtain rfl : ad224 = ad225 := (by injection e225)
          have ah := A_ hi225_0; have am := A_ hl225_0; clear hi225_0 hl225_0; replace p225 := eq_true p225; replace q225 := eq_true q225; obtain ⟨p226, q226, ad226, e226, an⟩ := a2_ (Kd.at_int ah.out ad); cases e226; go_wp2_with (first | ((with_reducible refine gate_callee (f := 27) rfl ?_); refine gl_ (some 32) Tryz.func27 #[.int .i64 (rd (rd_L1 l1 aa) ad), .int .i64 0, .int .i64 3] ?_; (with_reducible refine (spec_l1In.calls (rd (rd_L1 l1 aa) ad) 0 3 false _ A11.out).mono ?_); rintro e w' ⟨rfl, ⟨nd, rfl⟩⟩; refine ⟨_, rfl, ?_⟩; have p228 : 0 ≤ (aa : Int) := od_; have q228 : aa < (l1.length : Int) := od_; obtain ⟨ad228, aG, aH, e228, aj, hl228_0, hi228_0⟩ := at_L1 HR1.out aa p228 q228; obtain rfl : ad224 = ad228 := (by injection e228); have ak := A_ hi228_0; have ar := A_ hl228_0; clear hi228_0 hl228_0; replace p228 := eq_true p228; replace q228 := eq_true q228; have ea_ := Option.some.inj (ai.symm.trans aj); injection ea_ with ea_ en_ ec_; subst ea_; subst ec_; clear en_; obtain ⟨p229, q229, ad229, e229, au⟩ := a2_ (Kd.at_int ak.out ad); cases e229)); go_ret; exact ⟨tx_, dz_⟩
       ·
        have H' := A_ H; clear H; go_wp2
        go_roundg k2
        case measure => have := HK1.out; have := HK2.out; omega
        case rel => exact ⟨(wrap64 (aa + 1)), tx_, H', ⟨by have := HK1.out; have := HK2.out; omega⟩, dz_⟩
    ·
     rw [if_neg c5] at H; have aw : (((rd_L1 l1 aa).length : Int) == a0) = false := beq_eq_false_iff_ne.mpr c5; have aZ : (((rd_L1 l1 aa).length : Int) != a0) = true := bne_iff_ne.mpr c5; obtain rfl := Option.some.inj H; obtain ⟨p224, q224, ad224, aV, aW, e224, aq, hl224_0, hi224_0⟩ := a2_ (at_L1 HR1.out aa); cases e224; have aK := A_ hi224_0; have aL := A_ hl224_0; clear hi224_0 hl224_0; go_wp2; go_ret; exact ⟨tx_, dz_⟩
   ·
    obtain ⟨aR, A15, H⟩ := bnd_ H; (try dsimp only at H); by_cases c16 : aR = true
    ·
     subst c16; replace H : (some ((l1.length : Int) == a0)) = some r := by rw [if_pos rfl] at H; exact H
     obtain rfl := Option.some.inj H; go_wp2_with (first | ((with_reducible refine gate_callee (f := 27) rfl ?_); refine gl_ (some 51) Tryz.func27 #[.int .i64 a0, .int .i64 1, .int .i64 3] ?_; (with_reducible refine (spec_l1In.calls a0 1 3 true _ A15.out).mono ?_); rintro e w' ⟨rfl, ⟨nd, rfl⟩⟩; refine ⟨_, rfl, ?_⟩)); go_ret; exact ⟨tx_, dz_⟩
    ·
     replace c16 := Bool.eq_false_iff.mpr c16; subst c16; replace H : (some false) = some r := by rw [if_neg (show ¬ (false = true) by decide)] at H; exact H
     obtain rfl := Option.some.inj H; go_wp2_with (first | ((with_reducible refine gate_callee (f := 27) rfl ?_); refine gl_ (some 51) Tryz.func27 #[.int .i64 a0, .int .i64 1, .int .i64 3] ?_; (with_reducible refine (spec_l1In.calls a0 1 3 false _ A15.out).mono ?_); rintro e w' ⟨rfl, ⟨nd, rfl⟩⟩; refine ⟨_, rfl, ?_⟩)); go_ret; exact ⟨tx_, dz_⟩

/-! ### spec_WordOk: function 77 -/
def spec_WordOk.l0 : Nat → Int → List Int → Int → Option (Bool)
 | 0, _, _, _ => none
 | k + 1, x0, x1, x5 => if x5 < (x1.length : Int) then (if 0 ≤ x5 then (if (rd x1 x5) < 0 then (some false) else (if (rd x1 x5) ≥ x0 then (some false) else (spec_WordOk.l0 k x0 x1 (wrap64 (x5 + 1))))) else (none)) else ((spec_l1In.f x0 1 3).bind fun aY => (if aY = true then (some (decide ((x1.length : Int) ≤ 6))) else (some false)))
def spec_WordOk.f (k : Nat) (a0 : Int) (l1 : List Int) : Option (Bool) := spec_WordOk.l0 k a0 l1 0
theorem spec_WordOk.mono_l : ∀ k, (∀ y0 y1 y2, LeO (spec_WordOk.l0 k y0 y1 y2) (spec_WordOk.l0 (k + 1) y0 y1 y2))
 | 0 => fun _ _ _ r h => by simp [spec_WordOk.l0] at h
 | k + 1 => by
  have ih0 := spec_WordOk.mono_l k
  ·
   intro y0 y1 y2
   unfold spec_WordOk.l0
   repeat' (with_reducible first | exact ih0 _ _ _ | exact mr_ | exact mn_ | refine mi_ ?_ ?_ | refine mb_ ?_ (fun _ => ?_))
theorem spec_WordOk.mono : ∀ a0 a1 k, LeO (spec_WordOk.f k a0 a1) (spec_WordOk.f (k + 1) a0 a1) := by
 intro a0 a1 k; have ih0 := spec_WordOk.mono_l k; unfold spec_WordOk.f; repeat' (with_reducible first | exact ih0 _ _ _ | exact mr_ | exact mn_ | refine mi_ ?_ ?_ | refine mb_ ?_ (fun _ => ?_))
theorem spec_WordOk.calls (k : Nat) (a0 : Int) (A1 : Option Addr) (c1 : Nat) (l1 : List Int) (r : Bool) (w : World) (hr1 : Kd.C (Kd.int .i64) w A1 l1.length l1) (hc1 : l1.length ≤ c1) (h : spec_WordOk.f k a0 l1 = some r) :
  Calls Tryz.prog 77 #[.int .i64 a0, .slice A1 l1.length c1] w fun e w' => e = .returned (.bool r) ∧ Drawn0 w w' := by
 have HR1 := A_ hr1; have HC1 := A_ hc1; clear hr1 hc1; have H : (spec_WordOk.l0 k a0 l1 0) = some r := h; clear h; have H' := A_ H; clear H; go_enter Tryz.func77, Tryz.ntmps77; go_wp2
 go_loopg [5] k (fun kq v5 w' => ∃ (aa : Int), v5 = .int .i64 aa ∧ Aside0 (spec_WordOk.l0 kq a0 l1 aa = some r) ∧ Aside0 (kq ≤ k) ∧ Drawn0 w w')
 case atStart => exact ⟨(0), tx_, H', ⟨Nat.le_refl _⟩, dz_⟩
 case round =>
  clear H'; obtain ⟨aa, rfl, HA, HK1, ⟨m1, rfl⟩⟩ := hrel
  cases gk with
  | zero => exact absurd HA.out (by simp [spec_WordOk.l0])
  | succ k1 =>
   have H := HA.out; clear HA; simp only [spec_WordOk.l0] at H; replace H := it_ H; rcases H with ⟨ay, H⟩ | ⟨ay, H⟩
   ·
    replace H := in_ H; obtain ⟨ax, H⟩ := H; replace H := it_ H; rcases H with ⟨aw, H⟩ | ⟨aw, H⟩
    ·
     obtain rfl := Option.some.inj H; obtain ⟨p230, q230, ad230, e230, av⟩ := a2_ (Kd.at_int HR1.out aa); cases e230; go_wp2; go_ret; exact ⟨tx_, dz_⟩
    ·
     replace H := ih_ H; rcases H with ⟨aX, H⟩ | ⟨aX, H⟩
     ·
      obtain rfl := Option.some.inj H; obtain ⟨p230, q230, ad230, e230, av⟩ := a2_ (Kd.at_int HR1.out aa); cases e230; have p231 : 0 ≤ (aa : Int) := od_; have q231 : aa < (l1.length : Int) := od_; obtain ⟨ad231, e231, aM⟩ := Kd.at_int HR1.out aa p231 q231; obtain rfl : ad230 = ad231 := (by injection e231)
      replace p231 := eq_true p231; replace q231 := eq_true q231; go_wp2; go_ret; exact ⟨tx_, dz_⟩
     ·
      have H' := A_ H; clear H; obtain ⟨p230, q230, ad230, e230, av⟩ := a2_ (Kd.at_int HR1.out aa); cases e230; have p231 : 0 ≤ (aa : Int) := od_; have q231 : aa < (l1.length : Int) := od_; obtain ⟨ad231, e231, aM⟩ := Kd.at_int HR1.out aa p231 q231; obtain rfl : ad230 = ad231 := (by injection e231)
      replace p231 := eq_true p231; replace q231 := eq_true q231; go_wp2
      go_roundg k1
      case measure => have := HK1.out; omega
      case rel => exact ⟨(wrap64 (aa + 1)), tx_, H', ⟨by have := HK1.out; omega⟩, dz_⟩
   ·
    obtain ⟨aY, A7, H⟩ := bnd_ H; (try dsimp only at H); by_cases c8 : aY = true
    ·
     subst c8; replace H : (some (decide ((l1.length : Int) ≤ 6))) = some r := by rw [if_pos rfl] at H; exact H
     obtain rfl := Option.some.inj H; go_wp2_with (first | ((with_reducible refine gate_callee (f := 27) rfl ?_); refine gl_ (some 26) Tryz.func27 #[.int .i64 a0, .int .i64 1, .int .i64 3] ?_; (with_reducible refine (spec_l1In.calls a0 1 3 true _ A7.out).mono ?_); rintro e w' ⟨rfl, ⟨nd, rfl⟩⟩; refine ⟨_, rfl, ?_⟩)); go_ret; exact ⟨tx_, dz_⟩
    ·
     replace c8 := Bool.eq_false_iff.mpr c8; subst c8; replace H : (some false) = some r := by rw [if_neg (show ¬ (false = true) by decide)] at H; exact H
     obtain rfl := Option.some.inj H; go_wp2_with (first | ((with_reducible refine gate_callee (f := 27) rfl ?_); refine gl_ (some 26) Tryz.func27 #[.int .i64 a0, .int .i64 1, .int .i64 3] ?_; (with_reducible refine (spec_l1In.calls a0 1 3 false _ A7.out).mono ?_); rintro e w' ⟨rfl, ⟨nd, rfl⟩⟩; refine ⟨_, rfl, ?_⟩)); go_ret; exact ⟨tx_, dz_⟩

end Go.Proofs.YtmcibffagofkjaaGreatDoor.MFnStoreCrash
