/- For the law FnStoreSync: walks of the functions that it reaches: each call returns what the plain function beside it tells. The conditions stand in each statement. -/
import Derived.Test.YtmcibffagofkjaaGreatDoorV
import Derived.Test.YtmcibffagofkjaaGreatDoorMFnStoreSyncx0
namespace Go.Proofs.YtmcibffagofkjaaGreatDoor.MFnStoreSync
open Go.RowKit Go.Proofs.YtmcibffagofkjaaGreatDoorW.PrintWords Go.Proofs.YtmcibffagofkjaaGreatDoorW.PrintLast Go.Proofs.YtmcibffagofkjaaGreatDoorW.PrintMore
attribute [local go_sem] max2_int min2_int max_two min_two max_three min_three max_four min_four   -- for this text's walks alone
set_option linter.unusedVariables false
set_option linter.unusedSimpArgs false
set_option maxHeartbeats 8000000
set_option maxRecDepth 100000

/-! ### impl_coloursOk: function 48 -/
def impl_coloursOk.f (a0 : Int) : Option (Bool) := if a0 ≥ 1 then (some (decide (a0 ≤ 3))) else (some false)
theorem impl_coloursOk.calls (a0 : Int) (r : Bool) (w : World) (h : impl_coloursOk.f a0 = some r) :
  Calls Tryz.prog 48 #[.int .i64 a0] w fun e w' => e = .returned (.bool r) ∧ Drawn0 w w' := by
 have H : (if a0 ≥ 1 then (some (decide (a0 ≤ 3))) else (some false)) = some r := h; clear h; replace H := ih_ H; rcases H with ⟨am, H⟩ | ⟨am, H⟩
 ·
  obtain rfl := Option.some.inj H; go_enter Tryz.func48, Tryz.ntmps48; go_wp2; go_ret; exact ⟨tx_, dz_⟩
 ·
  obtain rfl := Option.some.inj H; go_enter Tryz.func48, Tryz.ntmps48; go_wp2; go_ret; exact ⟨tx_, dz_⟩

/-! ### impl_UrnOk: function 28 -/
def impl_UrnOk.l0 : Nat → List Int → List Int → Int → Int → Option (Bool)
 | 0, _, _, _, _ => none
 | k + 1, x0, x5, x6, x7 => if x7 < x6 then (if 0 ≤ x7 then (if x7 < (x5.length : Int) then (if (rd x5 x7) < 0 then (some false) else (if (rd x5 x7) > 40 then (some false) else (impl_UrnOk.l0 k x0 x5 x6 (wrap64 (x7 + 1))))) else (none)) else (none)) else ((impl_coloursOk.f (x0.length : Int)).bind fun aL => (some aL))
def impl_UrnOk.f (k : Nat) (l0 : List Int) : Option (Bool) := impl_UrnOk.l0 k l0 l0 (l0.length : Int) 0
theorem impl_UrnOk.mono_l : ∀ k, (∀ y0 y1 y2 y3, LeO (impl_UrnOk.l0 k y0 y1 y2 y3) (impl_UrnOk.l0 (k + 1) y0 y1 y2 y3))
 | 0 => fun _ _ _ _ r h => by simp [impl_UrnOk.l0] at h
 | k + 1 => by
  have ih0 := impl_UrnOk.mono_l k
  ·
   intro y0 y1 y2 y3
   unfold impl_UrnOk.l0
   repeat' (with_reducible first | exact ih0 _ _ _ _ | exact mr_ | exact mn_ | refine mi_ ?_ ?_ | refine mb_ ?_ (fun _ => ?_))
theorem impl_UrnOk.mono : ∀ a0 k, LeO (impl_UrnOk.f k a0) (impl_UrnOk.f (k + 1) a0) := by
 intro a0 k; have ih0 := impl_UrnOk.mono_l k; unfold impl_UrnOk.f; repeat' (with_reducible first | exact ih0 _ _ _ _ | exact mr_ | exact mn_ | refine mi_ ?_ ?_ | refine mb_ ?_ (fun _ => ?_))
theorem impl_UrnOk.calls (k : Nat) (A0 : Option Addr) (c0 : Nat) (l0 : List Int) (r : Bool) (w : World) (hr0 : Kd.C (Kd.int .i64) w A0 l0.length l0) (hc0 : l0.length ≤ c0) (h : impl_UrnOk.f k l0 = some r) :
  Calls Tryz.prog 28 #[.slice A0 l0.length c0] w fun e w' => e = .returned (.bool r) ∧ Drawn0 w w' := by
 have HR0 := A_ hr0; have HC0 := A_ hc0; clear hr0 hc0; have H : (impl_UrnOk.l0 k l0 l0 (l0.length : Int) 0) = some r := h; clear h; have H' := A_ H; clear H; go_enter Tryz.func28, Tryz.ntmps28; go_wp2
 go_loopg [7] k (fun kq v7 w' => ∃ (ad : Int), v7 = .int .i64 ad ∧ Aside0 (impl_UrnOk.l0 kq l0 l0 (l0.length : Int) ad = some r) ∧ Aside0 (kq ≤ k) ∧ Drawn0 w w')
 case atStart => exact ⟨(0), tx_, H', ⟨Nat.le_refl _⟩, dz_⟩
 case round =>
  clear H'; obtain ⟨ad, rfl, HA, HK1, ⟨m1, rfl⟩⟩ := hrel
  cases gk with
  | zero => exact absurd HA.out (by simp [impl_UrnOk.l0])
  | succ k1 =>
   have H := HA.out; clear HA; simp only [impl_UrnOk.l0] at H; replace H := it_ H; rcases H with ⟨am, H⟩ | ⟨am, H⟩
   ·
    replace H := in_ H; obtain ⟨ay, H⟩ := H; replace H := in_ H; obtain ⟨ax, H⟩ := H; replace H := it_ H; rcases H with ⟨aF, H⟩ | ⟨aF, H⟩
    ·
     obtain rfl := Option.some.inj H; obtain ⟨p101, q101, ad101, e101, aq⟩ := a2_ (Kd.at_int HR0.out ad); cases e101; go_wp2; go_ret; exact ⟨tx_, dz_⟩
    ·
     replace H := ig_ H; rcases H with ⟨aM, H⟩ | ⟨aM, H⟩
     ·
      obtain rfl := Option.some.inj H; obtain ⟨p101, q101, ad101, e101, aq⟩ := a2_ (Kd.at_int HR0.out ad); cases e101; go_wp2; go_ret; exact ⟨tx_, dz_⟩
     ·
      have H' := A_ H; clear H; obtain ⟨p101, q101, ad101, e101, aq⟩ := a2_ (Kd.at_int HR0.out ad); cases e101; go_wp2
      go_roundg k1
      case measure => have := HK1.out; omega
      case rel => exact ⟨(wrap64 (ad + 1)), tx_, H', ⟨by have := HK1.out; omega⟩, dz_⟩
   ·
    obtain ⟨aL, A7, H⟩ := bnd_ H; (try dsimp only at H); obtain rfl := Option.some.inj H; go_wp2_with (first | ((with_reducible refine gate_callee (f := 48) rfl ?_); refine gl_ (some 20) Tryz.func48 #[.int .i64 (l0.length : Int)] ?_; (with_reducible refine (impl_coloursOk.calls (l0.length : Int) aL _ A7.out).mono ?_); rintro e w' ⟨rfl, ⟨nd, rfl⟩⟩; refine ⟨_, rfl, ?_⟩)); go_ret; exact ⟨tx_, dz_⟩

/-! ### laws_alive: function 10 -/
def laws_alive.f (k : Nat)  : Option (Bool) := (impl_UrnOk.f k (([1] : List Int))).bind fun an => (if an = true then ((impl_UrnOk.f k (([] : List Int))).bind fun aj => (some (!aj))) else (some false))
theorem laws_alive.mono : ∀ k, LeO (laws_alive.f k ) (laws_alive.f (k + 1) ) := by
 intro  k; unfold laws_alive.f; repeat' (with_reducible first | exact impl_UrnOk.mono _ _ | exact mr_ | exact mn_ | refine mi_ ?_ ?_ | refine mb_ ?_ (fun _ => ?_))
theorem laws_alive.calls (k : Nat)  (r : Bool) (w : World) (h : laws_alive.f k  = some r) :
  Calls Tryz.prog 10 #[] w fun e w' => e = .returned (.bool r) ∧ Below w.heap.size w w' := by
 have HB := A_ (Below.refl w.heap.size w); have H : ((impl_UrnOk.f k (([1] : List Int))).bind fun an => (if an = true then ((impl_UrnOk.f k (([] : List Int))).bind fun aj => (some (!aj))) else (some false))) = some r := h; clear h; obtain ⟨az, aA⟩ : ∃ y_ : List Int, y_ = (([1] : List Int)) := ⟨_, rfl⟩
 replace H : ((impl_UrnOk.f k az).bind fun an => (if an = true then ((impl_UrnOk.f k (([] : List Int))).bind fun aj => (some (!aj))) else (some false))) = some r := yq_ aA H; have ar := A_ aA; clear aA; obtain ⟨an, A1, H⟩ := bnd_ H; (try dsimp only at H); by_cases c2 : an = true
 ·
  subst c2; replace H : ((impl_UrnOk.f k (([] : List Int))).bind fun aj => (some (!aj))) = some r := by rw [if_pos rfl] at H; exact H
  obtain ⟨aW, aB⟩ : ∃ y_ : List Int, y_ = (([] : List Int)) := ⟨_, rfl⟩
  replace H : ((impl_UrnOk.f k aW).bind fun aj => (some (!aj))) = some r := yq_ aB H; have aK := A_ aB; clear aB; obtain ⟨aj, A3, H⟩ := bnd_ H; (try dsimp only at H); obtain rfl := Option.some.inj H; go_enter Tryz.func10, Tryz.ntmps10; go_wp2_with (first | ((with_reducible refine gate_dst (N := 1) rfl ?_); (try (refine gate_guard (by rfl) ?_; dsimp only)); refine Kd.R_lit (Kd.int .i64) _ 3 ?hg (N := 1) ?hd (xs := ([1] : List Int)) (inner := [.int .i64 1]) (ok := fun _ => True) (okp := fun _ => True) ?hr ?hp (fun _ hk => hk) trivial (Below.refl _ _) (Nat.le_refl _) (by simp) ?_; (case hd => rfl); (case hg => rfl); (case hr => first | (go_simp; done) | (go_simp; rfl)); (case hp => exact (Reps.one (show Kd.M (Kd.int .i64) _ _ _ 1 [.int .i64 1] from rfl) (Reps.none _ _))); intro a5 w4 ho5 hb hg_ hnew_; clear hg_ hnew_; (first | rw [← ar.out] at ho5 | (simp only [Int.reduceToNat] at ho5; rw [← ar.out] at ho5)); have ag := rx_ ho5 HB; replace HB := bs_ HB hb; clear hb ho5; obtain ⟨bb, co6, bc⟩ := Kd.R_slice ag.out; subst bc) | ((with_reducible refine gate_callee (f := 28) rfl ?_); refine gl_ (some 2) Tryz.func28 #[.slice bb az.length co6] ?_; (with_reducible refine (impl_UrnOk.calls k _ _ az true _ ?s1 ?s2 A1.out).mono ?_); (case s1 => exact rc_ ag); (case s2 => exact (ll_ ag)); rintro e w' ⟨rfl, ⟨nd, rfl⟩⟩; refine ⟨_, rfl, ?_⟩) | ((with_reducible refine gate_dst (N := 4) rfl ?_); (try (refine gate_guard (by rfl) ?_; dsimp only)); refine Kd.R_lit (Kd.int .i64) _ 3 ?hg (N := 4) ?hd (xs := ([] : List Int)) (inner := []) (ok := fun _ => True) (okp := fun _ => True) ?hr ?hp (fun _ hk => hk) trivial (Below.refl _ _) (Nat.le_refl _) (by simp) ?_; (case hd => rfl); (case hg => rfl); (case hr => first | (go_simp; done) | (go_simp; rfl)); (case hp => exact (Reps.none _ _)); intro bd w7 ho8 hb hg_ hnew_; clear hg_ hnew_; (first | rw [← aK.out] at ho8 | (simp only [Int.reduceToNat] at ho8; rw [← aK.out] at ho8)); have aC := rx_ (nR_ ho8 (Kd.R_lt (rR_ ag.out))) HB; replace ag := A_ (Kd.R_elder' (rR_ ag.out) (Kd.R_base ho8) hb); replace HB := bs_ HB hb; clear hb ho8; obtain ⟨bi, co9, be⟩ := Kd.R_slice aC.out; subst be) | (go_at_call 28; (with_reducible refine (impl_UrnOk.calls k _ _ aW aj _ ?s1 ?s2 A3.out).mono ?_); (case s1 => exact rc_ aC); (case s2 => exact (ll_ aC)); rintro e w' ⟨rfl, ⟨nd, rfl⟩⟩)); go_ret; exact ⟨tw_, (tb_ HB.out)⟩
 ·
  replace c2 := Bool.eq_false_iff.mpr c2; subst c2; replace H : (some false) = some r := by rw [if_neg (show ¬ (false = true) by decide)] at H; exact H
  obtain rfl := Option.some.inj H; go_enter Tryz.func10, Tryz.ntmps10; go_wp2_with (first | ((with_reducible refine gate_dst (N := 1) rfl ?_); (try (refine gate_guard (by rfl) ?_; dsimp only)); refine Kd.R_lit (Kd.int .i64) _ 3 ?hg (N := 1) ?hd (xs := ([1] : List Int)) (inner := [.int .i64 1]) (ok := fun _ => True) (okp := fun _ => True) ?hr ?hp (fun _ hk => hk) trivial (Below.refl _ _) (Nat.le_refl _) (by simp) ?_; (case hd => rfl); (case hg => rfl); (case hr => first | (go_simp; done) | (go_simp; rfl)); (case hp => exact (Reps.one (show Kd.M (Kd.int .i64) _ _ _ 1 [.int .i64 1] from rfl) (Reps.none _ _))); intro a5 bj ho11 hb hg_ hnew_; clear hg_ hnew_; (first | rw [← ar.out] at ho11 | (simp only [Int.reduceToNat] at ho11; rw [← ar.out] at ho11)); have ag := rx_ ho11 HB; replace HB := bs_ HB hb; clear hb ho11; obtain ⟨a6, a7, a8⟩ := Kd.R_slice ag.out; subst a8) | ((with_reducible refine gate_callee (f := 28) rfl ?_); refine gl_ (some 2) Tryz.func28 #[.slice a6 az.length a7] ?_; (with_reducible refine (impl_UrnOk.calls k _ _ az false _ ?s1 ?s2 A1.out).mono ?_); (case s1 => exact rc_ ag); (case s2 => exact (ll_ ag)); rintro e w' ⟨rfl, ⟨nd, rfl⟩⟩; refine ⟨_, rfl, ?_⟩)); go_ret; exact ⟨tw_, (tb_ HB.out)⟩

/-! ### spec_l1In: function 27 -/
def spec_l1In.f (a0 : Int) (a1 : Int) (a2 : Int) : Option (Bool) := if a0 ≥ a1 then (some (decide (a0 ≤ a2))) else (some false)
theorem spec_l1In.calls (a0 : Int) (a1 : Int) (a2 : Int) (r : Bool) (w : World) (h : spec_l1In.f a0 a1 a2 = some r) :
  Calls Tryz.prog 27 #[.int .i64 a0, .int .i64 a1, .int .i64 a2] w fun e w' => e = .returned (.bool r) ∧ Drawn0 w w' := by
 have H : (if a0 ≥ a1 then (some (decide (a0 ≤ a2))) else (some false)) = some r := h; clear h; replace H := ih_ H; rcases H with ⟨ax, H⟩ | ⟨ax, H⟩
 ·
  obtain rfl := Option.some.inj H; go_enter Tryz.func27, Tryz.ntmps27; go_wp2; go_ret; exact ⟨tx_, dz_⟩
 ·
  obtain rfl := Option.some.inj H; go_enter Tryz.func27, Tryz.ntmps27; go_wp2; go_ret; exact ⟨tx_, dz_⟩

/-! ### spec_UrnOk: function 75 -/
def spec_UrnOk.l0 : Nat → List Int → Int → Option (Bool)
 | 0, _, _ => none
 | k + 1, x0, x3 => if x3 < (x0.length : Int) then (if 0 ≤ x3 then ((spec_l1In.f (rd x0 x3) 0 40).bind fun aN => (if aN = true then (spec_UrnOk.l0 k x0 (wrap64 (x3 + 1))) else (some false))) else (none)) else ((spec_l1In.f (x0.length : Int) 1 3).bind fun aO => (some aO))
def spec_UrnOk.f (k : Nat) (l0 : List Int) : Option (Bool) := spec_UrnOk.l0 k l0 0
theorem spec_UrnOk.mono_l : ∀ k, (∀ y0 y1, LeO (spec_UrnOk.l0 k y0 y1) (spec_UrnOk.l0 (k + 1) y0 y1))
 | 0 => fun _ _ r h => by simp [spec_UrnOk.l0] at h
 | k + 1 => by
  have ih0 := spec_UrnOk.mono_l k
  ·
   intro y0 y1
   unfold spec_UrnOk.l0
   repeat' (with_reducible first | exact ih0 _ _ | exact mr_ | exact mn_ | refine mi_ ?_ ?_ | refine mb_ ?_ (fun _ => ?_))
theorem spec_UrnOk.mono : ∀ a0 k, LeO (spec_UrnOk.f k a0) (spec_UrnOk.f (k + 1) a0) := by
 intro a0 k; have ih0 := spec_UrnOk.mono_l k; unfold spec_UrnOk.f; repeat' (with_reducible first | exact ih0 _ _ | exact mr_ | exact mn_ | refine mi_ ?_ ?_ | refine mb_ ?_ (fun _ => ?_))
theorem spec_UrnOk.calls (k : Nat) (A0 : Option Addr) (c0 : Nat) (l0 : List Int) (r : Bool) (w : World) (hr0 : Kd.C (Kd.int .i64) w A0 l0.length l0) (hc0 : l0.length ≤ c0) (h : spec_UrnOk.f k l0 = some r) :
  Calls Tryz.prog 75 #[.slice A0 l0.length c0] w fun e w' => e = .returned (.bool r) ∧ Drawn0 w w' := by
 have HR0 := A_ hr0; have HC0 := A_ hc0; clear hr0 hc0; have H : (spec_UrnOk.l0 k l0 0) = some r := h; clear h; have H' := A_ H; clear H; go_enter Tryz.func75, Tryz.ntmps75; go_wp2
 go_loopg [3] k (fun kq v3 w' => ∃ (ac : Int), v3 = .int .i64 ac ∧ Aside0 (spec_UrnOk.l0 kq l0 ac = some r) ∧ Aside0 (kq ≤ k) ∧ Drawn0 w w')
 case atStart => exact ⟨(0), tx_, H', ⟨Nat.le_refl _⟩, dz_⟩
 case round =>
  clear H'; obtain ⟨ac, rfl, HA, HK1, ⟨m1, rfl⟩⟩ := hrel
  cases gk with
  | zero => exact absurd HA.out (by simp [spec_UrnOk.l0])
  | succ k1 =>
   have H := HA.out; clear HA; simp only [spec_UrnOk.l0] at H; replace H := it_ H; rcases H with ⟨am, H⟩ | ⟨am, H⟩
   ·
    replace H := in_ H; obtain ⟨ay, H⟩ := H; obtain ⟨aN, A4, H⟩ := bnd_ H; (try dsimp only at H); by_cases c5 : aN = true
    ·
     subst c5; replace H : (spec_UrnOk.l0 k1 l0 (wrap64 (ac + 1))) = some r := by rw [if_pos rfl] at H; exact H
     have H' := A_ H; clear H; obtain ⟨p111, q111, ad111, e111, aG⟩ := a2_ (Kd.at_int HR0.out ac); cases e111; go_wp2_with (first | ((with_reducible refine gate_callee (f := 27) rfl ?_); refine gl_ (some 14) Tryz.func27 #[.int .i64 (rd l0 ac), .int .i64 0, .int .i64 40] ?_; (with_reducible refine (spec_l1In.calls (rd l0 ac) 0 40 true _ A4.out).mono ?_); rintro e w' ⟨rfl, ⟨nd, rfl⟩⟩; refine ⟨_, rfl, ?_⟩))
     go_roundg k1
     case measure => have := HK1.out; omega
     case rel => exact ⟨(wrap64 (ac + 1)), tx_, H', ⟨by have := HK1.out; omega⟩, dz_⟩
    ·
     replace c5 := Bool.eq_false_iff.mpr c5; subst c5; replace H : (some false) = some r := by rw [if_neg (show ¬ (false = true) by decide)] at H; exact H
     obtain rfl := Option.some.inj H; obtain ⟨p111, q111, ad111, e111, aG⟩ := a2_ (Kd.at_int HR0.out ac); cases e111; go_wp2_with (first | ((with_reducible refine gate_callee (f := 27) rfl ?_); refine gl_ (some 14) Tryz.func27 #[.int .i64 (rd l0 ac), .int .i64 0, .int .i64 40] ?_; (with_reducible refine (spec_l1In.calls (rd l0 ac) 0 40 false _ A4.out).mono ?_); rintro e w' ⟨rfl, ⟨nd, rfl⟩⟩; refine ⟨_, rfl, ?_⟩)); go_ret; exact ⟨tx_, dz_⟩
   ·
    obtain ⟨aO, A6, H⟩ := bnd_ H; (try dsimp only at H); obtain rfl := Option.some.inj H; go_wp2_with (first | ((with_reducible refine gate_callee (f := 27) rfl ?_); refine gl_ (some 18) Tryz.func27 #[.int .i64 (l0.length : Int), .int .i64 1, .int .i64 3] ?_; (with_reducible refine (spec_l1In.calls (l0.length : Int) 1 3 aO _ A6.out).mono ?_); rintro e w' ⟨rfl, ⟨nd, rfl⟩⟩; refine ⟨_, rfl, ?_⟩)); go_ret; exact ⟨tx_, dz_⟩

/-! ### spec_StartOk: function 56 -/
def spec_StartOk.l0 : Nat → List Int → Int → Option (Bool)
 | 0, _, _ => none
 | k + 1, x0, x3 => if x3 < (x0.length : Int) then (if 0 ≤ x3 then (if (rd x0 x3) > 10 then (some false) else (spec_StartOk.l0 k x0 (wrap64 (x3 + 1)))) else (none)) else ((spec_UrnOk.f k x0).bind fun aP => (some aP))
def spec_StartOk.f (k : Nat) (l0 : List Int) : Option (Bool) := spec_StartOk.l0 k l0 0
theorem spec_StartOk.mono_l : ∀ k, (∀ y0 y1, LeO (spec_StartOk.l0 k y0 y1) (spec_StartOk.l0 (k + 1) y0 y1))
 | 0 => fun _ _ r h => by simp [spec_StartOk.l0] at h
 | k + 1 => by
  have ih0 := spec_StartOk.mono_l k
  ·
   intro y0 y1
   unfold spec_StartOk.l0
   repeat' (with_reducible first | exact ih0 _ _ | exact spec_UrnOk.mono _ _ | exact mr_ | exact mn_ | refine mi_ ?_ ?_ | refine mb_ ?_ (fun _ => ?_))
theorem spec_StartOk.mono : ∀ a0 k, LeO (spec_StartOk.f k a0) (spec_StartOk.f (k + 1) a0) := by
 intro a0 k; have ih0 := spec_StartOk.mono_l k; unfold spec_StartOk.f; repeat' (with_reducible first | exact ih0 _ _ | exact spec_UrnOk.mono _ _ | exact mr_ | exact mn_ | refine mi_ ?_ ?_ | refine mb_ ?_ (fun _ => ?_))
theorem spec_StartOk.calls (k : Nat) (A0 : Option Addr) (c0 : Nat) (l0 : List Int) (r : Bool) (w : World) (hr0 : Kd.C (Kd.int .i64) w A0 l0.length l0) (hc0 : l0.length ≤ c0) (h : spec_StartOk.f k l0 = some r) :
  Calls Tryz.prog 56 #[.slice A0 l0.length c0] w fun e w' => e = .returned (.bool r) ∧ Drawn0 w w' := by
 have HR0 := A_ hr0; have HC0 := A_ hc0; clear hr0 hc0; have H : (spec_StartOk.l0 k l0 0) = some r := h; clear h; have H' := A_ H; clear H; go_enter Tryz.func56, Tryz.ntmps56; go_wp2
 go_loopg [3] k (fun kq v3 w' => ∃ (ac : Int), v3 = .int .i64 ac ∧ Aside0 (spec_StartOk.l0 kq l0 ac = some r) ∧ Aside0 (kq ≤ k) ∧ Drawn0 w w')
 case atStart => exact ⟨(0), tx_, H', ⟨Nat.le_refl _⟩, dz_⟩
 case round =>
  clear H'; obtain ⟨ac, rfl, HA, HK1, ⟨m1, rfl⟩⟩ := hrel
  cases gk with
  | zero => exact absurd HA.out (by simp [spec_StartOk.l0])
  | succ k1 =>
   have H := HA.out; clear HA; simp only [spec_StartOk.l0] at H; replace H := it_ H; rcases H with ⟨am, H⟩ | ⟨am, H⟩
   ·
    replace H := in_ H; obtain ⟨ay, H⟩ := H; replace H := ig_ H; rcases H with ⟨ax, H⟩ | ⟨ax, H⟩
    ·
     obtain rfl := Option.some.inj H; obtain ⟨p114, q114, ad114, e114, aH⟩ := a2_ (Kd.at_int HR0.out ac); cases e114; go_wp2; go_ret; exact ⟨tx_, dz_⟩
    ·
     have H' := A_ H; clear H; obtain ⟨p114, q114, ad114, e114, aH⟩ := a2_ (Kd.at_int HR0.out ac); cases e114; go_wp2
     go_roundg k1
     case measure => have := HK1.out; omega
     case rel => exact ⟨(wrap64 (ac + 1)), tx_, H', ⟨by have := HK1.out; omega⟩, dz_⟩
   ·
    obtain ⟨aP, A5, H⟩ := bnd_ H; (try dsimp only at H); obtain rfl := Option.some.inj H; go_wp2_with (first | ((with_reducible refine gate_callee (f := 75) rfl ?_); refine gl_ (some 16) Tryz.func75 #[.slice A0 l0.length c0] ?_; (with_reducible refine (spec_UrnOk.calls k1 _ _ l0 aP _ ?s1 ?s2 A5.out).mono ?_); (case s1 => exact td_); (case s2 => exact HC0.out); rintro e w' ⟨rfl, ⟨nd, rfl⟩⟩; refine ⟨_, rfl, ?_⟩)); go_ret; exact ⟨tx_, dz_⟩

/-! ### spec_RuleOk: function 76 -/
mutual
def spec_RuleOk.l0 : Nat → Int → List (List Int) → Int → Option (Bool)
 | 0, _, _, _ => none
 | k + 1, x0, x1, x5 => if x5 < (x1.length : Int) then (if 0 ≤ x5 then (if ((rd_L1 x1 x5).length : Int) = x0 then (spec_RuleOk.l1 k x0 x1 x5 0) else (some false)) else (none)) else ((spec_l1In.f x0 1 3).bind fun aQ => (if aQ = true then (some ((x1.length : Int) == x0)) else (some false)))
def spec_RuleOk.l1 : Nat → Int → List (List Int) → Int → Int → Option (Bool)
 | 0, _, _, _, _ => none
 | k + 1, x0, x1, x5, x6 => if x6 < x0 then (if 0 ≤ x5 then (if x5 < (x1.length : Int) then (if 0 ≤ x6 then (if x6 < ((rd_L1 x1 x5).length : Int) then ((spec_l1In.f (rd (rd_L1 x1 x5) x6) 0 3).bind fun aR => (if aR = true then (spec_RuleOk.l1 k x0 x1 x5 (wrap64 (x6 + 1))) else (if (rd (rd_L1 x1 x5) x6) = (-1) then (if x6 = x5 then (spec_RuleOk.l1 k x0 x1 x5 (wrap64 (x6 + 1))) else (some false)) else (some false)))) else (none)) else (none)) else (none)) else (none)) else (spec_RuleOk.l0 k x0 x1 (wrap64 (x5 + 1)))
end
def spec_RuleOk.f (k : Nat) (a0 : Int) (l1 : List (List Int)) : Option (Bool) := spec_RuleOk.l0 k a0 l1 0
theorem spec_RuleOk.mono_l : ∀ k, (∀ y0 y1 y2, LeO (spec_RuleOk.l0 k y0 y1 y2) (spec_RuleOk.l0 (k + 1) y0 y1 y2)) ∧ (∀ y0 y1 y2 y3, LeO (spec_RuleOk.l1 k y0 y1 y2 y3) (spec_RuleOk.l1 (k + 1) y0 y1 y2 y3))
 | 0 => ⟨fun _ _ _ r h => by simp [spec_RuleOk.l0] at h, fun _ _ _ _ r h => by simp [spec_RuleOk.l1] at h⟩
 | k + 1 => by
  obtain ⟨ih0, ih1⟩ := spec_RuleOk.mono_l k
  refine ⟨?_, ?_⟩
  ·
   intro y0 y1 y2
   unfold spec_RuleOk.l0
   repeat' (with_reducible first | exact ih0 _ _ _ | exact ih1 _ _ _ _ | exact mr_ | exact mn_ | refine mi_ ?_ ?_ | refine mb_ ?_ (fun _ => ?_))
  ·
   intro y0 y1 y2 y3
   unfold spec_RuleOk.l1
   repeat' (with_reducible first | exact ih0 _ _ _ | exact ih1 _ _ _ _ | exact mr_ | exact mn_ | refine mi_ ?_ ?_ | refine mb_ ?_ (fun _ => ?_))
theorem spec_RuleOk.mono : ∀ a0 a1 k, LeO (spec_RuleOk.f k a0 a1) (spec_RuleOk.f (k + 1) a0 a1) := by
 intro a0 a1 k; obtain ⟨ih0, ih1⟩ := spec_RuleOk.mono_l k; unfold spec_RuleOk.f; repeat' (with_reducible first | exact ih0 _ _ _ | exact ih1 _ _ _ _ | exact mr_ | exact mn_ | refine mi_ ?_ ?_ | refine mb_ ?_ (fun _ => ?_))
theorem spec_RuleOk.calls (k : Nat) (a0 : Int) (A1 : Option Addr) (c1 : Nat) (l1 : List (List Int)) (r : Bool) (w : World) (hr1 : Kd.C (Kd.slice 3 (Kd.int .i64)) w A1 l1.length l1) (hc1 : l1.length ≤ c1) (h : spec_RuleOk.f k a0 l1 = some r) :
  Calls Tryz.prog 76 #[.int .i64 a0, .slice A1 l1.length c1] w fun e w' => e = .returned (.bool r) ∧ Drawn0 w w' := by
 have HR1 := A_ hr1; have HC1 := A_ hc1; clear hr1 hc1; have H : (spec_RuleOk.l0 k a0 l1 0) = some r := h; clear h; have H' := A_ H; clear H; go_enter Tryz.func76, Tryz.ntmps76; go_wp2
 go_loopg [5] k (fun kq v5 w' => ∃ (aa : Int), v5 = .int .i64 aa ∧ Aside0 (spec_RuleOk.l0 kq a0 l1 aa = some r) ∧ Aside0 (kq ≤ k) ∧ Drawn0 w w')
 case atStart => exact ⟨(0), tx_, H', ⟨Nat.le_refl _⟩, dz_⟩
 case round =>
  clear H'; obtain ⟨aa, rfl, HA, HK1, ⟨m1, rfl⟩⟩ := hrel
  cases gk with
  | zero => exact absurd HA.out (by simp [spec_RuleOk.l0])
  | succ k1 =>
   have H := HA.out; clear HA; simp only [spec_RuleOk.l0] at H; replace H := it_ H; rcases H with ⟨ay, H⟩ | ⟨ay, H⟩
   ·
    replace H := in_ H; obtain ⟨ax, H⟩ := H; by_cases c5 : ((rd_L1 l1 aa).length : Int) = a0
    ·
     rw [if_pos c5] at H; have aF : (((rd_L1 l1 aa).length : Int) == a0) = true := beq_iff_eq.mpr c5; have aX : (((rd_L1 l1 aa).length : Int) != a0) = false := bne_eq_false_iff_eq.mpr c5; clear c5; have H' := A_ H; clear H; obtain ⟨p117, q117, ad117, aU, aV, e117, au, hl117_0, hi117_0⟩ := a2_ (at_L1 HR1.out aa); cases e117; have aI := A_ hi117_0; have aJ := A_ hl117_0; clear hi117_0 hl117_0; go_wp2
     go_loopg [6] k1 (fun kq v6 w' => ∃ (ab : Int), v6 = .int .i64 ab ∧ Aside0 (spec_RuleOk.l1 kq a0 l1 aa ab = some r) ∧ Aside0 (kq ≤ k1) ∧ Drawn0 w w')
     case atStart => exact ⟨(0), tx_, H', ⟨Nat.le_refl _⟩, dz_⟩
     case round =>
      clear H'; (try clear c3); (try clear ay); (try clear c4); (try clear ax); (try clear c5); (try clear aF); (try clear aX); (try clear au); (try clear p117); (try clear q117); obtain ⟨ab, rfl, HA, HK2, ⟨m2, rfl⟩⟩ := hrel
      cases gk with
      | zero => exact absurd HA.out (by simp [spec_RuleOk.l1])
      | succ k2 =>
       have H := HA.out; clear HA; simp only [spec_RuleOk.l1] at H; replace H := it_ H; rcases H with ⟨aM, H⟩ | ⟨aM, H⟩
       ·
        replace H := in_ H; obtain ⟨bf, H⟩ := H; replace H := in_ H; obtain ⟨bg, H⟩ := H; replace H := in_ H; obtain ⟨bh, H⟩ := H; replace H := in_ H; obtain ⟨a9, H⟩ := H; obtain ⟨aR, A11, H⟩ := bnd_ H; (try dsimp only at H); by_cases c12 : aR = true
        ·
         subst c12; replace H : (spec_RuleOk.l1 k2 a0 l1 aa (wrap64 (ab + 1))) = some r := by rw [if_pos rfl] at H; exact H
         have H' := A_ H; clear H; have p118 : 0 ≤ (aa : Int) := od_; have q118 : aa < (l1.length : Int) := od_; obtain ⟨ad118, ao, ap, e118, af, hl118_0, hi118_0⟩ := at_L1 HR1.out aa p118 q118; obtain rfl : ad117 = ad118 := (by injection e118)
         have ae := A_ hi118_0; have ak := A_ hl118_0; clear hi118_0 hl118_0; replace p118 := eq_true p118; replace q118 := eq_true q118; obtain ⟨p119, q119, ad119, e119, al⟩ := a2_ (Kd.at_int ae.out ab); cases e119; go_wp2_with (first | ((with_reducible refine gate_callee (f := 27) rfl ?_); refine gl_ (some 32) Tryz.func27 #[.int .i64 (rd (rd_L1 l1 aa) ab), .int .i64 0, .int .i64 3] ?_; (with_reducible refine (spec_l1In.calls (rd (rd_L1 l1 aa) ab) 0 3 true _ A11.out).mono ?_); rintro e w' ⟨rfl, ⟨nd, rfl⟩⟩; refine ⟨_, rfl, ?_⟩))
         go_roundg k2
         case measure => have := HK1.out; have := HK2.out; omega
         case rel => exact ⟨(wrap64 (ab + 1)), tx_, H', ⟨by have := HK1.out; have := HK2.out; omega⟩, dz_⟩
        ·
         replace c12 := Bool.eq_false_iff.mpr c12; subst c12; replace H : (if (rd (rd_L1 l1 aa) ab) = (-1) then (if ab = aa then (spec_RuleOk.l1 k2 a0 l1 aa (wrap64 (ab + 1))) else (some false)) else (some false)) = some r := by rw [if_neg (show ¬ (false = true) by decide)] at H; exact H
         by_cases c13 : (rd (rd_L1 l1 aa) ab) = (-1)
         ·
          rw [if_pos c13] at H; have aY : ((rd (rd_L1 l1 aa) ab) == (-1)) = true := beq_iff_eq.mpr c13; have aZ : ((rd (rd_L1 l1 aa) ab) != (-1)) = false := bne_eq_false_iff_eq.mpr c13; clear c13; by_cases c14 : ab = aa
          ·
           rw [if_pos c14] at H; have a3 : (ab == aa) = true := beq_iff_eq.mpr c14; have a4 : (ab != aa) = false := bne_eq_false_iff_eq.mpr c14; clear c14; have H' := A_ H; clear H; have p118 : 0 ≤ (aa : Int) := od_; have q118 : aa < (l1.length : Int) := od_; obtain ⟨ad118, ao, ap, e118, af, hl118_0, hi118_0⟩ := at_L1 HR1.out aa p118 q118; obtain rfl : ad117 = ad118 := (by injection e118)
           have ae := A_ hi118_0; have ak := A_ hl118_0; clear hi118_0 hl118_0; replace p118 := eq_true p118; replace q118 := eq_true q118; obtain ⟨p119, q119, ad119, e119, al⟩ := a2_ (Kd.at_int ae.out ab); cases e119; go_wp2_with (first | ((with_reducible refine gate_callee (f := 27) rfl ?_); refine gl_ (some 32) Tryz.func27 #[.int .i64 (rd (rd_L1 l1 aa) ab), .int .i64 0, .int .i64 3] ?_; (with_reducible refine (spec_l1In.calls (rd (rd_L1 l1 aa) ab) 0 3 false _ A11.out).mono ?_); rintro e w' ⟨rfl, ⟨nd, rfl⟩⟩; refine ⟨_, rfl, ?_⟩; have p121 : 0 ≤ (aa : Int) := od_; have q121 : aa < (l1.length : Int) := od_; obtain ⟨ad121, aD, aE, e121, ah, hl121_0, hi121_0⟩ := at_L1 HR1.out aa p121 q121; obtain rfl : ad117 = ad121 := (by injection e121); have ai := A_ hi121_0; have av := A_ hl121_0; clear hi121_0 hl121_0; replace p121 := eq_true p121; replace q121 := eq_true q121; have ea_ := Option.some.inj (af.symm.trans ah); injection ea_ with ea_ en_ ec_; subst ea_; subst ec_; clear en_; obtain ⟨p122, q122, ad122, e122, aw⟩ := a2_ (Kd.at_int ai.out ab); cases e122))
           go_roundg k2
           case measure => have := HK1.out; have := HK2.out; omega
           case rel => exact ⟨(wrap64 (ab + 1)), tx_, H', ⟨by have := HK1.out; have := HK2.out; omega⟩, dz_⟩
          ·
           rw [if_neg c14] at H; have a3 : (ab == aa) = false := beq_eq_false_iff_ne.mpr c14; have a4 : (ab != aa) = true := bne_iff_ne.mpr c14; obtain rfl := Option.some.inj H; have p118 : 0 ≤ (aa : Int) := od_; have q118 : aa < (l1.length : Int) := od_; obtain ⟨ad118, ao, ap, e118, af, hl118_0, hi118_0⟩ := at_L1 HR1.out aa p118 q118; obtain rfl : ad117 = ad118 := (by injection e118)
           have ae := A_ hi118_0; have ak := A_ hl118_0; clear hi118_0 hl118_0; replace p118 := eq_true p118; replace q118 := eq_true q118; obtain ⟨p119, q119, ad119, e119, al⟩ := a2_ (Kd.at_int ae.out ab); cases e119; go_wp2_with (first | ((with_reducible refine gate_callee (f := 27) rfl ?_); refine gl_ (some 32) Tryz.func27 #[.int .i64 (rd (rd_L1 l1 aa) ab), .int .i64 0, .int .i64 3] ?_; (with_reducible refine (spec_l1In.calls (rd (rd_L1 l1 aa) ab) 0 3 false _ A11.out).mono ?_); rintro e w' ⟨rfl, ⟨nd, rfl⟩⟩; refine ⟨_, rfl, ?_⟩; have p121 : 0 ≤ (aa : Int) := od_; have q121 : aa < (l1.length : Int) := od_; obtain ⟨ad121, aD, aE, e121, ah, hl121_0, hi121_0⟩ := at_L1 HR1.out aa p121 q121; obtain rfl : ad117 = ad121 := (by injection e121); have ai := A_ hi121_0; have av := A_ hl121_0; clear hi121_0 hl121_0; replace p121 := eq_true p121; replace q121 := eq_true q121; have ea_ := Option.some.inj (af.symm.trans ah); injection ea_ with ea_ en_ ec_; subst ea_; subst ec_; clear en_; obtain ⟨p122, q122, ad122, e122, aw⟩ := a2_ (Kd.at_int ai.out ab); cases e122)); go_ret; exact ⟨tx_, dz_⟩
         ·
          rw [if_neg c13] at H; have aY : ((rd (rd_L1 l1 aa) ab) == (-1)) = false := beq_eq_false_iff_ne.mpr c13; have aZ : ((rd (rd_L1 l1 aa) ab) != (-1)) = true := bne_iff_ne.mpr c13; obtain rfl := Option.some.inj H; have p118 : 0 ≤ (aa : Int) := od_; have q118 : aa < (l1.length : Int) := od_; obtain ⟨ad118, ao, ap, e118, af, hl118_0, hi118_0⟩ := at_L1 HR1.out aa p118 q118; obtain rfl : ad117 = ad118 := (by injection e118)
          have ae := A_ hi118_0; have ak := A_ hl118_0; clear hi118_0 hl118_0; replace p118 := eq_true p118; replace q118 := eq_true q118; obtain ⟨p119, q119, ad119, e119, al⟩ := a2_ (Kd.at_int ae.out ab); cases e119; go_wp2_with (first | ((with_reducible refine gate_callee (f := 27) rfl ?_); refine gl_ (some 32) Tryz.func27 #[.int .i64 (rd (rd_L1 l1 aa) ab), .int .i64 0, .int .i64 3] ?_; (with_reducible refine (spec_l1In.calls (rd (rd_L1 l1 aa) ab) 0 3 false _ A11.out).mono ?_); rintro e w' ⟨rfl, ⟨nd, rfl⟩⟩; refine ⟨_, rfl, ?_⟩; have p121 : 0 ≤ (aa : Int) := od_; have q121 : aa < (l1.length : Int) := od_; obtain ⟨ad121, aD, aE, e121, ah, hl121_0, hi121_0⟩ := at_L1 HR1.out aa p121 q121; obtain rfl : ad117 = ad121 := (by injection e121); have ai := A_ hi121_0; have av := A_ hl121_0; clear hi121_0 hl121_0; replace p121 := eq_true p121; replace q121 := eq_true q121; have ea_ := Option.some.inj (af.symm.trans ah); injection ea_ with ea_ en_ ec_; subst ea_; subst ec_; clear en_; obtain ⟨p122, q122, ad122, e122, aw⟩ := a2_ (Kd.at_int ai.out ab); cases e122)); go_ret; exact ⟨tx_, dz_⟩
       ·
        have H' := A_ H; clear H; go_wp2
        go_roundg k2
        case measure => have := HK1.out; have := HK2.out; omega
        case rel => exact ⟨(wrap64 (aa + 1)), tx_, H', ⟨by have := HK1.out; have := HK2.out; omega⟩, dz_⟩
    ·
     rw [if_neg c5] at H; have aF : (((rd_L1 l1 aa).length : Int) == a0) = false := beq_eq_false_iff_ne.mpr c5; have aX : (((rd_L1 l1 aa).length : Int) != a0) = true := bne_iff_ne.mpr c5; obtain rfl := Option.some.inj H; obtain ⟨p117, q117, ad117, aU, aV, e117, au, hl117_0, hi117_0⟩ := a2_ (at_L1 HR1.out aa); cases e117; have aI := A_ hi117_0; have aJ := A_ hl117_0; clear hi117_0 hl117_0; go_wp2; go_ret; exact ⟨tx_, dz_⟩
   ·
    obtain ⟨aQ, A15, H⟩ := bnd_ H; (try dsimp only at H); by_cases c16 : aQ = true
    ·
     subst c16; replace H : (some ((l1.length : Int) == a0)) = some r := by rw [if_pos rfl] at H; exact H
     obtain rfl := Option.some.inj H; go_wp2_with (first | ((with_reducible refine gate_callee (f := 27) rfl ?_); refine gl_ (some 51) Tryz.func27 #[.int .i64 a0, .int .i64 1, .int .i64 3] ?_; (with_reducible refine (spec_l1In.calls a0 1 3 true _ A15.out).mono ?_); rintro e w' ⟨rfl, ⟨nd, rfl⟩⟩; refine ⟨_, rfl, ?_⟩)); go_ret; exact ⟨tx_, dz_⟩
    ·
     replace c16 := Bool.eq_false_iff.mpr c16; subst c16; replace H : (some false) = some r := by rw [if_neg (show ¬ (false = true) by decide)] at H; exact H
     obtain rfl := Option.some.inj H; go_wp2_with (first | ((with_reducible refine gate_callee (f := 27) rfl ?_); refine gl_ (some 51) Tryz.func27 #[.int .i64 a0, .int .i64 1, .int .i64 3] ?_; (with_reducible refine (spec_l1In.calls a0 1 3 false _ A15.out).mono ?_); rintro e w' ⟨rfl, ⟨nd, rfl⟩⟩; refine ⟨_, rfl, ?_⟩)); go_ret; exact ⟨tx_, dz_⟩

end Go.Proofs.YtmcibffagofkjaaGreatDoor.MFnStoreSync
