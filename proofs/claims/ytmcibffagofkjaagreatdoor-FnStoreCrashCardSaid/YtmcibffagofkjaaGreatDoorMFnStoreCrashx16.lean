/- For the law FnStoreCrash: walks of the functions that it reaches: each call returns what the plain function beside it tells. The conditions stand in each statement. -/
import Derived.Test.YtmcibffagofkjaaGreatDoorV
import Derived.Test.YtmcibffagofkjaaGreatDoorMFnStoreCrashx0
import Derived.Test.YtmcibffagofkjaaGreatDoorMFnStoreCrashx2
import Derived.Test.YtmcibffagofkjaaGreatDoorMFnStoreCrashx7
import Derived.Test.YtmcibffagofkjaaGreatDoorMFnStoreCrashx10
namespace Go.Proofs.YtmcibffagofkjaaGreatDoor.MFnStoreCrash
open Go.RowKit Go.Proofs.YtmcibffagofkjaaGreatDoorW.PrintWords Go.Proofs.YtmcibffagofkjaaGreatDoorW.PrintLast Go.Proofs.YtmcibffagofkjaaGreatDoorW.PrintMore
attribute [local go_sem] max2_int min2_int max_two min_two max_three min_three max_four min_four   -- for this text's walks alone
set_option linter.unusedVariables false
set_option linter.unusedSimpArgs false
set_option maxHeartbeats 8000000
set_option maxRecDepth 100000

attribute [local go_sem high] eqA62
/-! ### spec_DeedText: function 68 -/
def spec_DeedText.j0 : Nat → Bool → Int → Int → Int → Option (ByteArray)
 | 0, _, _, _, _ => none
 | k + 1, x12, ac, ad, ae => if x12 = true then (some (⟨#[]⟩ : ByteArray)) else (if (ac == 0) = true then ((spec_l15Step.f k ad).bind fun ab => (if 4 + ab.size ≤ 9223372036854775807 then (if ((⟨#[112, 117, 116, 32]⟩ : ByteArray) ++ ab).size + 1 ≤ 9223372036854775807 then ((spec_l15Step.f k ae).bind fun af => (if (((⟨#[112, 117, 116, 32]⟩ : ByteArray) ++ ab) ++ (⟨#[32]⟩ : ByteArray)).size + af.size ≤ 9223372036854775807 then (some ((((⟨#[112, 117, 116, 32]⟩ : ByteArray) ++ ab) ++ (⟨#[32]⟩ : ByteArray)) ++ af)) else (none))) else (none)) else (none))) else (if (ac == 1 && (ae == 0)) = true then ((spec_l15Step.f k ad).bind fun ag => (if 5 + ag.size ≤ 9223372036854775807 then (some ((⟨#[115, 116, 101, 112, 32]⟩ : ByteArray) ++ ag)) else (none))) else (if (ac == 2 && (ae == 0)) = true then ((spec_l15Step.f k ad).bind fun ah => (if 5 + ah.size ≤ 9223372036854775807 then (some ((⟨#[100, 114, 97, 119, 32]⟩ : ByteArray) ++ ah)) else (none))) else (if (ac == 3 && (ad == 0 && (ae == 0))) = true then (some (⟨#[97, 103, 97, 105, 110]⟩ : ByteArray)) else (if (ac == 4 && (ad == 0 && (ae == 0))) = true then (some (⟨#[98, 97, 99, 107]⟩ : ByteArray)) else (some (⟨#[]⟩ : ByteArray)))))))
def spec_DeedText.f (k : Nat) (a0_0 : Int) (a0_1 : Int) (a0_2 : Int) : Option (ByteArray) := (spec_l1In.f a0_1 (-99) 99).bind fun al => (if al = true then ((spec_l1In.f a0_2 (-99) 99).bind fun ai => (spec_DeedText.j0 k (!ai) a0_0 a0_1 a0_2)) else (spec_DeedText.j0 k true a0_0 a0_1 a0_2))
theorem spec_DeedText.mono_l : ∀ k, (∀ y0 y1 y2 y3, LeO (spec_DeedText.j0 k y0 y1 y2 y3) (spec_DeedText.j0 (k + 1) y0 y1 y2 y3))
 | 0 => fun _ _ _ _ r h => by simp [spec_DeedText.j0] at h
 | k + 1 => by
  have ih0 := spec_DeedText.mono_l k
  ·
   intro y0 y1 y2 y3
   unfold spec_DeedText.j0
   repeat' (with_reducible first | exact ih0 _ _ _ _ | exact spec_l15Step.mono _ _ | exact mr_ | exact mn_ | refine mi_ ?_ ?_ | refine mb_ ?_ (fun _ => ?_))
theorem spec_DeedText.mono : ∀ a0 a1 a2 k, LeO (spec_DeedText.f k a0 a1 a2) (spec_DeedText.f (k + 1) a0 a1 a2) := by
 intro a0 a1 a2 k; have ih0 := spec_DeedText.mono_l k; unfold spec_DeedText.f; repeat' (with_reducible first | exact ih0 _ _ _ _ | exact spec_l15Step.mono _ _ | exact mr_ | exact mn_ | refine mi_ ?_ ?_ | refine mb_ ?_ (fun _ => ?_))
def spec_DeedText.T5 : Bool × List (List Nat × List Nat) := (true, [([], []), ([0], [0]), ([1], [1]), ([2], [2]), ([3], [3]), ([], []), ([5], [5]), ([6, 2], [6]), ([4, 7], [4, 7]), ([8, 7, 0, 1, 2, 3, 4, 5, 6, 7, 8], [8])])
def spec_DeedText.B5 : List Nat := [0, 1, 3, 7, 15, 0, 32, 103, 255, 511]
theorem spec_DeedText.tab5 : rtab .any (opsOf Tryz.f68 5) = spec_DeedText.T5 := by kernel_rfl
theorem spec_DeedText.bits5 : waitsOk spec_DeedText.T5.2 spec_DeedText.B5 = true := by kernel_rfl
theorem spec_DeedText.calls (k : Nat) (a0_0 : Int) (a0_1 : Int) (a0_2 : Int) (r : ByteArray) (w : World) (h : spec_DeedText.f k a0_0 a0_1 a0_2 = some r) :
  Calls Tryz.prog 68 #[.agg #[.int .i64 a0_0, .int .i64 a0_1, .int .i64 a0_2]] w fun e w' => e = .returned (.string r) ∧ Below w.heap.size w w' := by
 have hu62 := Tryz.underlying62; have HB := A_ (Below.refl w.heap.size w); have H : ((spec_l1In.f a0_1 (-99) 99).bind fun al => (if al = true then ((spec_l1In.f a0_2 (-99) 99).bind fun ai => (spec_DeedText.j0 k (!ai) a0_0 a0_1 a0_2)) else (spec_DeedText.j0 k true a0_0 a0_1 a0_2))) = some r := h; clear h; have HC2 := A_ H; clear H; go_enter Tryz.func68, Tryz.ntmps68
 go_upto_region 1 with (first | ((with_reducible refine gate_dst (N := 1) rfl ?_); refine be_ 1 #[.int .i64 a0_0, .int .i64 a0_1, .int .i64 a0_2] 62 ?_; intro aj hg w3 aa hb; have bw := gx_ HB hg; have bx := gx_ HB hg; replace HB := bs_ HB hb; clear hb hg))
 (try simp only [Act.put, sa_, sb_, sc_])
 go_cut [12] (fun bX wc => ∃ (kq : Nat) (ak : Bool), bX = .bool ak ∧ Aside0 (spec_DeedText.j0 kq ak a0_0 a0_1 a0_2 = some r) ∧ Aside0 (kq ≤ k) ∧ Aside0 (wc.heap[aj]? = some (.cells #[.int .i64 a0_0, .int .i64 a0_1, .int .i64 a0_2] 62 (0, 0))) ∧ Aside0 (Below w.heap.size w wc))
 case first =>
  have H := HC2.out; clear HC2; obtain ⟨al, A4, H⟩ := bnd_ H; (try dsimp only at H); by_cases c5 : al = true
  ·
   subst c5; replace H : ((spec_l1In.f a0_2 (-99) 99).bind fun ai => (spec_DeedText.j0 k (!ai) a0_0 a0_1 a0_2)) = some r := by rw [if_pos rfl] at H; exact H
   obtain ⟨ai, A6, H⟩ := bnd_ H; (try dsimp only at H); have H' := A_ H; clear H; obtain ⟨am, an, ao, ap, aq, ar⟩ := cf3_ aa; go_wp2_with (first | ((with_reducible refine gate_callee (f := 27) rfl ?_); refine gl_ (some 5) Tryz.func27 #[.int .i64 a0_1, .int .i64 (-99), .int .i64 99] ?_; (with_reducible refine (spec_l1In.calls a0_1 (-99) 99 true _ A4.out).mono ?_); rintro e w' ⟨rfl, ⟨nd, rfl⟩⟩; refine ⟨_, rfl, ?_⟩) | (go_at_call 27; (with_reducible refine (spec_l1In.calls a0_2 (-99) 99 ai _ A6.out).mono ?_); rintro e w' ⟨rfl, ⟨nd, rfl⟩⟩)); go_meet
   case rel => exact ⟨_, (!ai), tx_, H', ⟨by first | omega | exact Nat.le_refl _⟩, ⟨tk_ aa.out⟩, ⟨(tb_ HB.out)⟩⟩
  ·
   replace c5 := Bool.eq_false_iff.mpr c5; subst c5; replace H : (spec_DeedText.j0 k true a0_0 a0_1 a0_2) = some r := by rw [if_neg (show ¬ (false = true) by decide)] at H; exact H
   have H' := A_ H; clear H; obtain ⟨au, av, aw, ax, ay, az⟩ := cf3_ aa; go_wp2_with (first | ((with_reducible refine gate_callee (f := 27) rfl ?_); refine gl_ (some 5) Tryz.func27 #[.int .i64 a0_1, .int .i64 (-99), .int .i64 99] ?_; (with_reducible refine (spec_l1In.calls a0_1 (-99) 99 false _ A4.out).mono ?_); rintro e w' ⟨rfl, ⟨nd, rfl⟩⟩; refine ⟨_, rfl, ?_⟩)); go_meet
   case rel => exact ⟨_, (true), tx_, H', ⟨by first | omega | exact Nat.le_refl _⟩, ⟨tk_ aa.out⟩, ⟨(tb_ HB.out)⟩⟩
 case rest =>
  clear HC2; obtain ⟨kq, ak, rfl, HA, HJ1, aa, HB⟩ := hcut
  cases kq with
  | zero => exact absurd HA.out (by simp [spec_DeedText.j0])
  | succ kj1 =>
   have H := HA.out; clear HA; simp only [spec_DeedText.j0] at H; by_cases c9 : ak = true
   ·
    subst c9; replace H : (some (⟨#[]⟩ : ByteArray)) = some r := by rw [if_pos rfl] at H; exact H
    obtain rfl := Option.some.inj H; go_wp2; go_ret; exact ⟨tw_, (tb_ HB.out)⟩
   ·
    replace c9 := Bool.eq_false_iff.mpr c9; subst c9; replace H : (if (a0_0 == 0) = true then ((spec_l15Step.f kj1 a0_1).bind fun ab => (if 4 + ab.size ≤ 9223372036854775807 then (if ((⟨#[112, 117, 116, 32]⟩ : ByteArray) ++ ab).size + 1 ≤ 9223372036854775807 then ((spec_l15Step.f kj1 a0_2).bind fun af => (if (((⟨#[112, 117, 116, 32]⟩ : ByteArray) ++ ab) ++ (⟨#[32]⟩ : ByteArray)).size + af.size ≤ 9223372036854775807 then (some ((((⟨#[112, 117, 116, 32]⟩ : ByteArray) ++ ab) ++ (⟨#[32]⟩ : ByteArray)) ++ af)) else (none))) else (none)) else (none))) else (if (a0_0 == 1 && (a0_2 == 0)) = true then ((spec_l15Step.f kj1 a0_1).bind fun ag => (if 5 + ag.size ≤ 9223372036854775807 then (some ((⟨#[115, 116, 101, 112, 32]⟩ : ByteArray) ++ ag)) else (none))) else (if (a0_0 == 2 && (a0_2 == 0)) = true then ((spec_l15Step.f kj1 a0_1).bind fun ah => (if 5 + ah.size ≤ 9223372036854775807 then (some ((⟨#[100, 114, 97, 119, 32]⟩ : ByteArray) ++ ah)) else (none))) else (if (a0_0 == 3 && (a0_1 == 0 && (a0_2 == 0))) = true then (some (⟨#[97, 103, 97, 105, 110]⟩ : ByteArray)) else (if (a0_0 == 4 && (a0_1 == 0 && (a0_2 == 0))) = true then (some (⟨#[98, 97, 99, 107]⟩ : ByteArray)) else (some (⟨#[]⟩ : ByteArray))))))) = some r := by rw [if_neg (show ¬ (false = true) by decide)] at H; exact H
    by_cases c10 : (a0_0 == 0) = true
    ·
     rw [if_pos c10] at H; have aA : (a0_0 == 0) = true := c10; (try (have aB : decide (a0_0 = 0) = true := by simpa using c10)); (try (have aC : (a0_0 == 0) = true := by simpa using c10)); clear c10; obtain ⟨ab, A11, H⟩ := bnd_ H; (try dsimp only at H); replace H := i0_ H; obtain ⟨c12, H⟩ := H; have bz := eq_true c12; have bB : decide (4 + ab.size ≤ 9223372036854775807) = true := decide_eq_true c12; (try have bC : (9223372036854775807 < 4 + ab.size) = False := eq_false (Nat.not_lt.2 c12)); replace H := i0_ H; obtain ⟨c13, H⟩ := H; have bD := eq_true c13; have bE : decide (((⟨#[112, 117, 116, 32]⟩ : ByteArray) ++ ab).size + 1 ≤ 9223372036854775807) = true := decide_eq_true c13; (try have bF : (9223372036854775807 < ((⟨#[112, 117, 116, 32]⟩ : ByteArray) ++ ab).size + 1) = False := eq_false (Nat.not_lt.2 c13)); (try have bG : (9223372036854775807 < 4 + ab.size + 1) = False := eq_false (by have h := c13; simp only [ByteArray.size_append] at h; simp only [ByteArray.size] at h ⊢; simp at h ⊢; omega)); obtain ⟨af, A14, H⟩ := bnd_ H; (try dsimp only at H); replace H := i0_ H; obtain ⟨c15, H⟩ := H; have bH := eq_true c15; have bI : decide ((((⟨#[112, 117, 116, 32]⟩ : ByteArray) ++ ab) ++ (⟨#[32]⟩ : ByteArray)).size + af.size ≤ 9223372036854775807) = true := decide_eq_true c15; (try have bJ : (9223372036854775807 < (((⟨#[112, 117, 116, 32]⟩ : ByteArray) ++ ab) ++ (⟨#[32]⟩ : ByteArray)).size + af.size) = False := eq_false (Nat.not_lt.2 c15)); (try have bK : (9223372036854775807 < 4 + ab.size + 1 + af.size) = False := eq_false (by have h := c15; simp only [ByteArray.size_append] at h; simp only [ByteArray.size] at h ⊢; simp at h ⊢; omega)); obtain rfl := Option.some.inj H; obtain ⟨aP, aQ, aR, aU, aV, aW⟩ := cf3_ aa; (try go_wp2); replace aa := dB_ aa; replace HB := A_ (ld_ HB.out); refine sv_ (S := fun w' => w'.cell? ⟨aj, 0, none⟩ = some (.int .i64 a0_0) ∧ w'.cell? ⟨aj, 1, none⟩ = some (.int .i64 a0_1) ∧ w'.cell? ⟨aj, 2, none⟩ = some (.int .i64 a0_2)) (ds := []) hh_ (fun hHeld => ?_); refine with_tabW spec_DeedText.tab5 spec_DeedText.bits5 (fun HT_ HW_ => ?_); generalize wc.drew = bZ at aa HB hHeld ⊢; refine pv_ 0 ?_; refine pv_ 5 ?_; refine tv_ 1 ?_; refine tv_ 6 ?_; refine ov_ 2 (fun K hK => ?_); refine goes_ Tryz.func60 (by kernel_rfl) rfl #[.int .i64 a0_1] (by rfl) rfl rfl tz_ ?_; (with_reducible refine (spec_l15Step.calls kj1 a0_1 ab _ A11.out).mono ?_); rintro e b0 ⟨rfl, hb⟩; refine ⟨_, rfl, ?_⟩; replace aa := bb_ aa hb; replace HB := bs_ HB hb; (try clear hb); (try clear hb2); (try clear hk); (try clear hi); refine hK.out _ _ hh_ (fun hHeld => ?_); clear hK K; refine nr_ 23 ?_; refine pv_ 3 ?_; refine pv_ 4 ?_; refine ov_ 7 (fun K hK => ?_); refine goes_ Tryz.func60 (by kernel_rfl) rfl #[.int .i64 a0_2] (by rfl) rfl rfl tz_ ?_; (with_reducible refine (spec_l15Step.calls kj1 a0_2 af _ A14.out).mono ?_); rintro e b1 ⟨rfl, hb⟩; refine ⟨_, rfl, ?_⟩; replace aa := bb_ aa hb; replace HB := bs_ HB hb; (try clear hb); (try clear hb2); (try clear hk); (try clear hi); refine hK.out _ _ hh_ (fun hHeld => ?_); clear hK K; refine nr_ 28 ?_; refine pv_ 8 ?_; refine pv_ 9 ?_; refine done_ (done_of HT_.out (by kernel_rfl)) ?_; (try go_wp2); go_ret; exact ⟨tw_, (tb_ HB.out)⟩
    ·
     rw [if_neg c10] at H; have aA : (a0_0 == 0) = false := by simpa using c10
     (try (have aB : decide (a0_0 = 0) = false := by simpa using c10)); (try (have aC : (a0_0 == 0) = false := by simpa using c10)); (try (have bL : ¬ (a0_0 = 0) := by simpa using c10)); clear c10; by_cases c20 : (a0_0 == 1 && (a0_2 == 0)) = true
     ·
      rw [if_pos c20] at H; have aD : (a0_0 == 1 && (a0_2 == 0)) = true := c20; (try (have aE : decide (a0_0 = 1 && (a0_2 == 0)) = true := by simpa using c20)); (try (have aF : (a0_0 == 1 && (a0_2 == 0)) = true := by simpa using c20)); clear c20; obtain ⟨ag, A21, H⟩ := bnd_ H; (try dsimp only at H); replace H := i0_ H; obtain ⟨c22, H⟩ := H; have bM := eq_true c22; have bN : decide (5 + ag.size ≤ 9223372036854775807) = true := decide_eq_true c22; (try have bO : (9223372036854775807 < 5 + ag.size) = False := eq_false (Nat.not_lt.2 c22)); obtain rfl := Option.some.inj H; obtain ⟨aX, aY, aZ, a3, a4, a5⟩ := cf3_ aa; go_wp2_with (first | ((with_reducible refine gate_callee (f := 60) rfl ?_); refine gl_ (some 37) Tryz.func60 #[.int .i64 a0_1] ?_; (with_reducible refine (spec_l15Step.calls kj1 a0_1 ag _ A21.out).mono ?_); rintro e b2 ⟨rfl, hb⟩; refine ⟨_, rfl, ?_⟩; replace aa := bb_ aa hb; replace HB := bs_ HB hb; (try clear hb))); go_ret; exact ⟨tw_, (tb_ HB.out)⟩
     ·
      rw [if_neg c20] at H; have aD : (a0_0 == 1 && (a0_2 == 0)) = false := by simpa using c20
      (try (have aE : decide (a0_0 = 1 && (a0_2 == 0)) = false := by simpa using c20)); (try (have aF : (a0_0 == 1 && (a0_2 == 0)) = false := by simpa using c20)); (try (have bP : ¬ (a0_0 = 1 && (a0_2 == 0)) := by simpa using c20)); clear c20; by_cases c25 : (a0_0 == 2 && (a0_2 == 0)) = true
      ·
       rw [if_pos c25] at H; have aG : (a0_0 == 2 && (a0_2 == 0)) = true := c25; (try (have aH : decide (a0_0 = 2 && (a0_2 == 0)) = true := by simpa using c25)); (try (have aI : (a0_0 == 2 && (a0_2 == 0)) = true := by simpa using c25)); clear c25; obtain ⟨ah, A26, H⟩ := bnd_ H; (try dsimp only at H); replace H := i0_ H; obtain ⟨c27, H⟩ := H; have bQ := eq_true c27; have bR : decide (5 + ah.size ≤ 9223372036854775807) = true := decide_eq_true c27; (try have bS : (9223372036854775807 < 5 + ah.size) = False := eq_false (Nat.not_lt.2 c27)); obtain rfl := Option.some.inj H; obtain ⟨a6, a7, a8, a9, bb, bc⟩ := cf3_ aa; go_wp2_with (first | ((with_reducible refine gate_callee (f := 60) rfl ?_); refine gl_ (some 46) Tryz.func60 #[.int .i64 a0_1] ?_; (with_reducible refine (spec_l15Step.calls kj1 a0_1 ah _ A26.out).mono ?_); rintro e b3 ⟨rfl, hb⟩; refine ⟨_, rfl, ?_⟩; replace aa := bb_ aa hb; replace HB := bs_ HB hb; (try clear hb))); go_ret; exact ⟨tw_, (tb_ HB.out)⟩
      ·
       rw [if_neg c25] at H; have aG : (a0_0 == 2 && (a0_2 == 0)) = false := by simpa using c25
       (try (have aH : decide (a0_0 = 2 && (a0_2 == 0)) = false := by simpa using c25)); (try (have aI : (a0_0 == 2 && (a0_2 == 0)) = false := by simpa using c25)); (try (have bU : ¬ (a0_0 = 2 && (a0_2 == 0)) := by simpa using c25)); clear c25; by_cases c30 : (a0_0 == 3 && (a0_1 == 0 && (a0_2 == 0))) = true
       ·
        rw [if_pos c30] at H; have aJ : (a0_0 == 3 && (a0_1 == 0 && (a0_2 == 0))) = true := c30; (try (have aK : decide (a0_0 = 3 && (a0_1 == 0 && (a0_2 == 0))) = true := by simpa using c30)); (try (have aL : (a0_0 == 3 && (a0_1 == 0 && (a0_2 == 0))) = true := by simpa using c30)); clear c30; obtain rfl := Option.some.inj H; obtain ⟨bd, be, bf, bg, bh, bi⟩ := cf3_ aa; go_wp2; go_ret; exact ⟨tw_, (tb_ HB.out)⟩
       ·
        rw [if_neg c30] at H; have aJ : (a0_0 == 3 && (a0_1 == 0 && (a0_2 == 0))) = false := by simpa using c30
        (try (have aK : decide (a0_0 = 3 && (a0_1 == 0 && (a0_2 == 0))) = false := by simpa using c30)); (try (have aL : (a0_0 == 3 && (a0_1 == 0 && (a0_2 == 0))) = false := by simpa using c30)); (try (have bV : ¬ (a0_0 = 3 && (a0_1 == 0 && (a0_2 == 0))) := by simpa using c30)); clear c30; by_cases c32 : (a0_0 == 4 && (a0_1 == 0 && (a0_2 == 0))) = true
        ·
         rw [if_pos c32] at H; have aM : (a0_0 == 4 && (a0_1 == 0 && (a0_2 == 0))) = true := c32; (try (have aN : decide (a0_0 = 4 && (a0_1 == 0 && (a0_2 == 0))) = true := by simpa using c32)); (try (have aO : (a0_0 == 4 && (a0_1 == 0 && (a0_2 == 0))) = true := by simpa using c32)); clear c32; obtain rfl := Option.some.inj H; obtain ⟨bj, bk, bl, bm, bn, bo⟩ := cf3_ aa; go_wp2; go_ret; exact ⟨tw_, (tb_ HB.out)⟩
        ·
         rw [if_neg c32] at H; have aM : (a0_0 == 4 && (a0_1 == 0 && (a0_2 == 0))) = false := by simpa using c32
         (try (have aN : decide (a0_0 = 4 && (a0_1 == 0 && (a0_2 == 0))) = false := by simpa using c32)); (try (have aO : (a0_0 == 4 && (a0_1 == 0 && (a0_2 == 0))) = false := by simpa using c32)); (try (have bW : ¬ (a0_0 = 4 && (a0_1 == 0 && (a0_2 == 0))) := by simpa using c32)); clear c32; obtain rfl := Option.some.inj H; obtain ⟨bp, bq, br, bs, bu, bv⟩ := cf3_ aa; go_wp2; go_ret; exact ⟨tw_, (tb_ HB.out)⟩

end Go.Proofs.YtmcibffagofkjaaGreatDoor.MFnStoreCrash
