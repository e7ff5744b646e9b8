/- For the law FnExactStoreOpen: walks of the functions that it reaches: each call returns what the plain function beside it tells. The conditions stand in each statement. -/
import Derived.Test.YtmodbemkflkbeaaGreatDoorV
import Derived.Test.YtmodbemkflkbeaaGreatDoorMFnExactStoreOpenx0
import Derived.Test.YtmodbemkflkbeaaGreatDoorMFnExactStoreOpenx1
import Derived.Test.YtmodbemkflkbeaaGreatDoorMFnExactStoreOpenx2
import Derived.Test.YtmodbemkflkbeaaGreatDoorMFnExactStoreOpenx4
namespace Go.Proofs.YtmodbemkflkbeaaGreatDoor.MFnExactStoreOpen
open Go.RowKit Go.Proofs.YtmodbemkflkbeaaGreatDoorW.PrintWords Go.Proofs.YtmodbemkflkbeaaGreatDoorW.PrintLast Go.Proofs.YtmodbemkflkbeaaGreatDoorW.PrintMore
attribute [local go_sem] max2_int min2_int max_two min_two max_three min_three max_four min_four   -- for this text's walks alone
set_option linter.unusedVariables false
set_option linter.unusedSimpArgs false
set_option maxHeartbeats 8000000
set_option maxRecDepth 100000

attribute [local go_sem high] eqA57
/-! ### spec_DeedText: function 40 -/
def spec_DeedText.j0 : Nat → Bool → Int → Int → Int → Option (ByteArray)
 | 0, _, _, _, _ => none
 | k + 1, x12, ae, af, ag => if x12 = true then (some (⟨#[]⟩ : ByteArray)) else (if (ae == 0) = true then ((spec_l15Step.f k af).bind fun ad => (if 4 + ad.size ≤ 9223372036854775807 then (if ((⟨#[112, 117, 116, 32]⟩ : ByteArray) ++ ad).size + 1 ≤ 9223372036854775807 then ((spec_l15Step.f k ag).bind fun am => (if (((⟨#[112, 117, 116, 32]⟩ : ByteArray) ++ ad) ++ (⟨#[32]⟩ : ByteArray)).size + am.size ≤ 9223372036854775807 then (some ((((⟨#[112, 117, 116, 32]⟩ : ByteArray) ++ ad) ++ (⟨#[32]⟩ : ByteArray)) ++ am)) else (none))) else (none)) else (none))) else (if (ae == 1 && (ag == 0)) = true then ((spec_l15Step.f k af).bind fun ap => (if 5 + ap.size ≤ 9223372036854775807 then (some ((⟨#[115, 116, 101, 112, 32]⟩ : ByteArray) ++ ap)) else (none))) else (if (ae == 2 && (ag == 0)) = true then ((spec_l15Step.f k af).bind fun aq => (if 5 + aq.size ≤ 9223372036854775807 then (some ((⟨#[100, 114, 97, 119, 32]⟩ : ByteArray) ++ aq)) else (none))) else (if (ae == 3 && (af == 0 && (ag == 0))) = true then (some (⟨#[97, 103, 97, 105, 110]⟩ : ByteArray)) else (if (ae == 4 && (af == 0 && (ag == 0))) = true then (some (⟨#[98, 97, 99, 107]⟩ : ByteArray)) else (some (⟨#[]⟩ : ByteArray)))))))
def spec_DeedText.f (k : Nat) (a0_0 : Int) (a0_1 : Int) (a0_2 : Int) : Option (ByteArray) := (spec_l1In.f a0_1 (-99) 99).bind fun aI => (if aI = true then ((spec_l1In.f a0_2 (-99) 99).bind fun au => (spec_DeedText.j0 k (!au) a0_0 a0_1 a0_2)) else (spec_DeedText.j0 k true a0_0 a0_1 a0_2))
theorem spec_DeedText.mono_l : ∀ k, (∀ y0 y1 y2 y3, LeO (spec_DeedText.j0 k y0 y1 y2 y3) (spec_DeedText.j0 (k + 1) y0 y1 y2 y3))
 | 0 => fun _ _ _ _ r h => by simp [spec_DeedText.j0] at h
 | k + 1 => by
  have ih0 := spec_DeedText.mono_l k
  ·
   intro y0 y1 y2 y3
   unfold spec_DeedText.j0
   repeat' (with_reducible first | exact ih0 _ _ _ _ | exact spec_l15Step.mono _ _ | exact mr_ | exact mn_ | refine mi_ ?_ ?_ | refine mb_ ?_ (fun _ => ?_))
theorem spec_DeedText.mono : ∀ a0 a1 a2 k, LeO (spec_DeedText.f k a0 a1 a2) (spec_DeedText.f (k + 1) a0 a1 a2) := by
 intro a0 a1 a2 k; have ih0 := spec_DeedText.mono_l k; unfold spec_DeedText.f; repeat' (with_reducible first | exact ih0 _ _ _ _ | exact spec_l15Step.mono _ _ | exact mr_ | exact mn_ | refine mi_ ?_ ?_ | refine mb_ ?_ (fun _ => ?_))
def spec_DeedText.T5 : Bool × List (List Nat × List Nat) := (true, [([], []), ([0], [0]), ([1], [1]), ([2], [2]), ([3], [3]), ([], []), ([5], [5]), ([6, 2], [6]), ([4, 7], [4, 7]), ([8, 7, 0, 1, 2, 3, 4, 5, 6, 7, 8], [8])])
def spec_DeedText.B5 : List Nat := [0, 1, 3, 7, 15, 0, 32, 103, 255, 511]
theorem spec_DeedText.tab5 : rtab .any (opsOf Tryz.f40 5) = spec_DeedText.T5 := by kernel_rfl
theorem spec_DeedText.bits5 : waitsOk spec_DeedText.T5.2 spec_DeedText.B5 = true := by kernel_rfl
theorem spec_DeedText.calls (k : Nat) (a0_0 : Int) (a0_1 : Int) (a0_2 : Int) (r : ByteArray) (w : World) (h : spec_DeedText.f k a0_0 a0_1 a0_2 = some r) :
  Calls Tryz.prog 40 #[.agg #[.int .i64 a0_0, .int .i64 a0_1, .int .i64 a0_2]] w fun e w' => e = .returned (.string r) ∧ Below w.heap.size w w' := by
 have hu57 := Tryz.underlying57; have HB := A_ (Below.refl w.heap.size w); have H : ((spec_l1In.f a0_1 (-99) 99).bind fun aI => (if aI = true then ((spec_l1In.f a0_2 (-99) 99).bind fun au => (spec_DeedText.j0 k (!au) a0_0 a0_1 a0_2)) else (spec_DeedText.j0 k true a0_0 a0_1 a0_2))) = some r := h; clear h; have HC2 := A_ H; clear H; go_enter Tryz.func40, Tryz.ntmps40
 go_upto_region 1 with (first | ((with_reducible refine gate_dst (N := 1) rfl ?_); refine be_ 1 #[.int .i64 a0_0, .int .i64 a0_1, .int .i64 a0_2] 57 ?_; intro az hg w3 aa hb; have cg := gx_ HB hg; have ch := gx_ HB hg; replace HB := bs_ HB hb; clear hb hg))
 (try simp only [Act.put, sa_, sb_, sc_])
 go_cut [12] (fun cH wc => ∃ (kq : Nat) (aA : Bool), cH = .bool aA ∧ Aside0 (spec_DeedText.j0 kq aA a0_0 a0_1 a0_2 = some r) ∧ Aside0 (kq ≤ k) ∧ Aside0 (wc.heap[az]? = some (.cells #[.int .i64 a0_0, .int .i64 a0_1, .int .i64 a0_2] 57 (0, 0))) ∧ Aside0 (Below w.heap.size w wc))
 case first =>
  have H := HC2.out; clear HC2; obtain ⟨aI, A4, H⟩ := bnd_ H; (try dsimp only at H); by_cases c5 : aI = true
  ·
   subst c5; replace H : ((spec_l1In.f a0_2 (-99) 99).bind fun au => (spec_DeedText.j0 k (!au) a0_0 a0_1 a0_2)) = some r := by rw [if_pos rfl] at H; exact H
   obtain ⟨au, A6, H⟩ := bnd_ H; (try dsimp only at H); have H' := A_ H; clear H; obtain ⟨aP, aQ, aR, aU, aV, aW⟩ := cf3_ aa; go_wp2_with (first | ((with_reducible refine gate_callee (f := 23) rfl ?_); refine gl_ (some 5) Tryz.func23 #[.int .i64 a0_1, .int .i64 (-99), .int .i64 99] ?_; (with_reducible refine (spec_l1In.calls a0_1 (-99) 99 true _ A4.out).mono ?_); rintro e w' ⟨rfl, ⟨nd, rfl⟩⟩; refine ⟨_, rfl, ?_⟩) | (go_at_call 23; (with_reducible refine (spec_l1In.calls a0_2 (-99) 99 au _ A6.out).mono ?_); rintro e w' ⟨rfl, ⟨nd, rfl⟩⟩)); go_meet
   case rel => exact ⟨_, (!au), tx_, H', ⟨by first | omega | exact Nat.le_refl _⟩, ⟨tk_ aa.out⟩, ⟨(tb_ HB.out)⟩⟩
  ·
   replace c5 := Bool.eq_false_iff.mpr c5; subst c5; replace H : (spec_DeedText.j0 k true a0_0 a0_1 a0_2) = some r := by rw [if_neg (show ¬ (false = true) by decide)] at H; exact H
   have H' := A_ H; clear H; obtain ⟨aX, aY, aZ, a3, a4, a5⟩ := cf3_ aa; go_wp2_with (first | ((with_reducible refine gate_callee (f := 23) rfl ?_); refine gl_ (some 5) Tryz.func23 #[.int .i64 a0_1, .int .i64 (-99), .int .i64 99] ?_; (with_reducible refine (spec_l1In.calls a0_1 (-99) 99 false _ A4.out).mono ?_); rintro e w' ⟨rfl, ⟨nd, rfl⟩⟩; refine ⟨_, rfl, ?_⟩)); go_meet
   case rel => exact ⟨_, (true), tx_, H', ⟨by first | omega | exact Nat.le_refl _⟩, ⟨tk_ aa.out⟩, ⟨(tb_ HB.out)⟩⟩
 case rest =>
  clear HC2; obtain ⟨kq, aA, rfl, HA, HJ1, aa, HB⟩ := hcut
  cases kq with
  | zero => exact absurd HA.out (by simp [spec_DeedText.j0])
  | succ kj1 =>
   have H := HA.out; clear HA; simp only [spec_DeedText.j0] at H; by_cases c9 : aA = true
   ·
    subst c9; replace H : (some (⟨#[]⟩ : ByteArray)) = some r := by rw [if_pos rfl] at H; exact H
    obtain rfl := Option.some.inj H; go_wp2; go_ret; exact ⟨tw_, (tb_ HB.out)⟩
   ·
    replace c9 := Bool.eq_false_iff.mpr c9; subst c9; replace H : (if (a0_0 == 0) = true then ((spec_l15Step.f kj1 a0_1).bind fun ad => (if 4 + ad.size ≤ 9223372036854775807 then (if ((⟨#[112, 117, 116, 32]⟩ : ByteArray) ++ ad).size + 1 ≤ 9223372036854775807 then ((spec_l15Step.f kj1 a0_2).bind fun am => (if (((⟨#[112, 117, 116, 32]⟩ : ByteArray) ++ ad) ++ (⟨#[32]⟩ : ByteArray)).size + am.size ≤ 9223372036854775807 then (some ((((⟨#[112, 117, 116, 32]⟩ : ByteArray) ++ ad) ++ (⟨#[32]⟩ : ByteArray)) ++ am)) else (none))) else (none)) else (none))) else (if (a0_0 == 1 && (a0_2 == 0)) = true then ((spec_l15Step.f kj1 a0_1).bind fun ap => (if 5 + ap.size ≤ 9223372036854775807 then (some ((⟨#[115, 116, 101, 112, 32]⟩ : ByteArray) ++ ap)) else (none))) else (if (a0_0 == 2 && (a0_2 == 0)) = true then ((spec_l15Step.f kj1 a0_1).bind fun aq => (if 5 + aq.size ≤ 9223372036854775807 then (some ((⟨#[100, 114, 97, 119, 32]⟩ : ByteArray) ++ aq)) else (none))) else (if (a0_0 == 3 && (a0_1 == 0 && (a0_2 == 0))) = true then (some (⟨#[97, 103, 97, 105, 110]⟩ : ByteArray)) else (if (a0_0 == 4 && (a0_1 == 0 && (a0_2 == 0))) = true then (some (⟨#[98, 97, 99, 107]⟩ : ByteArray)) else (some (⟨#[]⟩ : ByteArray))))))) = some r := by rw [if_neg (show ¬ (false = true) by decide)] at H; exact H
    by_cases c10 : (a0_0 == 0) = true
    ·
     rw [if_pos c10] at H; have aL : (a0_0 == 0) = true := c10; (try (have aM : decide (a0_0 = 0) = true := by simpa using c10)); (try (have bb : (a0_0 == 0) = true := by simpa using c10)); clear c10; obtain ⟨ad, A11, H⟩ := bnd_ H; (try dsimp only at H); replace H := i0_ H; obtain ⟨c12, H⟩ := H; have ci := eq_true c12; have cj : decide (4 + ad.size ≤ 9223372036854775807) = true := decide_eq_true c12; (try have ck : (9223372036854775807 < 4 + ad.size) = False := eq_false (Nat.not_lt.2 c12)); replace H := i0_ H; obtain ⟨c13, H⟩ := H; have cm := eq_true c13; have cn : decide (((⟨#[112, 117, 116, 32]⟩ : ByteArray) ++ ad).size + 1 ≤ 9223372036854775807) = true := decide_eq_true c13; (try have co : (9223372036854775807 < ((⟨#[112, 117, 116, 32]⟩ : ByteArray) ++ ad).size + 1) = False := eq_false (Nat.not_lt.2 c13)); (try have cp : (9223372036854775807 < 4 + ad.size + 1) = False := eq_false (by have h := c13; simp only [ByteArray.size_append] at h; simp only [ByteArray.size] at h ⊢; simp at h ⊢; omega)); obtain ⟨am, A14, H⟩ := bnd_ H; (try dsimp only at H); replace H := i0_ H; obtain ⟨c15, H⟩ := H; have aN := eq_true c15; have aO : decide ((((⟨#[112, 117, 116, 32]⟩ : ByteArray) ++ ad) ++ (⟨#[32]⟩ : ByteArray)).size + am.size ≤ 9223372036854775807) = true := decide_eq_true c15; (try have cq : (9223372036854775807 < (((⟨#[112, 117, 116, 32]⟩ : ByteArray) ++ ad) ++ (⟨#[32]⟩ : ByteArray)).size + am.size) = False := eq_false (Nat.not_lt.2 c15)); (try have cr : (9223372036854775807 < 4 + ad.size + 1 + am.size) = False := eq_false (by have h := c15; simp only [ByteArray.size_append] at h; simp only [ByteArray.size] at h ⊢; simp at h ⊢; omega)); obtain rfl := Option.some.inj H; obtain ⟨bw, bx, bz, bB, bC, bD⟩ := cf3_ aa; (try go_wp2); replace aa := dB_ aa; replace HB := A_ (ld_ HB.out); refine sv_ (S := fun w' => w'.cell? ⟨az, 0, none⟩ = some (.int .i64 a0_0) ∧ w'.cell? ⟨az, 1, none⟩ = some (.int .i64 a0_1) ∧ w'.cell? ⟨az, 2, none⟩ = some (.int .i64 a0_2)) (ds := []) hh_ (fun hHeld => ?_); refine with_tabW spec_DeedText.tab5 spec_DeedText.bits5 (fun HT_ HW_ => ?_); generalize wc.drew = cO at aa HB hHeld ⊢; refine pv_ 0 ?_; refine pv_ 5 ?_; refine tv_ 1 ?_; refine tv_ 6 ?_; refine ov_ 2 (fun K hK => ?_); refine goes_ Tryz.func39 (by kernel_rfl) rfl #[.int .i64 a0_1] (by rfl) rfl rfl tz_ ?_; (with_reducible refine (spec_l15Step.calls kj1 a0_1 ad _ A11.out).mono ?_); rintro e cP ⟨rfl, hb⟩; refine ⟨_, rfl, ?_⟩; replace aa := bb_ aa hb; replace HB := bs_ HB hb; (try clear hb); (try clear hb2); (try clear hk); (try clear hi); refine hK.out _ _ hh_ (fun hHeld => ?_); clear hK K; refine nr_ 23 ?_; refine pv_ 3 ?_; refine pv_ 4 ?_; refine ov_ 7 (fun K hK => ?_); refine goes_ Tryz.func39 (by kernel_rfl) rfl #[.int .i64 a0_2] (by rfl) rfl rfl tz_ ?_; (with_reducible refine (spec_l15Step.calls kj1 a0_2 am _ A14.out).mono ?_); rintro e cQ ⟨rfl, hb⟩; refine ⟨_, rfl, ?_⟩; replace aa := bb_ aa hb; replace HB := bs_ HB hb; (try clear hb); (try clear hb2); (try clear hk); (try clear hi); refine hK.out _ _ hh_ (fun hHeld => ?_); clear hK K; refine nr_ 28 ?_; refine pv_ 8 ?_; refine pv_ 9 ?_; refine done_ (done_of HT_.out (by kernel_rfl)) ?_; (try go_wp2); go_ret; exact ⟨tw_, (tb_ HB.out)⟩
    ·
     rw [if_neg c10] at H; have aL : (a0_0 == 0) = false := by simpa using c10
     (try (have aM : decide (a0_0 = 0) = false := by simpa using c10)); (try (have bb : (a0_0 == 0) = false := by simpa using c10)); (try (have ct : ¬ (a0_0 = 0) := by simpa using c10)); clear c10; by_cases c20 : (a0_0 == 1 && (a0_2 == 0)) = true
     ·
      rw [if_pos c20] at H; have bc : (a0_0 == 1 && (a0_2 == 0)) = true := c20; (try (have bd : decide (a0_0 = 1 && (a0_2 == 0)) = true := by simpa using c20)); (try (have be : (a0_0 == 1 && (a0_2 == 0)) = true := by simpa using c20)); clear c20; obtain ⟨ap, A21, H⟩ := bnd_ H; (try dsimp only at H); replace H := i0_ H; obtain ⟨c22, H⟩ := H; have cu := eq_true c22; have cv : decide (5 + ap.size ≤ 9223372036854775807) = true := decide_eq_true c22; (try have cw : (9223372036854775807 < 5 + ap.size) = False := eq_false (Nat.not_lt.2 c22)); obtain rfl := Option.some.inj H; obtain ⟨bE, bF, bG, bH, bI, bJ⟩ := cf3_ aa; go_wp2_with (first | ((with_reducible refine gate_callee (f := 39) rfl ?_); refine gl_ (some 37) Tryz.func39 #[.int .i64 a0_1] ?_; (with_reducible refine (spec_l15Step.calls kj1 a0_1 ap _ A21.out).mono ?_); rintro e cR ⟨rfl, hb⟩; refine ⟨_, rfl, ?_⟩; replace aa := bb_ aa hb; replace HB := bs_ HB hb; (try clear hb))); go_ret; exact ⟨tw_, (tb_ HB.out)⟩
     ·
      rw [if_neg c20] at H; have bc : (a0_0 == 1 && (a0_2 == 0)) = false := by simpa using c20
      (try (have bd : decide (a0_0 = 1 && (a0_2 == 0)) = false := by simpa using c20)); (try (have be : (a0_0 == 1 && (a0_2 == 0)) = false := by simpa using c20)); (try (have cx : ¬ (a0_0 = 1 && (a0_2 == 0)) := by simpa using c20)); clear c20; by_cases c25 : (a0_0 == 2 && (a0_2 == 0)) = true
      ·
       rw [if_pos c25] at H; have bf : (a0_0 == 2 && (a0_2 == 0)) = true := c25; (try (have bg : decide (a0_0 = 2 && (a0_2 == 0)) = true := by simpa using c25)); (try (have bh : (a0_0 == 2 && (a0_2 == 0)) = true := by simpa using c25)); clear c25; obtain ⟨aq, A26, H⟩ := bnd_ H; (try dsimp only at H); replace H := i0_ H; obtain ⟨c27, H⟩ := H; have cy := eq_true c27; have cz : decide (5 + aq.size ≤ 9223372036854775807) = true := decide_eq_true c27; (try have cA : (9223372036854775807 < 5 + aq.size) = False := eq_false (Nat.not_lt.2 c27)); obtain rfl := Option.some.inj H; obtain ⟨bK, bL, bM, bN, bO, bP⟩ := cf3_ aa; go_wp2_with (first | ((with_reducible refine gate_callee (f := 39) rfl ?_); refine gl_ (some 46) Tryz.func39 #[.int .i64 a0_1] ?_; (with_reducible refine (spec_l15Step.calls kj1 a0_1 aq _ A26.out).mono ?_); rintro e cS ⟨rfl, hb⟩; refine ⟨_, rfl, ?_⟩; replace aa := bb_ aa hb; replace HB := bs_ HB hb; (try clear hb))); go_ret; exact ⟨tw_, (tb_ HB.out)⟩
      ·
       rw [if_neg c25] at H; have bf : (a0_0 == 2 && (a0_2 == 0)) = false := by simpa using c25
       (try (have bg : decide (a0_0 = 2 && (a0_2 == 0)) = false := by simpa using c25)); (try (have bh : (a0_0 == 2 && (a0_2 == 0)) = false := by simpa using c25)); (try (have cB : ¬ (a0_0 = 2 && (a0_2 == 0)) := by simpa using c25)); clear c25; by_cases c30 : (a0_0 == 3 && (a0_1 == 0 && (a0_2 == 0))) = true
       ·
        rw [if_pos c30] at H; have bi : (a0_0 == 3 && (a0_1 == 0 && (a0_2 == 0))) = true := c30; (try (have bj : decide (a0_0 = 3 && (a0_1 == 0 && (a0_2 == 0))) = true := by simpa using c30)); (try (have bk : (a0_0 == 3 && (a0_1 == 0 && (a0_2 == 0))) = true := by simpa using c30)); clear c30; obtain rfl := Option.some.inj H; obtain ⟨bQ, bR, bS, bU, bV, bW⟩ := cf3_ aa; go_wp2; go_ret; exact ⟨tw_, (tb_ HB.out)⟩
       ·
        rw [if_neg c30] at H; have bi : (a0_0 == 3 && (a0_1 == 0 && (a0_2 == 0))) = false := by simpa using c30
        (try (have bj : decide (a0_0 = 3 && (a0_1 == 0 && (a0_2 == 0))) = false := by simpa using c30)); (try (have bk : (a0_0 == 3 && (a0_1 == 0 && (a0_2 == 0))) = false := by simpa using c30)); (try (have cC : ¬ (a0_0 = 3 && (a0_1 == 0 && (a0_2 == 0))) := by simpa using c30)); clear c30; by_cases c32 : (a0_0 == 4 && (a0_1 == 0 && (a0_2 == 0))) = true
        ·
         rw [if_pos c32] at H; have bl : (a0_0 == 4 && (a0_1 == 0 && (a0_2 == 0))) = true := c32; (try (have bm : decide (a0_0 = 4 && (a0_1 == 0 && (a0_2 == 0))) = true := by simpa using c32)); (try (have bn : (a0_0 == 4 && (a0_1 == 0 && (a0_2 == 0))) = true := by simpa using c32)); clear c32; obtain rfl := Option.some.inj H; obtain ⟨bX, bZ, b0, b1, b2, b3⟩ := cf3_ aa; go_wp2; go_ret; exact ⟨tw_, (tb_ HB.out)⟩
        ·
         rw [if_neg c32] at H; have bl : (a0_0 == 4 && (a0_1 == 0 && (a0_2 == 0))) = false := by simpa using c32
         (try (have bm : decide (a0_0 = 4 && (a0_1 == 0 && (a0_2 == 0))) = false := by simpa using c32)); (try (have bn : (a0_0 == 4 && (a0_1 == 0 && (a0_2 == 0))) = false := by simpa using c32)); (try (have cD : ¬ (a0_0 = 4 && (a0_1 == 0 && (a0_2 == 0))) := by simpa using c32)); clear c32; obtain rfl := Option.some.inj H; obtain ⟨b4, b5, b6, b7, b8, b9⟩ := cf3_ aa; go_wp2; go_ret; exact ⟨tw_, (tb_ HB.out)⟩

/-! ### spec_ReadDeed: function 28 -/
mutual
def spec_ReadDeed.j0 : Nat → ByteArray → List ByteArray → List (S57) → Option (Int × Int × Int × Bool)
 | 0, _, _, _ => none
 | k + 1, x0, x4, x5 => if (x4.length : Int) = 3 then (if 1 < (x4.length : Int) then ((spec_l15Signed.f k (rdOf ByteArray.empty x4 1)).bind fun aw => (if 2 < (x4.length : Int) then ((spec_l15Signed.f k (rdOf ByteArray.empty x4 2)).bind fun ax => (if x5.length < 5864062014805 then (spec_ReadDeed.j1 k x0 (x5 ++ [(⟨0, aw, ax⟩ : S57)])) else (none))) else (none))) else (none)) else (spec_ReadDeed.j1 k x0 x5)
def spec_ReadDeed.j1 : Nat → ByteArray → List (S57) → Option (Int × Int × Int × Bool)
 | 0, _, _ => none
 | k + 1, x0, x5 => spec_ReadDeed.l0 k x0 x5 0
def spec_ReadDeed.l0 : Nat → ByteArray → List (S57) → Int → Option (Int × Int × Int × Bool)
 | 0, _, _, _ => none
 | k + 1, x0, x5, x7 => if x7 < (x5.length : Int) then (if x0.toList = ([] : List UInt8) then (spec_ReadDeed.l0 k x0 x5 (wrap64 (x7 + 1))) else (if 0 ≤ x7 then ((spec_DeedText.f k ((rd_T57 x5 x7).f0) ((rd_T57 x5 x7).f1) ((rd_T57 x5 x7).f2)).bind fun ay => (if ay.toList = x0.toList then (some ((rd_T57 x5 x7).f0, (rd_T57 x5 x7).f1, (rd_T57 x5 x7).f2, true)) else (spec_ReadDeed.l0 k x0 x5 (wrap64 (x7 + 1))))) else (none))) else (some (0, 0, 0, false))
end
def spec_ReadDeed.f (k : Nat) (a0 : ByteArray) : Option (Int × Int × Int × Bool) := (spec_l1Cut.f k a0 32).bind fun ab => ((some (([(⟨3, 0, 0⟩ : S57), (⟨4, 0, 0⟩ : S57)] : List (S57)) : List (S57))).bind fun a6 => (if (ab.length : Int) = 2 then (if 1 < (ab.length : Int) then ((spec_l15Signed.f k (rdOf ByteArray.empty ab 1)).bind fun ah => ((some (([(⟨1, ah, 0⟩ : S57), (⟨2, ah, 0⟩ : S57)] : List (S57)) : List (S57))).bind fun bo => (if a6.length + bo.length < 5864062014805 then (spec_ReadDeed.j0 k a0 ab (a6 ++ bo)) else (none)))) else (none)) else (spec_ReadDeed.j0 k a0 ab a6)))
theorem spec_ReadDeed.mono_l : ∀ k, (∀ y0 y1 y2, LeO (spec_ReadDeed.j0 k y0 y1 y2) (spec_ReadDeed.j0 (k + 1) y0 y1 y2)) ∧ (∀ y0 y1, LeO (spec_ReadDeed.j1 k y0 y1) (spec_ReadDeed.j1 (k + 1) y0 y1)) ∧ (∀ y0 y1 y2, LeO (spec_ReadDeed.l0 k y0 y1 y2) (spec_ReadDeed.l0 (k + 1) y0 y1 y2))
 | 0 => ⟨fun _ _ _ r h => by simp [spec_ReadDeed.j0] at h, fun _ _ r h => by simp [spec_ReadDeed.j1] at h, fun _ _ _ r h => by simp [spec_ReadDeed.l0] at h⟩
 | k + 1 => by
  obtain ⟨ih0, ih1, ih2⟩ := spec_ReadDeed.mono_l k
  refine ⟨?_, ?_, ?_⟩
  ·
   intro y0 y1 y2
   unfold spec_ReadDeed.j0
   repeat' (with_reducible first | exact ih0 _ _ _ | exact ih1 _ _ | exact ih2 _ _ _ | exact spec_DeedText.mono _ _ _ _ | exact spec_l15Signed.mono _ _ | exact spec_l1Cut.mono _ _ _ | exact mr_ | exact mn_ | refine mi_ ?_ ?_ | refine mb_ ?_ (fun _ => ?_))
  ·
   intro y0 y1
   unfold spec_ReadDeed.j1
   repeat' (with_reducible first | exact ih0 _ _ _ | exact ih1 _ _ | exact ih2 _ _ _ | exact spec_DeedText.mono _ _ _ _ | exact spec_l15Signed.mono _ _ | exact spec_l1Cut.mono _ _ _ | exact mr_ | exact mn_ | refine mi_ ?_ ?_ | refine mb_ ?_ (fun _ => ?_))
  ·
   intro y0 y1 y2
   unfold spec_ReadDeed.l0
   repeat' (with_reducible first | exact ih0 _ _ _ | exact ih1 _ _ | exact ih2 _ _ _ | exact spec_DeedText.mono _ _ _ _ | exact spec_l15Signed.mono _ _ | exact spec_l1Cut.mono _ _ _ | exact mr_ | exact mn_ | refine mi_ ?_ ?_ | refine mb_ ?_ (fun _ => ?_))
theorem spec_ReadDeed.mono : ∀ a0 k, LeO (spec_ReadDeed.f k a0) (spec_ReadDeed.f (k + 1) a0) := by
 intro a0 k; obtain ⟨ih0, ih1, ih2⟩ := spec_ReadDeed.mono_l k; unfold spec_ReadDeed.f; repeat' (with_reducible first | exact ih0 _ _ _ | exact ih1 _ _ | exact ih2 _ _ _ | exact spec_DeedText.mono _ _ _ _ | exact spec_l15Signed.mono _ _ | exact spec_l1Cut.mono _ _ _ | exact mr_ | exact mn_ | refine mi_ ?_ ?_ | refine mb_ ?_ (fun _ => ?_))
def spec_ReadDeed.T7 : Bool × List (List Nat × List Nat) := (true, [([], []), ([], []), ([1], [1]), ([2], [2]), ([3], [3]), ([], []), ([5], [5]), ([6], [6]), ([7, 4], [7]), ([4, 8], [4, 8]), ([9], [9]), ([0, 10, 8], [0, 10]), ([11, 11, 0, 1, 2, 3, 4, 5, 6, 7, 8, 9, 10, 11], [0, 11])])
def spec_ReadDeed.B7 : List Nat := [0, 0, 2, 6, 14, 0, 32, 96, 254, 510, 1022, 2047, 4095]
theorem spec_ReadDeed.tab7 : rtab .any (opsOf Tryz.f28 7) = spec_ReadDeed.T7 := by kernel_rfl
theorem spec_ReadDeed.bits7 : waitsOk spec_ReadDeed.T7.2 spec_ReadDeed.B7 = true := by kernel_rfl
theorem spec_ReadDeed.z0 {P_ : Prop} (h_ : P_ := by go_wp2_with (first | ((with_reducible refine gate_dst (N := 17) rfl ?_); (try clear ix_); obtain ⟨p_, q_, ad_, e_, x0⟩ := a2_ (Kd.at_string (gC_ st Kd.string B9_0 ab) 1); have ix_ := ix1_ Tryz.underlying52 e_ p_ q_ (c := d9_0); clear e_; (try simp only [Addr.add, Int.reduceToNat, Nat.reduceMul, Nat.reduceEqDiff, ↓reduceIte] at ix_ x0); go_step) | ((with_reducible refine gate_callee (f := 25) rfl ?_); refine ca_ (some 19) Tryz.func25 _ (spec_l15Signed.calls k _ _ _ A_19.out) ?_; rintro e w_ ⟨rfl, hb⟩; refine ⟨_, rfl, ?_⟩; replace hb := hb.below; replace st := st.ev hb; clear cl hb; have cl := cl_ st) | ((with_reducible refine gate_dst (N := 25) rfl ?_); refine nw_ k57 57 (([(⟨1, ah, 0⟩ : S57), (⟨2, ah, 0⟩ : S57)] : List (S57)) : List (S57)) [.int .i64 1, .int .i64 ah, .int .i64 0, .int .i64 2, .int .i64 ah, .int .i64 0] st ?_ (hrep := by repeat (first | exact Reps.none _ _ | refine Reps.c3 (k57_mkM _ _ _ _) ?_)); clear st cl; intro B25_0 d25_0 w_ st; have cl := cl_ st) | ((with_reducible refine gate_dst (N := 26) rfl ?_); refine apr_ B12_0 (([(⟨3, 0, 0⟩ : S57), (⟨4, 0, 0⟩ : S57)] : List (S57))) (([(⟨1, ah, 0⟩ : S57), (⟨2, ah, 0⟩ : S57)] : List (S57))) B25_0 d25_0 ((.agg #[(.int .i64 0), (.int .i64 0), (.int .i64 0)])) 24 st Tryz.underlying41 (gt_ st) ?_ (hl := by have := ca.out; omega) (hKM := fun x _ h => k57_open h ▸ k57_mkM _ _ _ x); clear st cl; intro P26 q26 w_ st; have cl := cl_ st)); first | (go_meet; (case rel => exact ⟨_, (((([(⟨3, 0, 0⟩ : S57), (⟨4, 0, 0⟩ : S57)] : List (S57))) ++ (([(⟨1, ah, 0⟩ : S57), (⟨2, ah, 0⟩ : S57)] : List (S57))))), P26, q26, tx_, H', ⟨by first | omega | exact Nat.le_refl _⟩, st.en⟩)) | (go_meet; (case rel => exact ⟨_, ((([(⟨3, 0, 0⟩ : S57), (⟨4, 0, 0⟩ : S57)] : List (S57)))), B12_0, d12_0, tx_, H', ⟨by first | omega | exact Nat.le_refl _⟩, st.en⟩))) : P_ := h_
theorem spec_ReadDeed.z1 {P_ : Prop} (h_ : P_ := by go_wp2_with (first | ((with_reducible refine gate_dst (N := 53) rfl ?_); (try clear ix_); obtain ⟨p_, q_, ad_, e_, x0, x1, x2⟩ := a2_ (at_T57 (gC_ st k57 aC ai) an); have ix_ := ix3_ Tryz.underlying41 e_ p_ q_ (c := aD); clear e_; go_step) | ((with_reducible refine gate_callee (f := 40) rfl ?_); refine gate_guard (by rfl) ?_; dsimp only; refine ca_ (some 55) Tryz.func40 _ (spec_DeedText.calls k3 _ _ _ _ _ A_55.out) ?_; rintro e w_ ⟨rfl, hb⟩; refine ⟨_, rfl, ?_⟩; replace st := st.ev hb; clear cl hb; have cl := cl_ st) | ((with_reducible refine gate_dst (N := 61) rfl ?_); (try clear ix_); obtain ⟨p_, q_, ad_, e_, x0, x1, x2⟩ := a2_ (at_T57 (gC_ st k57 aC ai) an); have ix_ := ix3_ Tryz.underlying41 e_ p_ q_ (c := aD); clear e_; go_step) | ((with_reducible refine gate_store (p := 2) rfl ?_); refine so3_ st ?_; clear st cl; intro w_ st; have cl := cl_ st)); first | (go_roundg k3; (case measure => have := HJ2.out; have := HJ7.out; have := HK3.out; omega); (case rel => exact ⟨(wrap64 (an + 1)), (aj), (ak), (al), tx_, H', ⟨by have := HJ2.out; have := HJ7.out; have := HK3.out; omega⟩, st.en⟩)) | (refine bodyPost_ret (rct_ st Tryz.underlying57) rfl ?_; exact ⟨tw_, st.b⟩)) : P_ := h_
theorem spec_ReadDeed.calls (k : Nat) (a0 : ByteArray) (r1 : Int) (r2 : Int) (r3 : Int) (r4 : Bool) (w : World) (h : spec_ReadDeed.f k a0 = some (r1, r2, r3, r4)) :
  Calls Tryz.prog 28 #[.string a0] w fun e w' => e = .returned (.tuple #[.agg #[.int .i64 r1, .int .i64 r2, .int .i64 r3], .bool r4]) ∧ Below w.heap.size w w' := by
 have hu57 := Tryz.underlying57; have st := ST.nil w; have s0 := st; have cl := cl_ st; have H := h; clear h; unfold spec_ReadDeed.f at H; go_enter Tryz.func28, Tryz.ntmps28; obtain ⟨ab, A_9, H⟩ := bnd_ H; replace H := sm_ H; (try dsimp only at H); have HC3 := A_ H; clear H
 go_upto_if 15 with (first | ((with_reducible refine gate_dst (N := 2) rfl ?_); refine al_ st ?_; clear st cl; intro g2 w_ st; have cl := cl_ st) | ((with_reducible refine gate_callee (f := 24) rfl ?_); refine ca_ (some 9) Tryz.func24 _ (spec_l1Cut.calls k _ _ _ _ A_9.out) ?_; rintro e w_ ⟨v0, rfl, h0, hb⟩; refine ⟨_, rfl, ?_⟩; obtain ⟨B9_0, d9_0, rfl⟩ := Kd.R_slice h0; replace st := st.p1 hb (st.mr h0); clear cl hb h0; have cl := cl_ st) | ((with_reducible refine gate_dst (N := 12) rfl ?_); refine nwl_ k57 57 (([(⟨3, 0, 0⟩ : S57), (⟨4, 0, 0⟩ : S57)] : List (S57)) : List (S57)) [.int .i64 3, .int .i64 0, .int .i64 0, .int .i64 4, .int .i64 0, .int .i64 0] st ?_ (hrep := by repeat (first | exact Reps.none _ _ | refine Reps.c3 (k57_mkM _ _ _ _) ?_)); clear st cl; intro B12_0 d12_0 w_ st; have cl := cl_ st))
 (try simp only [Act.put, sa_, sb_, sc_])
 go_cut [5] (fun v5 wc => ∃ (kq : Nat) (ao : List (S57)) (aE : Option Addr) (aK : Nat), v5 = .slice aE ao.length aK ∧ Aside0 (spec_ReadDeed.j0 kq a0 ab ao = some (r1, r2, r3, r4)) ∧ Aside0 (kq ≤ k) ∧ ST w [AR Kd.string 9 w.heap.size (.slice B9_0 ab.length d9_0) ab] [AR k57 57 w.heap.size (.slice aE ao.length aK) ao, Bx g2 #[.int .i64 0, .int .i64 0, .int .i64 0] 57] wc)
 case first =>
  have H := HC3.out; clear HC3; by_cases c4 : (ab.length : Int) = 2
  ·
   rw [if_pos c4] at H; have aF : ((ab.length : Int) == 2) = true := beq_iff_eq.mpr c4; have cb : ((ab.length : Int) != 2) = false := bne_eq_false_iff_eq.mpr c4; clear c4; (first | rw [aF] | (simp only [i64_w, i32_w]; rw [aF]) | skip); replace H := i0_ H; obtain ⟨c5, H⟩ := H; have cI : decide (1 < (ab.length : Int)) = true := decide_eq_true c5; have cJ : decide (1 < ab.length) = true := decide_eq_true (by omega); clear c5; obtain ⟨ah, A_19, H⟩ := bnd_ H; replace H := sm_ H; (try dsimp only at H); replace H := il_ H; obtain ⟨ca, H⟩ := H; have H' := A_ H; clear H; exact spec_ReadDeed.z0
  ·
   rw [if_neg c4] at H; have aF : ((ab.length : Int) == 2) = false := beq_eq_false_iff_ne.mpr c4; have cb : ((ab.length : Int) != 2) = true := bne_iff_ne.mpr c4; (first | rw [aF] | (simp only [i64_w, i32_w]; rw [aF]) | skip); have H' := A_ H; clear H; exact spec_ReadDeed.z0
 case rest =>
  clear HC3 st cl; obtain ⟨kq, ao, aE, aK, rfl, HA, HJ2, st⟩ := hcut; have cl := cl_ st
  cases kq with
  | zero => exact absurd HA.out (by simp [spec_ReadDeed.j0])
  | succ kj2 =>
   have H := HA.out; clear HA; simp only [spec_ReadDeed.j0] at H; have HC8 := A_ H; clear H
   go_upto_if 29 with (fail)
   go_cut [5] (fun v5 wc => ∃ (kq : Nat) (ai : List (S57)) (aC : Option Addr) (aD : Nat), v5 = .slice aC ai.length aD ∧ Aside0 (spec_ReadDeed.j1 kq a0 ai = some (r1, r2, r3, r4)) ∧ Aside0 (kq ≤ kj2) ∧ ST w [AR k57 57 w.heap.size (.slice aC ai.length aD) ai] [Bx g2 #[.int .i64 0, .int .i64 0, .int .i64 0] 57] wc)
   case first =>
    have H := HC8.out; clear HC8; by_cases c9 : (ab.length : Int) = 3
    ·
     rw [if_pos c9] at H; have aG : ((ab.length : Int) == 3) = true := beq_iff_eq.mpr c9; have bp : ((ab.length : Int) != 3) = false := bne_eq_false_iff_eq.mpr c9; clear c9; (first | rw [aG] | (simp only [i64_w, i32_w]; rw [aG]) | skip); replace H := i0_ H; obtain ⟨c10, H⟩ := H; have aL : decide (1 < (ab.length : Int)) = true := decide_eq_true c10; have aM : decide (1 < ab.length) = true := decide_eq_true (by omega); clear c10; obtain ⟨aw, A_34, H⟩ := bnd_ H; replace H := i0_ H; obtain ⟨c11, H⟩ := H; have cE : decide (2 < (ab.length : Int)) = true := decide_eq_true c11; have cF : decide (2 < ab.length) = true := decide_eq_true (by omega); clear c11; obtain ⟨ax, A_38, H⟩ := bnd_ H; replace H := il_ H; obtain ⟨bq, H⟩ := H; have H' := A_ H; clear H; (try go_wp2); (all_goals ((try clear ix_); obtain ⟨p_, q_, ad_260, e_260, x0⟩ := a2_ (Kd.at_string (gC_ st Kd.string B9_0 ab) 1); have ix260 := ix1_ Tryz.underlying52 e_260 p_ q_ (c := d9_0); (try simp only [Addr.add, Int.reduceToNat, Nat.reduceMul, Nat.reduceEqDiff, ↓reduceIte] at ix260); replace e_260 := A_ e_260; clear x0; obtain ⟨p_, q_, ad_262, e_262, x0⟩ := a2_ (Kd.at_string (gC_ st Kd.string B9_0 ab) 2); have ix262 := ix1_ Tryz.underlying52 e_262 p_ q_ (c := d9_0); (try simp only [Addr.add, Int.reduceToNat, Nat.reduceMul, Nat.reduceEqDiff, ↓reduceIte] at ix262); replace e_262 := A_ e_262; clear x0; refine rg_ st [] ?_; clear st cl; intro w_ st hs; have cl := cl_ st; refine with_tabW spec_ReadDeed.tab7 spec_ReadDeed.bits7 (fun HT_ HW_ => ?_); refine pv_ 0 ?_; refine pv_ 1 ?_; refine pv_ 2 ?_; refine pv_ 5 ?_; refine pv_ 6 ?_; refine tu_ 3 ?_ (hy := by intro w' s_; have cl := cl_ s_; obtain ⟨_, _, _, e_, x0⟩ := a2_ (Kd.at_string (gC_ s_ Kd.string B9_0 ab) 1); rw [cq_ e_260.out e_] at x0; (try simp only [Addr.add, Int.reduceToNat, Nat.reduceMul, Nat.reduceEqDiff, ↓reduceIte] at x0); clear e_; go_simp; first | with_reducible rfl | (rw [if_neg (by omega)]; done)); refine tu_ 7 ?_ (hy := by intro w' s_; have cl := cl_ s_; obtain ⟨_, _, _, e_, x0⟩ := a2_ (Kd.at_string (gC_ s_ Kd.string B9_0 ab) 2); rw [cq_ e_262.out e_] at x0; (try simp only [Addr.add, Int.reduceToNat, Nat.reduceMul, Nat.reduceEqDiff, ↓reduceIte] at x0); clear e_; go_simp; first | with_reducible rfl | (rw [if_neg (by omega)]; done)); refine ov_ 4 (fun K hK => ?_); refine ca2_ (some 34) Tryz.func25 _ (spec_l15Signed.calls kj2 _ _ _ A_34.out) ?_; rintro e w_ ⟨rfl, hb⟩; refine ⟨_, rfl, ?_⟩; replace hb := hb.below; replace st := st.ev hb; clear cl hb; have cl := cl_ st; refine hK.out _ _ st.en (fun hs => ?_); clear hK K; refine nr_ 34 ?_; refine ov_ 8 (fun K hK => ?_); refine ca2_ (some 38) Tryz.func25 _ (spec_l15Signed.calls kj2 _ _ _ A_38.out) ?_; rintro e w_ ⟨rfl, hb⟩; refine ⟨_, rfl, ?_⟩; replace hb := hb.below; replace st := st.ev hb; clear cl hb; have cl := cl_ st; refine hK.out _ _ st.en (fun hs => ?_); clear hK K; refine nr_ 38 ?_; refine pv_ 9 ?_; refine ov_ 10 (fun K hK => ?_); refine bs2_ st [.int .i64 0, .int .i64 aw, .int .i64 ax] 57 ?_; refine hK.out _ _ (st.ev (la_ (Below.refl _ _) _)).en (fun hs => ?_); clear hK K; refine nr_ 40 ?_; refine ov_ 11 (fun K hK => ?_); refine ap2_ aE ao (⟨0, aw, ax⟩ : S57) [.int .i64 0, .int .i64 aw, .int .i64 ax] ((.agg #[(.int .i64 0), (.int .i64 0), (.int .i64 0)])) 24 st Tryz.underlying41 ?_ (hl := by have := bq.out; omega) (hp := k57_mkM _ _ _ _); clear st cl; intro P41 q41 w_ st; have cl := cl_ st; refine hK.out _ _ st.en (fun hs => ?_); clear hK K; refine nr_ 41 ?_; refine pv_ 12 ?_; refine done_ (done_of HT_.out (by kernel_rfl)) ?_; clear ix260 ix262; all_goals (try go_wp2))); go_meet
     case rel => exact ⟨_, ((ao ++ [(⟨0, aw, ax⟩ : S57)])), P41, q41, tx_, H', ⟨by have := HJ2.out; first | omega | exact Nat.le_refl _⟩, (st.lp P41 (ao ++ [(⟨0, aw, ax⟩ : S57)])).en⟩
    ·
     rw [if_neg c9] at H; have aG : ((ab.length : Int) == 3) = false := beq_eq_false_iff_ne.mpr c9; have bp : ((ab.length : Int) != 3) = true := bne_iff_ne.mpr c9; (first | rw [aG] | (simp only [i64_w, i32_w]; rw [aG]) | skip); have H' := A_ H; clear H; go_wp2; go_meet
     case rel => exact ⟨_, (ao), aE, aK, tx_, H', ⟨by have := HJ2.out; first | omega | exact Nat.le_refl _⟩, (st.lp aE ao).en⟩
   case rest =>
    clear HC8 st cl; obtain ⟨kq, ai, aC, aD, rfl, HA, HJ7, st⟩ := hcut; have cl := cl_ st
    cases kq with
    | zero => exact absurd HA.out (by simp [spec_ReadDeed.j1])
    | succ kj7 =>
     have H := HA.out; clear HA; simp only [spec_ReadDeed.j1] at H; have H' := A_ H; clear H; go_wp2
     go_loopg [7] kj7 (fun kq v7 w' => ∃ (an : Int) (aj : Int) (ak : Int) (al : Int), v7 = .int .i64 an ∧ Aside0 (spec_ReadDeed.l0 kq a0 ai an = some (r1, r2, r3, r4)) ∧ Aside0 (kq ≤ kj7) ∧ ST w [AR k57 57 w.heap.size (.slice aC ai.length aD) ai] [Bx g2 #[.int .i64 aj, .int .i64 ak, .int .i64 al] 57] w')
     case atStart => exact ⟨(0), (0), (0), (0), tx_, H', ⟨Nat.le_refl _⟩, st.en⟩
     case round =>
      clear H' st cl; obtain ⟨an, aj, ak, al, rfl, HA, HK3, st⟩ := hrel; have cl := cl_ st
      cases gk with
      | zero => exact absurd HA.out (by simp [spec_ReadDeed.l0])
      | succ k3 =>
       have H := HA.out; clear HA; simp only [spec_ReadDeed.l0] at H; replace H := it_ H; rcases H with ⟨br, H⟩ | ⟨br, H⟩
       ·
        by_cases c15 : a0.toList = ([] : List UInt8)
        ·
         rw [if_pos c15] at H; have aN : (a0.toList == ([] : List UInt8)) = true := beq_iff_eq.mpr c15; have aO : (a0.toList != ([] : List UInt8)) = false := bne_eq_false_iff_eq.mpr c15; clear c15; have H' := A_ H; clear H; exact spec_ReadDeed.z1
        ·
         rw [if_neg c15] at H; have aN : (a0.toList == ([] : List UInt8)) = false := beq_eq_false_iff_ne.mpr c15; have aO : (a0.toList != ([] : List UInt8)) = true := bne_iff_ne.mpr c15; replace H := in_ H; obtain ⟨cG, H⟩ := H; obtain ⟨ay, A_55, H⟩ := bnd_ H; by_cases c17 : ay.toList = a0.toList
         ·
          rw [if_pos c17] at H; have bs : (ay.toList == a0.toList) = true := beq_iff_eq.mpr c17; have bu : (ay.toList != a0.toList) = false := bne_eq_false_iff_eq.mpr c17; clear c17; simp only [Option.some.injEq, Prod.mk.injEq] at H; obtain ⟨rfl, rfl, rfl, rfl⟩ := H; exact spec_ReadDeed.z1
         ·
          rw [if_neg c17] at H; have bs : (ay.toList == a0.toList) = false := beq_eq_false_iff_ne.mpr c17; have bu : (ay.toList != a0.toList) = true := bne_iff_ne.mpr c17; have H' := A_ H; clear H; exact spec_ReadDeed.z1
       ·
        simp only [Option.some.injEq, Prod.mk.injEq] at H; obtain ⟨rfl, rfl, rfl, rfl⟩ := H; exact spec_ReadDeed.z1

/-! ### spec_ReadJournal: function 13 -/
def spec_ReadJournal.l0 : Nat → ByteArray → List (S57) → Int → Int → Option ((List (S57)) × Int)
 | 0, _, _, _, _ => none
 | k + 1, x0, x4, x5, x6 => if x6 < (x0.size : Int) then (if 0 ≤ x6 then (if (bt x0 x6) = 10 then (if 0 ≤ x5 then (if x5 ≤ x6 then (if x6 ≤ (x0.size : Int) then ((spec_ReadDeed.f k (x0.extract (x5 : Int).toNat (x6 : Int).toNat)).bind fun aB => (if aB.2.2.2 = true then (if x4.length < 5864062014805 then (spec_ReadJournal.l0 k x0 (x4 ++ [(⟨aB.1, aB.2.1, aB.2.2.1⟩ : S57)]) (wrap64 (x6 + 1)) (wrap64 (x6 + 1))) else (none)) else (some (x4, x5)))) else (none)) else (none)) else (none)) else (spec_ReadJournal.l0 k x0 x4 x5 (wrap64 (x6 + 1)))) else (none)) else (some (x4, x5))
def spec_ReadJournal.f (k : Nat) (a0 : ByteArray) : Option ((List (S57)) × Int) := spec_ReadJournal.l0 k a0 (([] : List (S57))) 0 0
theorem spec_ReadJournal.mono_l : ∀ k, (∀ y0 y1 y2 y3, LeO (spec_ReadJournal.l0 k y0 y1 y2 y3) (spec_ReadJournal.l0 (k + 1) y0 y1 y2 y3))
 | 0 => fun _ _ _ _ r h => by simp [spec_ReadJournal.l0] at h
 | k + 1 => by
  have ih0 := spec_ReadJournal.mono_l k
  ·
   intro y0 y1 y2 y3
   unfold spec_ReadJournal.l0
   repeat' (with_reducible first | exact ih0 _ _ _ _ | exact spec_ReadDeed.mono _ _ | exact mr_ | exact mn_ | refine mi_ ?_ ?_ | refine mb_ ?_ (fun _ => ?_))
theorem spec_ReadJournal.mono : ∀ a0 k, LeO (spec_ReadJournal.f k a0) (spec_ReadJournal.f (k + 1) a0) := by
 intro a0 k; have ih0 := spec_ReadJournal.mono_l k; unfold spec_ReadJournal.f; repeat' (with_reducible first | exact ih0 _ _ _ _ | exact spec_ReadDeed.mono _ _ | exact mr_ | exact mn_ | refine mi_ ?_ ?_ | refine mb_ ?_ (fun _ => ?_))
theorem spec_ReadJournal.z0 {P_ : Prop} (h_ : P_ := by go_wp2_with (first | ((with_reducible refine gate_callee (f := 28) rfl ?_); refine ca_ (some 25) Tryz.func28 _ (spec_ReadDeed.calls k1 _ _ _ _ _ _ A_25.out) ?_; rintro e w_ ⟨rfl, hb⟩; refine ⟨_, rfl, ?_⟩; replace st := st.ev hb; clear cl hb; have cl := cl_ st) | ((with_reducible refine gate_dst (N := 7) rfl ?_); refine al_ st ?_; clear st cl; intro g7 w_ st; have cl := cl_ st) | ((with_reducible refine gate_store (p := 7) rfl ?_); refine so3_ st ?_; clear st cl; intro w_ st; have cl := cl_ st) | ((with_reducible refine gate_dst (N := 35) rfl ?_); refine ap_ aH ar (⟨a7, a8, a9⟩ : S57) [.int .i64 a7, .int .i64 a8, .int .i64 a9] ((.agg #[(.int .i64 0), (.int .i64 0), (.int .i64 0)])) 24 st Tryz.underlying41 ?_ (hl := by have := bv.out; omega) (hp := k57_mkM _ _ _ _); clear st cl; intro P35 q35 w_ st; have cl := cl_ st)); first | (go_roundg k1; (case measure => have := HK1.out; omega); (case rel => exact ⟨((ar ++ [(⟨a7, a8, a9⟩ : S57)])), (wrap64 (ac + 1)), (wrap64 (ac + 1)), P35, q35, tx_, tx_, tx_, H', ⟨by have := HK1.out; omega⟩, st.en⟩)) | (go_ret2; exact ⟨.slice aH ar.length aJ, tw_, gtl_ st, st.b⟩) | (go_roundg k1; (case measure => have := HK1.out; omega); (case rel => exact ⟨(ar), (av), (wrap64 (ac + 1)), aH, aJ, tx_, tx_, tx_, H', ⟨by have := HK1.out; omega⟩, st.en⟩))) : P_ := h_
theorem spec_ReadJournal.calls (k : Nat) (a0 : ByteArray) (r1 : List (S57)) (r2 : Int) (w : World) (h : spec_ReadJournal.f k a0 = some (r1, r2)) :
  Calls Tryz.prog 13 #[.string a0] w fun e w' => ∃ v0_ : Value, e = .returned (.tuple #[v0_, .int .i64 r2]) ∧ Kd.R k57 57 w' w.heap.size (fun _ => True) v0_ r1 ∧ Below w.heap.size w w' := by
 have hu57 := Tryz.underlying57; have st := ST.nil w; have s0 := st; have cl := cl_ st; have H := h; clear h; unfold spec_ReadJournal.f at H; go_enter Tryz.func13, Tryz.ntmps13; have H' := A_ H; clear H; go_wp2_with (first | ((with_reducible refine gate_dst (N := 9) rfl ?_); refine nwl_ k57 57 (([] : List (S57)) : List (S57)) [] st ?_ (hrep := by repeat (first | exact Reps.none _ _ | refine Reps.c3 (k57_mkM _ _ _ _) ?_)); clear st cl; intro B9_0 d9_0 w_ st; have cl := cl_ st))
 go_loopg [4, 5, 6] k (fun kq v4 v5 v6 w' => ∃ (ar : List (S57)) (av : Int) (ac : Int) (aH : Option Addr) (aJ : Nat), v4 = .slice aH ar.length aJ ∧ v5 = .int .i64 av ∧ v6 = .int .i64 ac ∧ Aside0 (spec_ReadJournal.l0 kq a0 ar av ac = some (r1, r2)) ∧ Aside0 (kq ≤ k) ∧ ST w [] [AR k57 57 w.heap.size (.slice aH ar.length aJ) ar] w')
 case atStart => exact ⟨(([] : List (S57))), (0), (0), B9_0, d9_0, tx_, tx_, tx_, H', ⟨Nat.le_refl _⟩, st.en⟩
 case round =>
  clear H' st cl; obtain ⟨ar, av, ac, aH, aJ, rfl, rfl, rfl, HA, HK1, st⟩ := hrel; have cl := cl_ st
  cases gk with
  | zero => exact absurd HA.out (by simp [spec_ReadJournal.l0])
  | succ k1 =>
   have H := HA.out; clear HA; simp only [spec_ReadJournal.l0] at H; replace H := it_ H; rcases H with ⟨cc, H⟩ | ⟨cc, H⟩
   ·
    replace H := in_ H; obtain ⟨aF, H⟩ := H; have y5a : (0 ≤ (ac : Int)) = True := eq_true (by first | exact od_ | omega); have y5b : ((ac : Int) < (a0.size : Int)) = True := eq_true (by first | exact od_ | omega); have y5x := bt_at a0 ac; by_cases c6 : (bt a0 ac) = 10
    ·
     rw [if_pos c6] at H; have cd : ((bt a0 ac) == 10) = true := beq_iff_eq.mpr c6; have ce : ((bt a0 ac) != 10) = false := bne_eq_false_iff_eq.mpr c6; clear c6; replace H := i0_ H; obtain ⟨c7, H⟩ := H; have cK := eq_true c7; have cL : decide (0 ≤ av) = true := decide_eq_true c7; clear c7; replace H := i0_ H; obtain ⟨c8, H⟩ := H; have cM := eq_true c8; have cN : decide (av ≤ ac) = true := decide_eq_true c8; clear c8; replace H := i0_ H; obtain ⟨c9, H⟩ := H; have aG := eq_true c9; have bp : decide (ac ≤ (a0.size : Int)) = true := decide_eq_true c9; clear c9; obtain ⟨⟨a7, a8, a9, cf⟩, A_25, H⟩ := bnd_ H; (try dsimp only at H); rcases bx_ cf with rfl | rfl
     ·
      replace H := bt_ H; replace H := il_ H; obtain ⟨bv, H⟩ := H; have H' := A_ H; clear H; exact spec_ReadJournal.z0
     ·
      replace H := bf_ H; simp only [Option.some.injEq, Prod.mk.injEq] at H; obtain ⟨rfl, rfl⟩ := H; exact spec_ReadJournal.z0
    ·
     rw [if_neg c6] at H; have cd : ((bt a0 ac) == 10) = false := beq_eq_false_iff_ne.mpr c6; have ce : ((bt a0 ac) != 10) = true := bne_iff_ne.mpr c6; have H' := A_ H; clear H; exact spec_ReadJournal.z0
   ·
    simp only [Option.some.injEq, Prod.mk.injEq] at H; obtain ⟨rfl, rfl⟩ := H; exact spec_ReadJournal.z0

end Go.Proofs.YtmodbemkflkbeaaGreatDoor.MFnExactStoreOpen
