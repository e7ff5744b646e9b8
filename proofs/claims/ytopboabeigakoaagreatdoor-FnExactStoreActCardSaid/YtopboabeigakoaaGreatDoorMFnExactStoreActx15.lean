/- For the law FnExactStoreAct: walks of the functions that it reaches: each call returns what the plain function beside it tells. The conditions stand in each statement. -/
import Derived.Test.YtopboabeigakoaaGreatDoorV
import Derived.Test.YtopboabeigakoaaGreatDoorMFnExactStoreActx0
import Derived.Test.YtopboabeigakoaaGreatDoorMFnExactStoreActx1
import Derived.Test.YtopboabeigakoaaGreatDoorMFnExactStoreActx10
import Derived.Test.YtopboabeigakoaaGreatDoorMFnExactStoreActx12
import Derived.Test.YtopboabeigakoaaGreatDoorMFnExactStoreActx14
namespace Go.Proofs.YtopboabeigakoaaGreatDoor.MFnExactStoreAct
open Go.RowKit Go.Proofs.YtopboabeigakoaaGreatDoorW.PrintWords Go.Proofs.YtopboabeigakoaaGreatDoorW.PrintLast Go.Proofs.YtopboabeigakoaaGreatDoorW.PrintMore
attribute [local go_sem] max2_int min2_int max_two min_two max_three min_three max_four min_four   -- for this text's walks alone
set_option linter.unusedVariables false
set_option linter.unusedSimpArgs false
set_option maxHeartbeats 8000000
set_option maxRecDepth 100000

attribute [local go_sem high] eqA43
/-! ### spec_StoreOk: function 34 -/
def spec_StoreOk.f (k : Nat) (a0_0 : ByteArray) (a0_1 : ByteArray) (a0_2 : Int) : Option (Bool) := (spec_ReadPlace.f k a0_0).bind fun aA => (if aA.2.2.2 = true then (if (a0_1.size : Int) ≤ 1000 then ((spec_l1In.f a0_2 0 (a0_1.size : Int)).bind fun aB => (some aB)) else (some false)) else (some false))
theorem spec_StoreOk.z0 {P_ : Prop} (h_ : P_ := by go_wp2_with (first | ((with_reducible refine gate_dst (N := 1) rfl ?_); refine al_ st ?_; clear st cl; intro g1 w_ st; have cl := cl_ st) | ((with_reducible refine gate_callee (f := 67) rfl ?_); refine ca_ (some 8) Tryz.func67 _ (spec_ReadPlace.calls k _ _ _ _ _ _ A_8.out) ?_; rintro e w_ ⟨v0, v1, rfl, h0, h1, hb⟩; refine ⟨_, rfl, ?_⟩; obtain ⟨B8_0, d8_0, rfl⟩ := Kd.R_slice h0; obtain ⟨B8_2, d8_2, rfl⟩ := Kd.R_slice h1; replace st := st.p2 hb (st.mr h0) (st.mr h1); clear cl hb h0 h1; have cl := cl_ st) | ((with_reducible refine gate_dst (N := 3) rfl ?_); refine al_ st ?_; clear st cl; intro g3 w_ st; have cl := cl_ st) | ((with_reducible refine gate_store (p := 3) rfl ?_); refine so3_ st ?_; clear st cl; intro w_ st; have cl := cl_ st) | ((with_reducible refine gate_callee (f := 69) rfl ?_); refine gate_guard (by rfl) ?_; dsimp only; refine ca_ (some 24) Tryz.func69 _ (spec_l1In.calls _ _ _ _ _ A_24.out) ?_; rintro e w_ ⟨rfl, hb⟩; refine ⟨_, rfl, ?_⟩; replace hb := hb.below; replace st := st.ev hb; clear cl hb; have cl := cl_ st)); (go_ret; exact ⟨tw_, st.b⟩)) : P_ := h_
theorem spec_StoreOk.calls (k : Nat) (a0_0 : ByteArray) (a0_1 : ByteArray) (a0_2 : Int) (r : Bool) (w : World) (h : spec_StoreOk.f k a0_0 a0_1 a0_2 = some r) :
  Calls Tryz.prog 34 #[.agg #[.string a0_0, .string a0_1, .int .i64 a0_2]] w fun e w' => e = .returned (.bool r) ∧ Below w.heap.size w w' := by
 have hu24 := Tryz.underlying24; have hu35 := Tryz.underlying35; have st := ST.nil w; have s0 := st; have cl := cl_ st; have H := h; clear h; unfold spec_StoreOk.f at H; go_enter Tryz.func34, Tryz.ntmps34; obtain ⟨⟨b3, b4, b5, bz⟩, A_8, H⟩ := bnd_ H; (try dsimp only at H); rcases bx_ bz with rfl | rfl
 ·
  replace H := bt_ H; by_cases c1 : (a0_1.size : Int) ≤ 1000
  ·
   rw [if_pos c1] at H; have bB : decide ((a0_1.size : Int) ≤ 1000) = true := decide_eq_true c1; have bC : decide (a0_1.size ≤ 1000) = true := decide_eq_true (by omega); clear c1; obtain ⟨aB, A_24, H⟩ := bnd_ H; obtain rfl := Option.some.inj H; exact spec_StoreOk.z0
  ·
   rw [if_neg c1] at H; have bB : decide ((a0_1.size : Int) ≤ 1000) = false := decide_eq_false c1; have bC : decide (a0_1.size ≤ 1000) = false := decide_eq_false (by omega); clear c1; obtain rfl := Option.some.inj H; exact spec_StoreOk.z0
 ·
  replace H := bf_ H; obtain rfl := Option.some.inj H; exact spec_StoreOk.z0

/-! ### spec_DeedText: function 61 -/
def spec_DeedText.j0 : Nat → Bool → Int → Int → Int → Option (ByteArray)
 | 0, _, _, _, _ => none
 | k + 1, x12, ac, ad, ae => if x12 = true then (some (⟨#[]⟩ : ByteArray)) else (if (ac == 0) = true then ((spec_l15Step.f k ad).bind fun ab => (if 4 + ab.size ≤ 9223372036854775807 then (if ((⟨#[112, 117, 116, 32]⟩ : ByteArray) ++ ab).size + 1 ≤ 9223372036854775807 then ((spec_l15Step.f k ae).bind fun af => (if (((⟨#[112, 117, 116, 32]⟩ : ByteArray) ++ ab) ++ (⟨#[32]⟩ : ByteArray)).size + af.size ≤ 9223372036854775807 then (some ((((⟨#[112, 117, 116, 32]⟩ : ByteArray) ++ ab) ++ (⟨#[32]⟩ : ByteArray)) ++ af)) else (none))) else (none)) else (none))) else (if (ac == 1 && (ae == 0)) = true then ((spec_l15Step.f k ad).bind fun ag => (if 5 + ag.size ≤ 9223372036854775807 then (some ((⟨#[115, 116, 101, 112, 32]⟩ : ByteArray) ++ ag)) else (none))) else (if (ac == 2 && (ae == 0)) = true then ((spec_l15Step.f k ad).bind fun ah => (if 5 + ah.size ≤ 9223372036854775807 then (some ((⟨#[100, 114, 97, 119, 32]⟩ : ByteArray) ++ ah)) else (none))) else (if (ac == 3 && (ad == 0 && (ae == 0))) = true then (some (⟨#[97, 103, 97, 105, 110]⟩ : ByteArray)) else (if (ac == 4 && (ad == 0 && (ae == 0))) = true then (some (⟨#[98, 97, 99, 107]⟩ : ByteArray)) else (some (⟨#[]⟩ : ByteArray)))))))
def spec_DeedText.f (k : Nat) (a0_0 : Int) (a0_1 : Int) (a0_2 : Int) : Option (ByteArray) := (spec_l1In.f a0_1 (-99) 99).bind fun al => (if al = true then ((spec_l1In.f a0_2 (-99) 99).bind fun ai => (spec_DeedText.j0 k (!ai) a0_0 a0_1 a0_2)) else (spec_DeedText.j0 k true a0_0 a0_1 a0_2))
def spec_DeedText.T5 : Bool × List (List Nat × List Nat) := (true, [([], []), ([0], [0]), ([1], [1]), ([2], [2]), ([3], [3]), ([], []), ([5], [5]), ([6, 2], [6]), ([4, 7], [4, 7]), ([8, 7, 0, 1, 2, 3, 4, 5, 6, 7, 8], [8])])
def spec_DeedText.B5 : List Nat := [0, 1, 3, 7, 15, 0, 32, 103, 255, 511]
theorem spec_DeedText.tab5 : rtab .any (opsOf Tryz.f61 5) = spec_DeedText.T5 := by kernel_rfl
theorem spec_DeedText.bits5 : waitsOk spec_DeedText.T5.2 spec_DeedText.B5 = true := by kernel_rfl
theorem spec_DeedText.calls (k : Nat) (a0_0 : Int) (a0_1 : Int) (a0_2 : Int) (r : ByteArray) (w : World) (h : spec_DeedText.f k a0_0 a0_1 a0_2 = some r) :
  Calls Tryz.prog 61 #[.agg #[.int .i64 a0_0, .int .i64 a0_1, .int .i64 a0_2]] w fun e w' => e = .returned (.string r) ∧ Below w.heap.size w w' := by
 have hu43 := Tryz.underlying43; have HB := A_ (Below.refl w.heap.size w); have H : ((spec_l1In.f a0_1 (-99) 99).bind fun al => (if al = true then ((spec_l1In.f a0_2 (-99) 99).bind fun ai => (spec_DeedText.j0 k (!ai) a0_0 a0_1 a0_2)) else (spec_DeedText.j0 k true a0_0 a0_1 a0_2))) = some r := h; clear h; have HC2 := A_ H; clear H; go_enter Tryz.func61, Tryz.ntmps61
 go_upto_region 1 with (first | ((with_reducible refine gate_dst (N := 1) rfl ?_); refine be_ 1 #[.int .i64 a0_0, .int .i64 a0_1, .int .i64 a0_2] 43 ?_; intro aj hg w3 aa hb; have bD := gx_ HB hg; have bE := gx_ HB hg; replace HB := bs_ HB hb; clear hb hg))
 (try simp only [Act.put, sa_, sb_, sc_])
 go_cut [12] (fun b6 wc => ∃ (kq : Nat) (ak : Bool), b6 = .bool ak ∧ Aside0 (spec_DeedText.j0 kq ak a0_0 a0_1 a0_2 = some r) ∧ Aside0 (kq ≤ k) ∧ Aside0 (wc.heap[aj]? = some (.cells #[.int .i64 a0_0, .int .i64 a0_1, .int .i64 a0_2] 43 (0, 0))) ∧ Aside0 (Below w.heap.size w wc))
 case first =>
  have H := HC2.out; clear HC2; obtain ⟨al, A4, H⟩ := bnd_ H; (try dsimp only at H); by_cases c5 : al = true
  ·
   subst c5; replace H : ((spec_l1In.f a0_2 (-99) 99).bind fun ai => (spec_DeedText.j0 k (!ai) a0_0 a0_1 a0_2)) = some r := by rw [if_pos rfl] at H; exact H
   obtain ⟨ai, A6, H⟩ := bnd_ H; (try dsimp only at H); have H' := A_ H; clear H; obtain ⟨am, an, ao, ap, aq, ar⟩ := cf3_ aa; go_wp2_with (first | ((with_reducible refine gate_callee (f := 69) rfl ?_); refine gl_ (some 5) Tryz.func69 #[.int .i64 a0_1, .int .i64 (-99), .int .i64 99] ?_; (with_reducible refine (spec_l1In.calls a0_1 (-99) 99 true _ A4.out).mono ?_); rintro e w' ⟨rfl, ⟨nd, rfl⟩⟩; refine ⟨_, rfl, ?_⟩) | (go_at_call 69; (with_reducible refine (spec_l1In.calls a0_2 (-99) 99 ai _ A6.out).mono ?_); rintro e w' ⟨rfl, ⟨nd, rfl⟩⟩)); go_meet
   case rel => exact ⟨_, (!ai), tx_, H', ⟨by first | omega | exact Nat.le_refl _⟩, ⟨tk_ aa.out⟩, ⟨(tb_ HB.out)⟩⟩
  ·
   replace c5 := Bool.eq_false_iff.mpr c5; subst c5; replace H : (spec_DeedText.j0 k true a0_0 a0_1 a0_2) = some r := by rw [if_neg (show ¬ (false = true) by decide)] at H; exact H
   have H' := A_ H; clear H; obtain ⟨au, av, aw, ax, ay, az⟩ := cf3_ aa; go_wp2_with (first | ((with_reducible refine gate_callee (f := 69) rfl ?_); refine gl_ (some 5) Tryz.func69 #[.int .i64 a0_1, .int .i64 (-99), .int .i64 99] ?_; (with_reducible refine (spec_l1In.calls a0_1 (-99) 99 false _ A4.out).mono ?_); rintro e w' ⟨rfl, ⟨nd, rfl⟩⟩; refine ⟨_, rfl, ?_⟩)); go_meet
   case rel => exact ⟨_, (true), tx_, H', ⟨by first | omega | exact Nat.le_refl _⟩, ⟨tk_ aa.out⟩, ⟨(tb_ HB.out)⟩⟩
 case rest =>
  clear HC2; obtain ⟨kq, ak, rfl, HA, HJ1, aa, HB⟩ := hcut
  cases kq with
  | zero => exact absurd HA.out (by simp [spec_DeedText.j0])
  | succ kj1 =>
   have H := HA.out; clear HA; simp only [spec_DeedText.j0] at H; by_cases c9 : ak = true
   ·
    subst c9; replace H : (some (⟨#[]⟩ : ByteArray)) = some r := by rw [if_pos rfl] at H; exact H
    obtain rfl := Option.some.inj H; go_wp2; go_ret; exact ⟨tw_, (tb_ HB.out)⟩
   ·
    replace c9 := Bool.eq_false_iff.mpr c9; subst c9; replace H : (if (a0_0 == 0) = true then ((spec_l15Step.f kj1 a0_1).bind fun ab => (if 4 + ab.size ≤ 9223372036854775807 then (if ((⟨#[112, 117, 116, 32]⟩ : ByteArray) ++ ab).size + 1 ≤ 9223372036854775807 then ((spec_l15Step.f kj1 a0_2).bind fun af => (if (((⟨#[112, 117, 116, 32]⟩ : ByteArray) ++ ab) ++ (⟨#[32]⟩ : ByteArray)).size + af.size ≤ 9223372036854775807 then (some ((((⟨#[112, 117, 116, 32]⟩ : ByteArray) ++ ab) ++ (⟨#[32]⟩ : ByteArray)) ++ af)) else (none))) else (none)) else (none))) else (if (a0_0 == 1 && (a0_2 == 0)) = true then ((spec_l15Step.f kj1 a0_1).bind fun ag => (if 5 + ag.size ≤ 9223372036854775807 then (some ((⟨#[115, 116, 101, 112, 32]⟩ : ByteArray) ++ ag)) else (none))) else (if (a0_0 == 2 && (a0_2 == 0)) = true then ((spec_l15Step.f kj1 a0_1).bind fun ah => (if 5 + ah.size ≤ 9223372036854775807 then (some ((⟨#[100, 114, 97, 119, 32]⟩ : ByteArray) ++ ah)) else (none))) else (if (a0_0 == 3 && (a0_1 == 0 && (a0_2 == 0))) = true then (some (⟨#[97, 103, 97, 105, 110]⟩ : ByteArray)) else (if (a0_0 == 4 && (a0_1 == 0 && (a0_2 == 0))) = true then (some (⟨#[98, 97, 99, 107]⟩ : ByteArray)) else (some (⟨#[]⟩ : ByteArray))))))) = some r := by rw [if_neg (show ¬ (false = true) by decide)] at H; exact H
    by_cases c10 : (a0_0 == 0) = true
    ·
     rw [if_pos c10] at H; have aC : (a0_0 == 0) = true := c10; (try (have aD : decide (a0_0 = 0) = true := by simpa using c10)); (try (have aE : (a0_0 == 0) = true := by simpa using c10)); clear c10; obtain ⟨ab, A11, H⟩ := bnd_ H; (try dsimp only at H); replace H := i0_ H; obtain ⟨c12, H⟩ := H; have bF := eq_true c12; have bG : decide (4 + ab.size ≤ 9223372036854775807) = true := decide_eq_true c12; (try have bH : (9223372036854775807 < 4 + ab.size) = False := eq_false (Nat.not_lt.2 c12)); replace H := i0_ H; obtain ⟨c13, H⟩ := H; have bI := eq_true c13; have bJ : decide (((⟨#[112, 117, 116, 32]⟩ : ByteArray) ++ ab).size + 1 ≤ 9223372036854775807) = true := decide_eq_true c13; (try have bK : (9223372036854775807 < ((⟨#[112, 117, 116, 32]⟩ : ByteArray) ++ ab).size + 1) = False := eq_false (Nat.not_lt.2 c13)); (try have bL : (9223372036854775807 < 4 + ab.size + 1) = False := eq_false (by have h := c13; simp only [ByteArray.size_append] at h; simp only [ByteArray.size] at h ⊢; simp at h ⊢; omega)); obtain ⟨af, A14, H⟩ := bnd_ H; (try dsimp only at H); replace H := i0_ H; obtain ⟨c15, H⟩ := H; have bM := eq_true c15; have bN : decide ((((⟨#[112, 117, 116, 32]⟩ : ByteArray) ++ ab) ++ (⟨#[32]⟩ : ByteArray)).size + af.size ≤ 9223372036854775807) = true := decide_eq_true c15; (try have bO : (9223372036854775807 < (((⟨#[112, 117, 116, 32]⟩ : ByteArray) ++ ab) ++ (⟨#[32]⟩ : ByteArray)).size + af.size) = False := eq_false (Nat.not_lt.2 c15)); (try have bP : (9223372036854775807 < 4 + ab.size + 1 + af.size) = False := eq_false (by have h := c15; simp only [ByteArray.size_append] at h; simp only [ByteArray.size] at h ⊢; simp at h ⊢; omega)); obtain rfl := Option.some.inj H; obtain ⟨aR, aU, aV, aW, aX, aY⟩ := cf3_ aa; (try go_wp2); replace aa := dB_ aa; replace HB := A_ (ld_ HB.out); refine sv_ (S := fun w' => w'.cell? ⟨aj, 0, none⟩ = some (.int .i64 a0_0) ∧ w'.cell? ⟨aj, 1, none⟩ = some (.int .i64 a0_1) ∧ w'.cell? ⟨aj, 2, none⟩ = some (.int .i64 a0_2)) (ds := []) hh_ (fun hHeld => ?_); refine with_tabW spec_DeedText.tab5 spec_DeedText.bits5 (fun HT_ HW_ => ?_); generalize wc.drew = b7 at aa HB hHeld ⊢; refine pv_ 0 ?_; refine pv_ 5 ?_; refine tv_ 1 ?_; refine tv_ 6 ?_; refine ov_ 2 (fun K hK => ?_); refine goes_ Tryz.func96 (by kernel_rfl) rfl #[.int .i64 a0_1] (by rfl) rfl rfl tz_ ?_; (with_reducible refine (spec_l15Step.calls kj1 a0_1 ab _ A11.out).mono ?_); rintro e b8 ⟨rfl, hb⟩; refine ⟨_, rfl, ?_⟩; replace aa := bb_ aa hb; replace HB := bs_ HB hb; (try clear hb); (try clear hb2); (try clear hk); (try clear hi); refine hK.out _ _ hh_ (fun hHeld => ?_); clear hK K; refine nr_ 23 ?_; refine pv_ 3 ?_; refine pv_ 4 ?_; refine ov_ 7 (fun K hK => ?_); refine goes_ Tryz.func96 (by kernel_rfl) rfl #[.int .i64 a0_2] (by rfl) rfl rfl tz_ ?_; (with_reducible refine (spec_l15Step.calls kj1 a0_2 af _ A14.out).mono ?_); rintro e b9 ⟨rfl, hb⟩; refine ⟨_, rfl, ?_⟩; replace aa := bb_ aa hb; replace HB := bs_ HB hb; (try clear hb); (try clear hb2); (try clear hk); (try clear hi); refine hK.out _ _ hh_ (fun hHeld => ?_); clear hK K; refine nr_ 28 ?_; refine pv_ 8 ?_; refine pv_ 9 ?_; refine done_ (done_of HT_.out (by kernel_rfl)) ?_; (try go_wp2); go_ret; exact ⟨tw_, (tb_ HB.out)⟩
    ·
     rw [if_neg c10] at H; have aC : (a0_0 == 0) = false := by simpa using c10
     (try (have aD : decide (a0_0 = 0) = false := by simpa using c10)); (try (have aE : (a0_0 == 0) = false := by simpa using c10)); (try (have bQ : ¬ (a0_0 = 0) := by simpa using c10)); clear c10; by_cases c20 : (a0_0 == 1 && (a0_2 == 0)) = true
     ·
      rw [if_pos c20] at H; have aF : (a0_0 == 1 && (a0_2 == 0)) = true := c20; (try (have aG : decide (a0_0 = 1 && (a0_2 == 0)) = true := by simpa using c20)); (try (have aH : (a0_0 == 1 && (a0_2 == 0)) = true := by simpa using c20)); clear c20; obtain ⟨ag, A21, H⟩ := bnd_ H; (try dsimp only at H); replace H := i0_ H; obtain ⟨c22, H⟩ := H; have bR := eq_true c22; have bS : decide (5 + ag.size ≤ 9223372036854775807) = true := decide_eq_true c22; (try have bU : (9223372036854775807 < 5 + ag.size) = False := eq_false (Nat.not_lt.2 c22)); obtain rfl := Option.some.inj H; obtain ⟨aZ, a3, a4, a5, a6, a7⟩ := cf3_ aa; go_wp2_with (first | ((with_reducible refine gate_callee (f := 96) rfl ?_); refine gl_ (some 37) Tryz.func96 #[.int .i64 a0_1] ?_; (with_reducible refine (spec_l15Step.calls kj1 a0_1 ag _ A21.out).mono ?_); rintro e ca ⟨rfl, hb⟩; refine ⟨_, rfl, ?_⟩; replace aa := bb_ aa hb; replace HB := bs_ HB hb; (try clear hb))); go_ret; exact ⟨tw_, (tb_ HB.out)⟩
     ·
      rw [if_neg c20] at H; have aF : (a0_0 == 1 && (a0_2 == 0)) = false := by simpa using c20
      (try (have aG : decide (a0_0 = 1 && (a0_2 == 0)) = false := by simpa using c20)); (try (have aH : (a0_0 == 1 && (a0_2 == 0)) = false := by simpa using c20)); (try (have bV : ¬ (a0_0 = 1 && (a0_2 == 0)) := by simpa using c20)); clear c20; by_cases c25 : (a0_0 == 2 && (a0_2 == 0)) = true
      ·
       rw [if_pos c25] at H; have aI : (a0_0 == 2 && (a0_2 == 0)) = true := c25; (try (have aJ : decide (a0_0 = 2 && (a0_2 == 0)) = true := by simpa using c25)); (try (have aK : (a0_0 == 2 && (a0_2 == 0)) = true := by simpa using c25)); clear c25; obtain ⟨ah, A26, H⟩ := bnd_ H; (try dsimp only at H); replace H := i0_ H; obtain ⟨c27, H⟩ := H; have bW := eq_true c27; have bX : decide (5 + ah.size ≤ 9223372036854775807) = true := decide_eq_true c27; (try have bZ : (9223372036854775807 < 5 + ah.size) = False := eq_false (Nat.not_lt.2 c27)); obtain rfl := Option.some.inj H; obtain ⟨a8, a9, bb, bc, bd, be⟩ := cf3_ aa; go_wp2_with (first | ((with_reducible refine gate_callee (f := 96) rfl ?_); refine gl_ (some 46) Tryz.func96 #[.int .i64 a0_1] ?_; (with_reducible refine (spec_l15Step.calls kj1 a0_1 ah _ A26.out).mono ?_); rintro e cb ⟨rfl, hb⟩; refine ⟨_, rfl, ?_⟩; replace aa := bb_ aa hb; replace HB := bs_ HB hb; (try clear hb))); go_ret; exact ⟨tw_, (tb_ HB.out)⟩
      ·
       rw [if_neg c25] at H; have aI : (a0_0 == 2 && (a0_2 == 0)) = false := by simpa using c25
       (try (have aJ : decide (a0_0 = 2 && (a0_2 == 0)) = false := by simpa using c25)); (try (have aK : (a0_0 == 2 && (a0_2 == 0)) = false := by simpa using c25)); (try (have b0 : ¬ (a0_0 = 2 && (a0_2 == 0)) := by simpa using c25)); clear c25; by_cases c30 : (a0_0 == 3 && (a0_1 == 0 && (a0_2 == 0))) = true
       ·
        rw [if_pos c30] at H; have aL : (a0_0 == 3 && (a0_1 == 0 && (a0_2 == 0))) = true := c30; (try (have aM : decide (a0_0 = 3 && (a0_1 == 0 && (a0_2 == 0))) = true := by simpa using c30)); (try (have aN : (a0_0 == 3 && (a0_1 == 0 && (a0_2 == 0))) = true := by simpa using c30)); clear c30; obtain rfl := Option.some.inj H; obtain ⟨bf, bg, bh, bi, bj, bk⟩ := cf3_ aa; go_wp2; go_ret; exact ⟨tw_, (tb_ HB.out)⟩
       ·
        rw [if_neg c30] at H; have aL : (a0_0 == 3 && (a0_1 == 0 && (a0_2 == 0))) = false := by simpa using c30
        (try (have aM : decide (a0_0 = 3 && (a0_1 == 0 && (a0_2 == 0))) = false := by simpa using c30)); (try (have aN : (a0_0 == 3 && (a0_1 == 0 && (a0_2 == 0))) = false := by simpa using c30)); (try (have b1 : ¬ (a0_0 = 3 && (a0_1 == 0 && (a0_2 == 0))) := by simpa using c30)); clear c30; by_cases c32 : (a0_0 == 4 && (a0_1 == 0 && (a0_2 == 0))) = true
        ·
         rw [if_pos c32] at H; have aO : (a0_0 == 4 && (a0_1 == 0 && (a0_2 == 0))) = true := c32; (try (have aP : decide (a0_0 = 4 && (a0_1 == 0 && (a0_2 == 0))) = true := by simpa using c32)); (try (have aQ : (a0_0 == 4 && (a0_1 == 0 && (a0_2 == 0))) = true := by simpa using c32)); clear c32; obtain rfl := Option.some.inj H; obtain ⟨bl, bm, bn, bo, bp, bq⟩ := cf3_ aa; go_wp2; go_ret; exact ⟨tw_, (tb_ HB.out)⟩
        ·
         rw [if_neg c32] at H; have aO : (a0_0 == 4 && (a0_1 == 0 && (a0_2 == 0))) = false := by simpa using c32
         (try (have aP : decide (a0_0 = 4 && (a0_1 == 0 && (a0_2 == 0))) = false := by simpa using c32)); (try (have aQ : (a0_0 == 4 && (a0_1 == 0 && (a0_2 == 0))) = false := by simpa using c32)); (try (have b2 : ¬ (a0_0 = 4 && (a0_1 == 0 && (a0_2 == 0))) := by simpa using c32)); clear c32; obtain rfl := Option.some.inj H; obtain ⟨br, bs, bu, bv, bw, bx⟩ := cf3_ aa; go_wp2; go_ret; exact ⟨tw_, (tb_ HB.out)⟩

end Go.Proofs.YtopboabeigakoaaGreatDoor.MFnExactStoreAct
