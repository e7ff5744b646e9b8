/- For the law FnExactStoreSave: walks of the functions that it reaches: each call returns what the plain function beside it tells. The conditions stand in each statement. -/
import Derived.Test.YtfacponjomafcaaGreatDoorV
import Derived.Test.YtfacponjomafcaaGreatDoorMFnExactStoreSavex0
import Derived.Test.YtfacponjomafcaaGreatDoorMFnExactStoreSavex2
import Derived.Test.YtfacponjomafcaaGreatDoorMFnExactStoreSavex3
namespace Go.Proofs.YtfacponjomafcaaGreatDoor.MFnExactStoreSave
open Go.RowKit Go.Proofs.YtfacponjomafcaaGreatDoorW.PrintWords Go.Proofs.YtfacponjomafcaaGreatDoorW.PrintLast Go.Proofs.YtfacponjomafcaaGreatDoorW.PrintMore
attribute [local go_sem] max2_int min2_int max_two min_two max_three min_three max_four min_four   -- for this text's walks alone
set_option linter.unusedVariables false
set_option linter.unusedSimpArgs false
set_option maxHeartbeats 8000000
set_option maxRecDepth 100000

/-! ### spec_PlaceOk: function 22 -/
def spec_PlaceOk.j0 : Nat → Bool → List Int → Int → List Int → Option (Bool)
 | 0, _, _, _, _ => none
 | k + 1, x14, ar, aG, aH => if x14 = true then (some false) else ((spec_SameRule.f k (ar.length : Int) aG).bind fun aq => ((spec_AfterWord.f k ar aq aH).bind fun aA => (some aA.2)))
def spec_PlaceOk.f (k : Nat) (ab : List Int) (a0_1 : Int) (ad : List Int) : Option (Bool) := (spec_StartOk.f k ab).bind fun aB => (if aB = true then ((spec_l1In.f a0_1 (-1) 3).bind fun al => (spec_PlaceOk.j0 k (!al) ab a0_1 ad)) else (spec_PlaceOk.j0 k true ab a0_1 ad))
def spec_PlaceOk.T3 : Bool × List (List Nat × List Nat) := (true, [([], []), ([0], [0]), ([], []), ([2], [2]), ([3], [3]), ([], []), ([5], [5]), ([4, 6], [4, 6]), ([], []), ([8], [8]), ([1, 7, 9, 7], [1, 7, 9]), ([10], [10]), ([11], [11]), ([11], [11]), ([12, 10, 0, 1, 2, 3, 4, 5, 6, 7, 8, 9, 10, 11, 12], [12]), ([13, 14, 0, 1, 2, 3, 4, 5, 6, 7, 8, 9, 10, 11, 12, 13, 14], [13])])
def spec_PlaceOk.B3 : List Nat := [0, 1, 0, 4, 12, 0, 32, 124, 0, 256, 1023, 2047, 4095, 4095, 8191, 32767]
theorem spec_PlaceOk.tab3 : rtab .any (opsOf Tryz.f22 3) = spec_PlaceOk.T3 := by kernel_rfl
theorem spec_PlaceOk.bits3 : waitsOk spec_PlaceOk.T3.2 spec_PlaceOk.B3 = true := by kernel_rfl
theorem spec_PlaceOk.calls (k : Nat) (am : Option Addr) (an : Nat) (ab : List Int) (a0_1 : Int) (ax : Option Addr) (ay : Nat) (ad : List Int) (r : Bool) (w : World) (hr0_0 : Kd.C (Kd.int .i64) w am ab.length ab) (hc0_0 : ab.length ≤ an) (hr0_2 : Kd.C (Kd.int .i64) w ax ad.length ad) (hc0_2 : ad.length ≤ ay) (h : spec_PlaceOk.f k ab a0_1 ad = some r) :
  Calls Tryz.prog 22 #[.agg #[.slice am ab.length an, .int .i64 a0_1, .slice ax ad.length ay]] w fun e w' => e = .returned (.bool r) ∧ Below w.heap.size w w' := by
 have hu25 := Tryz.underlying25; have be := A_ hr0_0; have aC := A_ hc0_0; clear hr0_0 hc0_0; have bf := A_ hr0_2; have aZ := A_ hc0_2; clear hr0_2 hc0_2; have HB := A_ (Below.refl w.heap.size w); have H : ((spec_StartOk.f k ab).bind fun aB => (if aB = true then ((spec_l1In.f a0_1 (-1) 3).bind fun al => (spec_PlaceOk.j0 k (!al) ab a0_1 ad)) else (spec_PlaceOk.j0 k true ab a0_1 ad))) = some r := h; clear h; have HC2 := A_ H; clear H; go_enter Tryz.func22, Tryz.ntmps22
 go_upto_region 1 with (first | ((with_reducible refine gate_dst (N := 1) rfl ?_); refine be_ 1 #[.slice am ab.length an, .int .i64 a0_1, .slice ax ad.length ay] 25 ?_; intro au hg w3 aa hb; have bg := gx_ HB hg; have bh := gx_ HB hg; replace HB := bs_ HB hb; clear hb hg))
 (try simp only [Act.put, sa_, sb_, sc_])
 go_cut [14] (fun bp wc => ∃ (kq : Nat) (av : Bool), bp = .bool av ∧ Aside0 (spec_PlaceOk.j0 kq av ab a0_1 ad = some r) ∧ Aside0 (kq ≤ k) ∧ Aside0 (wc.heap[au]? = some (.cells #[(.slice am ab.length an), .int .i64 a0_1, (.slice ax ad.length ay)] 25 (0, 0))) ∧ Aside0 (Below w.heap.size w wc))
 case first =>
  have H := HC2.out; clear HC2; obtain ⟨aB, A4, H⟩ := bnd_ H; (try dsimp only at H); by_cases c5 : aB = true
  ·
   subst c5; replace H : ((spec_l1In.f a0_1 (-1) 3).bind fun al => (spec_PlaceOk.j0 k (!al) ab a0_1 ad)) = some r := by rw [if_pos rfl] at H; exact H
   obtain ⟨al, A6, H⟩ := bnd_ H; (try dsimp only at H); have H' := A_ H; clear H; obtain ⟨aK, aL, aM, aN, aO, aP⟩ := cf3_ aa; go_wp2_with (first | ((with_reducible refine gate_callee (f := 39) rfl ?_); refine gl_ (some 7) Tryz.func39 #[.slice am ab.length an] ?_; (with_reducible refine (spec_StartOk.calls k _ _ ab true _ ?s1 ?s2 A4.out).mono ?_); (case s1 => exact tD_); (case s2 => exact aC.out); rintro e w' ⟨rfl, ⟨nd, rfl⟩⟩; refine ⟨_, rfl, ?_⟩) | (go_at_call 40; (with_reducible refine (spec_l1In.calls a0_1 (-1) 3 al _ A6.out).mono ?_); rintro e w' ⟨rfl, ⟨nd, rfl⟩⟩)); go_meet
   case rel => exact ⟨_, (!al), tx_, H', ⟨by first | omega | exact Nat.le_refl _⟩, ⟨tk_ aa.out⟩, ⟨(tb_ HB.out)⟩⟩
  ·
   replace c5 := Bool.eq_false_iff.mpr c5; subst c5; replace H : (spec_PlaceOk.j0 k true ab a0_1 ad) = some r := by rw [if_neg (show ¬ (false = true) by decide)] at H; exact H
   have H' := A_ H; clear H; obtain ⟨aQ, aR, aU, aV, aW, aX⟩ := cf3_ aa; go_wp2_with (first | ((with_reducible refine gate_callee (f := 39) rfl ?_); refine gl_ (some 7) Tryz.func39 #[.slice am ab.length an] ?_; (with_reducible refine (spec_StartOk.calls k _ _ ab false _ ?s1 ?s2 A4.out).mono ?_); (case s1 => exact tD_); (case s2 => exact aC.out); rintro e w' ⟨rfl, ⟨nd, rfl⟩⟩; refine ⟨_, rfl, ?_⟩)); go_meet
   case rel => exact ⟨_, (true), tx_, H', ⟨by first | omega | exact Nat.le_refl _⟩, ⟨tk_ aa.out⟩, ⟨(tb_ HB.out)⟩⟩
 case rest =>
  clear HC2; obtain ⟨kq, av, rfl, HA, HJ1, aa, HB⟩ := hcut
  cases kq with
  | zero => exact absurd HA.out (by simp [spec_PlaceOk.j0])
  | succ kj1 =>
   have H := HA.out; clear HA; simp only [spec_PlaceOk.j0] at H; by_cases c9 : av = true
   ·
    subst c9; replace H : (some false) = some r := by rw [if_pos rfl] at H; exact H
    obtain rfl := Option.some.inj H; go_wp2; go_ret; exact ⟨tw_, (tb_ HB.out)⟩
   ·
    replace c9 := Bool.eq_false_iff.mpr c9; subst c9; replace H : ((spec_SameRule.f kj1 (ab.length : Int) a0_1).bind fun aq => ((spec_AfterWord.f kj1 ab aq ad).bind fun aA => (some aA.2))) = some r := by rw [if_neg (show ¬ (false = true) by decide)] at H; exact H
    obtain ⟨aq, A10, H⟩ := bnd_ H; (try dsimp only at H); obtain ⟨⟨a7, a8⟩, A11, H⟩ := bnd_ H; (try dsimp only at H); obtain rfl := Option.some.inj H; (try go_wp2); replace aa := dB_ aa; replace HB := A_ (ld_ HB.out); refine sv_ (S := fun w' => w'.cell? ⟨au, 0, none⟩ = some (.slice am ab.length an) ∧ w'.cell? ⟨au, 1, none⟩ = some (.int .i64 a0_1) ∧ w'.cell? ⟨au, 2, none⟩ = some (.slice ax ad.length ay)) (ds := []) hh_ (fun hHeld => ?_); refine with_tabW spec_PlaceOk.tab3 spec_PlaceOk.bits3 (fun HT_ HW_ => ?_); generalize wc.drew = bi at aa HB hHeld ⊢; refine pv_ 0 ?_; refine pv_ 2 ?_; refine pv_ 5 ?_; refine pv_ 8 ?_; refine tv_ 1 ?_; refine tv_ 3 ?_; refine pv_ 4 ?_; refine tv_ 6 ?_; refine tv_ 9 ?_; refine ov_ 7 (fun K hK => ?_); refine goes_ Tryz.func42 (by kernel_rfl) rfl #[.int .i64 (ab.length : Int), .int .i64 a0_1] (by rfl) rfl rfl tz_ ?_; (with_reducible refine (spec_SameRule.calls kj1 (ab.length : Int) a0_1 aq _ A10.out).mono ?_); rintro e bq ⟨br, rfl, ho0, hb⟩; refine ⟨_, rfl, ?_⟩; have ao := A_ (Kd.S_lower ho0 (below_size (tb_ HB.out))); replace aa := bb_ aa hb; replace HB := bs_ HB hb; (try clear hb); (try clear hb2); (try clear hk); (try clear hi); (try clear ho0); obtain ⟨a9, bb, a3⟩ := Kd.S_slice ao.out; (first | subst a3 | (injection a3 with f1_ f2_ f3_; have f4_ := f1_.symm; have f5_ := f3_.symm; clear f1_ f2_ f3_; subst f4_; subst f5_)); refine hK.out _ _ hh_ (fun hHeld => ?_); clear hK K; refine nr_ 23 ?_; refine ov_ 10 (fun K hK => ?_); refine goes_ Tryz.func41 (by kernel_rfl) rfl #[.slice am ab.length an, .slice a9 aq.length bb, .slice ax ad.length ay] (by rfl) rfl rfl tz_ ?_; (with_reducible refine (spec_AfterWord.calls kj1 _ _ ab _ _ aq _ _ ad a7 a8 _ ?s1 ?s2 ?s3 ?s4 ?s5 ?s6 A11.out).mono ?_); (case s1 => exact tD_); (case s2 => exact aC.out); (case s3 => repeat (first | exact (Kd.S_reads' ao.out).2.2 | (with_reducible refine Kd.C_alloc ?_ _) | (with_reducible refine Kd.C_drewN ?_ _) | (with_reducible refine Kd.C_drew ?_))); (case s4 => exact (Kd.S_reads' ao.out).2.1); (case s5 => exact tD_); (case s6 => exact aZ.out); rintro e bK ⟨bs, rfl, ho0, hb⟩; refine ⟨_, rfl, ?_⟩; replace ao := A_ (Kd.S_elder' (rS_ ao.out) (Kd.R_base ho0) hb); have bj := rx_ ho0 HB; replace aa := bb_ aa hb; replace HB := bs_ HB hb; (try clear hb); (try clear hb2); (try clear hk); (try clear hi); (try clear ho0); refine hK.out _ _ hh_ (fun hHeld => ?_); clear hK K; refine nr_ 26 ?_; refine pv_ 11 ?_; refine pv_ 12 ?_; refine pv_ 13 ?_; refine pv_ 14 ?_; refine pv_ 15 ?_; refine done_ (done_of HT_.out (by kernel_rfl)) ?_; (try go_wp2); go_ret; exact ⟨tw_, (tb_ HB.out)⟩

/-! ### spec_l1Number: function 63 -/
def spec_l1Number.f : Nat → Int → Option (ByteArray)
 | 0, _ => none
 | k + 1, a0 => if a0 < 10 then (some (strOfNums (([(wrap64 (48 + (mx a0 0))) % 256] : List Int)))) else ((spec_l1Number.f k (wrap64 (Int.tdiv a0 10))).bind fun af => ((some (([(wrap64 (48 + (Int.tmod a0 10))) % 256] : List Int) : List Int)).bind fun ah => (if af.size + (strOfNums ah).size ≤ 9223372036854775807 then (some (af ++ (strOfNums ah))) else (none))))
theorem spec_l1Number.mono_l : ∀ k, (∀ y0, LeO (spec_l1Number.f k y0) (spec_l1Number.f (k + 1) y0))
 | 0 => fun _ r h => by simp [spec_l1Number.f] at h
 | k + 1 => by
  have ih0 := spec_l1Number.mono_l k
  ·
   intro y0
   unfold spec_l1Number.f
   repeat' (with_reducible first | exact ih0 _ | exact mr_ | exact mn_ | refine mi_ ?_ ?_ | refine mb_ ?_ (fun _ => ?_))
theorem spec_l1Number.mono : ∀ a0 k, LeO (spec_l1Number.f k a0) (spec_l1Number.f (k + 1) a0) := by
 intro a0 k; have ih0 := spec_l1Number.mono_l k; exact ih0 a0
def spec_l1Number.T3 : Bool × List (List Nat × List Nat) := (true, [([], []), ([0], [0]), ([1], [1]), ([], []), ([3], [3]), ([4], [4]), ([5], [5]), ([6], [6]), ([7], [7]), ([2, 8], [2, 8]), ([9, 2, 0, 1, 2, 3, 4, 5, 6, 7, 8, 9], [9])])
def spec_l1Number.B3 : List Nat := [0, 1, 3, 0, 8, 24, 56, 120, 248, 511, 1023]
theorem spec_l1Number.tab3 : rtab .any (opsOf Tryz.f63 3) = spec_l1Number.T3 := by kernel_rfl
theorem spec_l1Number.bits3 : waitsOk spec_l1Number.T3.2 spec_l1Number.B3 = true := by kernel_rfl
theorem spec_l1Number.calls (k : Nat) : ∀ (a0 : Int) (r : ByteArray) (w : World) (h : spec_l1Number.f k a0 = some r),
  Calls Tryz.prog 63 #[.int .i64 a0] w fun e w' => e = .returned (.string r) ∧ Below w.heap.size w w' := by
 induction k using Nat.strongRecOn with
 | _ k ih =>
 intro a0 r w h
 cases k with
 | zero => exact absurd h (by simp [spec_l1Number.f])
 | succ k =>
 simp only [spec_l1Number.f] at h; have HB := A_ (Below.refl w.heap.size w); have H : (if a0 < 10 then (some (strOfNums (([(wrap64 (48 + (mx a0 0))) % 256] : List Int)))) else ((spec_l1Number.f k (wrap64 (Int.tdiv a0 10))).bind fun af => ((some (([(wrap64 (48 + (Int.tmod a0 10))) % 256] : List Int) : List Int)).bind fun ah => (if af.size + (strOfNums ah).size ≤ 9223372036854775807 then (some (af ++ (strOfNums ah))) else (none))))) = some r := h; clear h; replace H := it_ H; rcases H with ⟨aY, H⟩ | ⟨aY, H⟩
 ·
  obtain ⟨aI, aD⟩ : ∃ j_ : Int, (mx a0 0) = j_ := ⟨_, rfl⟩
  replace H : (some (strOfNums (([(wrap64 (48 + (aI))) % 256] : List Int)))) = some r := by first | (rw [aD] at H; exact H) | (simp only [aD] at H ⊢; exact H)
  (try (have hji3l : 0 ≤ aI := by (rw [← aD]; unfold mx; (repeat' split) <;> omega))); (try (have hji3m : 0 ≤ aI := by omega)); have hji3_ : (if a0 < 0 then 0 else a0) = aI := aD; obtain ⟨bc, aE⟩ : ∃ y_ : List Int, y_ = (([(wrap64 (48 + (aI))) % 256] : List Int)) := ⟨_, rfl⟩
  replace H : (some (strOfNums bc)) = some r := yq_ aE H; have aJ := A_ aE; clear aE; obtain rfl := Option.some.inj H; go_enter Tryz.func63, Tryz.ntmps63; go_wp2_with (first | ((with_reducible refine gate_dst (N := 9) rfl ?_); refine Kd.R_lit (Kd.int .u8) _ 5 ?hg (N := 9) ?hd (xs := ([(wrap64 (48 + (aI))) % 256] : List Int)) (inner := [.int .u8 ((wrap64 (48 + (aI))) % 256)]) (ok := fun _ => True) (okp := fun _ => True) ?hr ?hp (fun _ hk => hk) trivial (Below.refl _ _) (Nat.le_refl _) (by simp) ?_; (case hd => rfl); (case hg => rfl); (case hr => first | (go_simp; done) | (go_simp; rfl)); (case hp => exact (Reps.one (show Kd.M (Kd.int .u8) _ _ _ ((wrap64 (48 + (aI))) % 256) [.int .u8 ((wrap64 (48 + (aI))) % 256)] from rfl) (Reps.none _ _))); intro bu w4 ho5 hb hg_ hnew_; clear hg_ hnew_; (first | rw [← aJ.out] at ho5 | (simp only [Int.reduceToNat] at ho5; rw [← aJ.out] at ho5)); have a4 := rx_ ho5 HB; replace HB := bs_ HB hb; clear hb ho5; have hcv6 := own_string (P := Tryz.prog) Tryz.underlying22 Tryz.underlying5 Tryz.underlying9 (Kd.own_of_R a4.out))); go_ret; exact ⟨by first | rfl | (simp [errW_none, errW_some, Option.map_none, Option.map_some] <;> rfl) | (simp only [← aD]; first | rfl | (simp [errW_none, errW_some, Option.map_none, Option.map_some] <;> rfl)) | (simp [*, errW_none, errW_some] <;> rfl), (tb_ HB.out)⟩
 ·
  obtain ⟨af, A7, H⟩ := bnd_ H; (try dsimp only at H); obtain ⟨ah, aF⟩ : ∃ y_ : List Int, y_ = (([(wrap64 (48 + (Int.tmod a0 10))) % 256] : List Int)) := ⟨_, rfl⟩
  replace H : (if af.size + (strOfNums ah).size ≤ 9223372036854775807 then (some (af ++ (strOfNums ah))) else (none)) = some r := yq_ aF H; have aw := A_ aF; clear aF; replace H := i0_ H; obtain ⟨c8, H⟩ := H; have bv := eq_true c8; have bw : decide (af.size + (strOfNums ah).size ≤ 9223372036854775807) = true := decide_eq_true c8; (try have bx : (9223372036854775807 < af.size + (strOfNums ah).size) = False := eq_false (Nat.not_lt.2 c8)); obtain rfl := Option.some.inj H; go_enter Tryz.func63, Tryz.ntmps63; (try go_wp2); replace HB := A_ (ld_ HB.out); refine sv_ (S := fun w' => True) (ds := []) trivial (fun hHeld => ?_); refine with_tabW spec_l1Number.tab3 spec_l1Number.bits3 (fun HT_ HW_ => ?_); generalize w.drew = w9 at HB hHeld ⊢; refine pv_ 0 ?_; refine pv_ 1 ?_; refine pv_ 3 ?_; refine pv_ 4 ?_; refine pv_ 5 ?_; refine pv_ 6 ?_; refine join_ (σ := Value) 2 #[true, true, true, true, true, true, true, true, true, false, false] (fun s_ => [(13, .string af), (18, s_), (19, .string (strOfNums ah))]) (fun s_ w' => (Kd.R (Kd.int .u8) 5 w' w.heap.size (fun _ => True) s_ ah) ∧ (Below w.heap.size w w')) ?_ ?_; rotate_left
  ·
   intro hCont; refine wv_ 2 7 (fun K hK => ?_) (fun K hK => ?_)
   ·
    skip; refine goes_ Tryz.func63 (by kernel_rfl) rfl #[.int .i64 (wrap64 (Int.tdiv a0 10))] (by rfl) rfl rfl tz_ ?_; (with_reducible refine (ih k (by omega) (wrap64 (Int.tdiv a0 10)) af _ A7.out).mono ?_); rintro e bz ⟨rfl, hb⟩; refine ⟨_, rfl, ?_⟩; replace HB := bs_ HB hb; (try clear hb); (try clear hb2); (try clear hk); (try clear hi); refine hK.out _ _ trivial (fun hHeld => ?_); clear hK K; refine nr_ 13 ?_; refine ov_ 7 (fun K hK => ?_); refine Kd.R_lit_step (Kd.int .u8) _ 5 ?hg (N := 18) ?hd (xs := ([(wrap64 (48 + (Int.tmod a0 10))) % 256] : List Int)) (inner := [.int .u8 ((wrap64 (48 + (Int.tmod a0 10))) % 256)]) (ok := fun _ => True) (okp := fun _ => True) ?hr ?hp (fun _ hk => hk) trivial (Below.refl _ _) (Nat.le_refl _) (by simp) ?_; (case hd => rfl); (case hg => rfl); (case hr => first | (go_simp; done) | (go_simp; rfl)); (case hp => exact (Reps.one (show Kd.M (Kd.int .u8) _ _ _ ((wrap64 (48 + (Int.tmod a0 10))) % 256) [.int .u8 ((wrap64 (48 + (Int.tmod a0 10))) % 256)] from rfl) (Reps.none _ _))); intro az bL ho12 hb hg_ hnew_; clear hg_ hnew_; (first | rw [← aw.out] at ho12 | (simp only [Int.reduceToNat] at ho12; rw [← aw.out] at ho12)); have ae := rx_ ho12 HB; replace HB := bs_ HB hb; clear hb ho12; refine hK.out _ _ trivial (fun hHeld => ?_); clear hK K; refine nr_ 18 ?_; refine ov_ 8 (fun K hK => ?_); have hcv13 := own_string (P := Tryz.prog) Tryz.underlying22 Tryz.underlying5 Tryz.underlying9 (Kd.own_of_R ae.out); refine va_ rfl ?_; clear hcv13; refine hK.out _ _ trivial (fun hHeld => ?_); clear hK K; refine nr_ 19 ?_; exact nq_ (hCont (az) _ ⟨(rR_ ae.out), (tb_ HB.out)⟩)
   ·
    skip; refine Kd.R_lit_step (Kd.int .u8) _ 5 ?hg (N := 18) ?hd (xs := ([(wrap64 (48 + (Int.tmod a0 10))) % 256] : List Int)) (inner := [.int .u8 ((wrap64 (48 + (Int.tmod a0 10))) % 256)]) (ok := fun _ => True) (okp := fun _ => True) ?hr ?hp (fun _ hk => hk) trivial (Below.refl _ _) (Nat.le_refl _) (by simp) ?_; (case hd => rfl); (case hg => rfl); (case hr => first | (go_simp; done) | (go_simp; rfl)); (case hp => exact (Reps.one (show Kd.M (Kd.int .u8) _ _ _ ((wrap64 (48 + (Int.tmod a0 10))) % 256) [.int .u8 ((wrap64 (48 + (Int.tmod a0 10))) % 256)] from rfl) (Reps.none _ _))); intro az bz ho11 hb hg_ hnew_; clear hg_ hnew_; (first | rw [← aw.out] at ho11 | (simp only [Int.reduceToNat] at ho11; rw [← aw.out] at ho11)); have ae := rx_ ho11 HB; replace HB := bs_ HB hb; clear hb ho11; refine hK.out _ _ trivial (fun hHeld => ?_); clear hK K; refine nr_ 18 ?_; refine wv_ 2 8 (fun K hK => ?_) (fun K hK => ?_)
    ·
     skip; refine goes_ Tryz.func63 (by kernel_rfl) rfl #[.int .i64 (wrap64 (Int.tdiv a0 10))] (by rfl) rfl rfl tz_ ?_; (with_reducible refine (ih k (by omega) (wrap64 (Int.tdiv a0 10)) af _ A7.out).mono ?_); rintro e bi ⟨rfl, hb⟩; refine ⟨_, rfl, ?_⟩; replace ae := rb_ ae hb; replace HB := bs_ HB hb; (try clear hb); (try clear hb2); (try clear hk); (try clear hi); refine hK.out _ _ trivial (fun hHeld => ?_); clear hK K; refine nr_ 13 ?_; refine ov_ 8 (fun K hK => ?_); have hcv13 := own_string (P := Tryz.prog) Tryz.underlying22 Tryz.underlying5 Tryz.underlying9 (Kd.own_of_R ae.out); refine va_ rfl ?_; clear hcv13; refine hK.out _ _ trivial (fun hHeld => ?_); clear hK K; refine nr_ 19 ?_; exact nq_ (hCont (az) _ ⟨(rR_ ae.out), (tb_ HB.out)⟩)
    ·
     skip; have hcv12 := own_string (P := Tryz.prog) Tryz.underlying22 Tryz.underlying5 Tryz.underlying9 (Kd.own_of_R ae.out); refine va_ rfl ?_; clear hcv12; refine hK.out _ _ trivial (fun hHeld => ?_); clear hK K; refine nr_ 19 ?_; refine ov_ 2 (fun K hK => ?_); refine goes_ Tryz.func63 (by kernel_rfl) rfl #[.int .i64 (wrap64 (Int.tdiv a0 10))] (by rfl) rfl rfl tz_ ?_; (with_reducible refine (ih k (by omega) (wrap64 (Int.tdiv a0 10)) af _ A7.out).mono ?_); rintro e bq ⟨rfl, hb⟩; refine ⟨_, rfl, ?_⟩; replace ae := rb_ ae hb; replace HB := bs_ HB hb; (try clear hb); (try clear hb2); (try clear hk); (try clear hi); refine hK.out _ _ trivial (fun hHeld => ?_); clear hK K; refine nr_ 13 ?_; exact nq_ (hCont (az) _ ⟨(rR_ ae.out), (tb_ HB.out)⟩)
  rintro az bk ⟨h0_, h1_⟩; have ae : Aside0 (Kd.R (Kd.int .u8) 5 bk w.heap.size (fun _ => True) az ah) := ⟨h0_⟩
  replace HB : Aside0 (Below w.heap.size w bk) := ⟨h1_⟩
  clear h0_ h1_; have hHeld := trivial; refine norm_ (a' := ?_) ?_ ?_; rotate_left
  ·
   simp only [putAll, Act.put, sa_, sb_, sc_]; rfl
  refine pv_ 9 ?_; refine pv_ 10 ?_; refine done_ (done_of HT_.out (by kernel_rfl)) ?_; (try go_wp2); go_ret; exact ⟨tw_, (tb_ HB.out)⟩
/-! ### spec_l15Row: function 43 -/
def spec_l15Row.l0 : Nat → List Int → ByteArray → Int → Option (ByteArray)
 | 0, _, _, _ => none
 | k + 1, x0, x3, x4 => if x4 < (x0.length : Int) then (if x4 > 0 then (if x3.size + 1 ≤ 9223372036854775807 then (if 0 ≤ x4 then ((spec_l1Number.f k (rd x0 x4)).bind fun ai => (if (x3 ++ (⟨#[44]⟩ : ByteArray)).size + ai.size ≤ 9223372036854775807 then (spec_l15Row.l0 k x0 ((x3 ++ (⟨#[44]⟩ : ByteArray)) ++ ai) (wrap64 (x4 + 1))) else (none))) else (none)) else (none)) else (if 0 ≤ x4 then ((spec_l1Number.f k (rd x0 x4)).bind fun ap => (if x3.size + ap.size ≤ 9223372036854775807 then (spec_l15Row.l0 k x0 (x3 ++ ap) (wrap64 (x4 + 1))) else (none))) else (none))) else (if (x0.length : Int) = 0 then (some (⟨#[110, 111, 110, 101]⟩ : ByteArray)) else (some x3))
def spec_l15Row.f (k : Nat) (l0 : List Int) : Option (ByteArray) := spec_l15Row.l0 k l0 (⟨#[]⟩ : ByteArray) 0
theorem spec_l15Row.calls (k : Nat) (A0 : Option Addr) (c0 : Nat) (l0 : List Int) (r : ByteArray) (w : World) (hr0 : Kd.C (Kd.int .i64) w A0 l0.length l0) (hc0 : l0.length ≤ c0) (h : spec_l15Row.f k l0 = some r) :
  Calls Tryz.prog 43 #[.slice A0 l0.length c0] w fun e w' => e = .returned (.string r) ∧ Below w.heap.size w w' := by
 have HR0 := A_ hr0; have HC0 := A_ hc0; clear hr0 hc0; have HB := A_ (Below.refl w.heap.size w); have H : (spec_l15Row.l0 k l0 (⟨#[]⟩ : ByteArray) 0) = some r := h; clear h; have H' := A_ H; clear H; go_enter Tryz.func43, Tryz.ntmps43; go_wp2
 go_loopg [3, 4] k (fun kq v3 v4 w' => ∃ (ag : ByteArray) (ac : Int), v3 = .string ag ∧ v4 = .int .i64 ac ∧ Aside0 (spec_l15Row.l0 kq l0 ag ac = some r) ∧ Aside0 (kq ≤ k) ∧ Aside0 (Below w.heap.size w w'))
 case atStart => exact ⟨((⟨#[]⟩ : ByteArray)), (0), tx_, tx_, H', ⟨Nat.le_refl _⟩, ⟨(tb_ HB.out)⟩⟩
 case round =>
  clear H'; obtain ⟨ag, ac, rfl, rfl, HA, HK1, HB⟩ := hrel
  cases gk with
  | zero => exact absurd HA.out (by simp [spec_l15Row.l0])
  | succ k1 =>
   have H := HA.out; clear HA; simp only [spec_l15Row.l0] at H; replace H := it_ H; rcases H with ⟨aY, H⟩ | ⟨aY, H⟩
   ·
    replace H := ig_ H; rcases H with ⟨bd, H⟩ | ⟨bd, H⟩
    ·
     replace H := i0_ H; obtain ⟨c4, H⟩ := H; have bB := eq_true c4; have bC : decide (ag.size + 1 ≤ 9223372036854775807) = true := decide_eq_true c4; (try have bD : (9223372036854775807 < ag.size + 1) = False := eq_false (Nat.not_lt.2 c4)); replace H := in_ H; obtain ⟨bE, H⟩ := H; obtain ⟨ai, A6, H⟩ := bnd_ H; (try dsimp only at H); replace H := i0_ H; obtain ⟨c7, H⟩ := H; have bF := eq_true c7; have bG : decide ((ag ++ (⟨#[44]⟩ : ByteArray)).size + ai.size ≤ 9223372036854775807) = true := decide_eq_true c7; (try have bH : (9223372036854775807 < (ag ++ (⟨#[44]⟩ : ByteArray)).size + ai.size) = False := eq_false (Nat.not_lt.2 c7)); (try have bI : (9223372036854775807 < ag.size + 1 + ai.size) = False := eq_false (by have h := c7; simp only [ByteArray.size_append] at h; simp only [ByteArray.size] at h ⊢; simp at h ⊢; omega)); have H' := A_ H; clear H; obtain ⟨p176, q176, ad176, e176, aj⟩ := a2_ (Kd.at_int HR0.out ac); cases e176; replace aj := (HB.out.cell (World.block_lt_of_cell? w _ aj)).trans aj; go_wp2_with (first | ((with_reducible refine gate_callee (f := 63) rfl ?_); refine gl_ (some 20) Tryz.func63 #[.int .i64 (rd l0 ac)] ?_; (with_reducible refine (spec_l1Number.calls k1 (rd l0 ac) ai _ A6.out).mono ?_); rintro e w8 ⟨rfl, hb⟩; refine ⟨_, rfl, ?_⟩; replace HB := bs_ HB hb; (try clear hb)))
     go_roundg k1
     case measure => have := HK1.out; omega
     case rel => exact ⟨((ag ++ (⟨#[44]⟩ : ByteArray)) ++ ai), (wrap64 (ac + 1)), tx_, tx_, H', ⟨by have := HK1.out; omega⟩, ⟨(tb_ HB.out)⟩⟩
    ·
     replace H := in_ H; obtain ⟨bJ, H⟩ := H; obtain ⟨ap, A10, H⟩ := bnd_ H; (try dsimp only at H); replace H := i0_ H; obtain ⟨c11, H⟩ := H; have bl := eq_true c11; have bm : decide (ag.size + ap.size ≤ 9223372036854775807) = true := decide_eq_true c11; (try have bn : (9223372036854775807 < ag.size + ap.size) = False := eq_false (Nat.not_lt.2 c11)); have H' := A_ H; clear H; obtain ⟨p178, q178, ad178, e178, ak⟩ := a2_ (Kd.at_int HR0.out ac); cases e178; replace ak := (HB.out.cell (World.block_lt_of_cell? w _ ak)).trans ak; go_wp2_with (first | ((with_reducible refine gate_callee (f := 63) rfl ?_); refine gl_ (some 20) Tryz.func63 #[.int .i64 (rd l0 ac)] ?_; (with_reducible refine (spec_l1Number.calls k1 (rd l0 ac) ap _ A10.out).mono ?_); rintro e bi ⟨rfl, hb⟩; refine ⟨_, rfl, ?_⟩; replace HB := bs_ HB hb; (try clear hb)))
     go_roundg k1
     case measure => have := HK1.out; omega
     case rel => exact ⟨(ag ++ ap), (wrap64 (ac + 1)), tx_, tx_, H', ⟨by have := HK1.out; omega⟩, ⟨(tb_ HB.out)⟩⟩
   ·
    by_cases c13 : (l0.length : Int) = 0
    ·
     rw [if_pos c13] at H; have a5 : ((l0.length : Int) == 0) = true := beq_iff_eq.mpr c13; have a6 : ((l0.length : Int) != 0) = false := bne_eq_false_iff_eq.mpr c13; clear c13; obtain rfl := Option.some.inj H; go_wp2; go_ret; exact ⟨tw_, (tb_ HB.out)⟩
    ·
     rw [if_neg c13] at H; have a5 : ((l0.length : Int) == 0) = false := beq_eq_false_iff_ne.mpr c13; have a6 : ((l0.length : Int) != 0) = true := bne_iff_ne.mpr c13; have bo : ¬ (l0 = []) := fun h_ => c13 (by rw [h_]; rfl); obtain rfl := Option.some.inj H; go_wp2; go_ret; exact ⟨tw_, (tb_ HB.out)⟩

end Go.Proofs.YtfacponjomafcaaGreatDoor.MFnExactStoreSave
