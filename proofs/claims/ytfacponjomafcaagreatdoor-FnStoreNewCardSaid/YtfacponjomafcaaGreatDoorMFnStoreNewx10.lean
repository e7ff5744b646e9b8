/- For the law FnStoreNew: walks of the functions that it reaches: each call returns what the plain function beside it tells. The conditions stand in each statement. -/
import Derived.Test.YtfacponjomafcaaGreatDoorV
import Derived.Test.YtfacponjomafcaaGreatDoorMFnStoreNewx0
namespace Go.Proofs.YtfacponjomafcaaGreatDoor.MFnStoreNew
open Go.RowKit Go.Proofs.YtfacponjomafcaaGreatDoorW.PrintWords Go.Proofs.YtfacponjomafcaaGreatDoorW.PrintLast Go.Proofs.YtfacponjomafcaaGreatDoorW.PrintMore
attribute [local go_sem] max2_int min2_int max_two min_two max_three min_three max_four min_four   -- for this text's walks alone
set_option linter.unusedVariables false
set_option linter.unusedSimpArgs false
set_option maxHeartbeats 8000000
set_option maxRecDepth 100000

/-! ### spec_l1Number: function 63 -/
def spec_l1Number.f : Nat → Int → Option (ByteArray)
 | 0, _ => none
 | k + 1, a0 => if a0 < 10 then (some (strOfNums (([(wrap64 (48 + (mx a0 0))) % 256] : List Int)))) else ((spec_l1Number.f k (wrap64 (Int.tdiv a0 10))).bind fun ac => ((some (([(wrap64 (48 + (Int.tmod a0 10))) % 256] : List Int) : List Int)).bind fun ae => (if ac.size + (strOfNums ae).size ≤ 9223372036854775807 then (some (ac ++ (strOfNums ae))) else (none))))
theorem spec_l1Number.mono_l : ∀ k, (∀ y0, LeO (spec_l1Number.f k y0) (spec_l1Number.f (k + 1) y0))
 | 0 => fun _ r h => by simp [spec_l1Number.f] at h
 | k + 1 => by
  have ih0 := spec_l1Number.mono_l k
  ·
   intro y0
   unfold spec_l1Number.f
   repeat' (with_reducible first | exact ih0 _ | exact mr_ | exact mn_ | refine mi_ ?_ ?_ | refine mb_ ?_ (fun _ => ?_))
theorem spec_l1Number.mono : ∀ a0 k, LeO (spec_l1Number.f k a0) (spec_l1Number.f (k + 1) a0) := by
 intro a0 k; have ih0 := spec_l1Number.mono_l k; exact ih0 a0
def spec_l1Number.T3 : Bool × List (List Nat × List Nat) := (true, [([], []), ([0], [0]), ([1], [1]), ([], []), ([3], [3]), ([4], [4]), ([5], [5]), ([6], [6]), ([7], [7]), ([2, 8], [2, 8]), ([9, 2, 0, 1, 2, 3, 4, 5, 6, 7, 8, 9], [9])])
def spec_l1Number.B3 : List Nat := [0, 1, 3, 0, 8, 24, 56, 120, 248, 511, 1023]
theorem spec_l1Number.tab3 : rtab .any (opsOf Tryz.f63 3) = spec_l1Number.T3 := by kernel_rfl
theorem spec_l1Number.bits3 : waitsOk spec_l1Number.T3.2 spec_l1Number.B3 = true := by kernel_rfl
theorem spec_l1Number.calls (k : Nat) : ∀ (a0 : Int) (r : ByteArray) (w : World) (h : spec_l1Number.f k a0 = some r),
  Calls Tryz.prog 63 #[.int .i64 a0] w fun e w' => e = .returned (.string r) ∧ Below w.heap.size w w' := by
 induction k using Nat.strongRecOn with
 | _ k ih =>
 intro a0 r w h
 cases k with
 | zero => exact absurd h (by simp [spec_l1Number.f])
 | succ k =>
 simp only [spec_l1Number.f] at h; have HB := A_ (Below.refl w.heap.size w); have H : (if a0 < 10 then (some (strOfNums (([(wrap64 (48 + (mx a0 0))) % 256] : List Int)))) else ((spec_l1Number.f k (wrap64 (Int.tdiv a0 10))).bind fun ac => ((some (([(wrap64 (48 + (Int.tmod a0 10))) % 256] : List Int) : List Int)).bind fun ae => (if ac.size + (strOfNums ae).size ≤ 9223372036854775807 then (some (ac ++ (strOfNums ae))) else (none))))) = some r := h; clear h; replace H := it_ H; rcases H with ⟨am, H⟩ | ⟨am, H⟩
 ·
  obtain ⟨ar, an⟩ : ∃ j_ : Int, (mx a0 0) = j_ := ⟨_, rfl⟩
  replace H : (some (strOfNums (([(wrap64 (48 + (ar))) % 256] : List Int)))) = some r := by first | (rw [an] at H; exact H) | (simp only [an] at H ⊢; exact H)
  (try (have hji3l : 0 ≤ ar := by (rw [← an]; unfold mx; (repeat' split) <;> omega))); (try (have hji3m : 0 ≤ ar := by omega)); have hji3_ : (if a0 < 0 then 0 else a0) = ar := an; obtain ⟨ay, ao⟩ : ∃ y_ : List Int, y_ = (([(wrap64 (48 + (ar))) % 256] : List Int)) := ⟨_, rfl⟩
  replace H : (some (strOfNums ay)) = some r := yq_ ao H; have au := A_ ao; clear ao; obtain rfl := Option.some.inj H; go_enter Tryz.func63, Tryz.ntmps63; go_wp2_with (first | ((with_reducible refine gate_dst (N := 9) rfl ?_); refine Kd.R_lit (Kd.int .u8) _ 5 ?hg (N := 9) ?hd (xs := ([(wrap64 (48 + (ar))) % 256] : List Int)) (inner := [.int .u8 ((wrap64 (48 + (ar))) % 256)]) (ok := fun _ => True) (okp := fun _ => True) ?hr ?hp (fun _ hk => hk) trivial (Below.refl _ _) (Nat.le_refl _) (by simp) ?_; (case hd => rfl); (case hg => rfl); (case hr => first | (go_simp; done) | (go_simp; rfl)); (case hp => exact (Reps.one (show Kd.M (Kd.int .u8) _ _ _ ((wrap64 (48 + (ar))) % 256) [.int .u8 ((wrap64 (48 + (ar))) % 256)] from rfl) (Reps.none _ _))); intro aI w4 ho5 hb hg_ hnew_; clear hg_ hnew_; (first | rw [← au.out] at ho5 | (simp only [Int.reduceToNat] at ho5; rw [← au.out] at ho5)); have av := rx_ ho5 HB; replace HB := bs_ HB hb; clear hb ho5; have hcv6 := own_string (P := Tryz.prog) Tryz.underlying22 Tryz.underlying5 Tryz.underlying9 (Kd.own_of_R av.out))); go_ret; exact ⟨by first | rfl | (simp [errW_none, errW_some, Option.map_none, Option.map_some] <;> rfl) | (simp only [← an]; first | rfl | (simp [errW_none, errW_some, Option.map_none, Option.map_some] <;> rfl)) | (simp [*, errW_none, errW_some] <;> rfl), (tb_ HB.out)⟩
 ·
  obtain ⟨ac, A7, H⟩ := bnd_ H; (try dsimp only at H); obtain ⟨ae, ap⟩ : ∃ y_ : List Int, y_ = (([(wrap64 (48 + (Int.tmod a0 10))) % 256] : List Int)) := ⟨_, rfl⟩
  replace H : (if ac.size + (strOfNums ae).size ≤ 9223372036854775807 then (some (ac ++ (strOfNums ae))) else (none)) = some r := yq_ ap H; have ak := A_ ap; clear ap; replace H := i0_ H; obtain ⟨c8, H⟩ := H; have aJ := eq_true c8; have aK : decide (ac.size + (strOfNums ae).size ≤ 9223372036854775807) = true := decide_eq_true c8; (try have aL : (9223372036854775807 < ac.size + (strOfNums ae).size) = False := eq_false (Nat.not_lt.2 c8)); obtain rfl := Option.some.inj H; go_enter Tryz.func63, Tryz.ntmps63; (try go_wp2); replace HB := A_ (ld_ HB.out); refine sv_ (S := fun w' => True) (ds := []) trivial (fun hHeld => ?_); refine with_tabW spec_l1Number.tab3 spec_l1Number.bits3 (fun HT_ HW_ => ?_); generalize w.drew = w9 at HB hHeld ⊢; refine pv_ 0 ?_; refine pv_ 1 ?_; refine pv_ 3 ?_; refine pv_ 4 ?_; refine pv_ 5 ?_; refine pv_ 6 ?_; refine join_ (σ := Value) 2 #[true, true, true, true, true, true, true, true, true, false, false] (fun s_ => [(13, .string ac), (18, s_), (19, .string (strOfNums ae))]) (fun s_ w' => (Kd.R (Kd.int .u8) 5 w' w.heap.size (fun _ => True) s_ ae) ∧ (Below w.heap.size w w')) ?_ ?_; rotate_left
  ·
   intro hCont; refine wv_ 2 7 (fun K hK => ?_) (fun K hK => ?_)
   ·
    skip; refine goes_ Tryz.func63 (by kernel_rfl) rfl #[.int .i64 (wrap64 (Int.tdiv a0 10))] (by rfl) rfl rfl tz_ ?_; (with_reducible refine (ih k (by omega) (wrap64 (Int.tdiv a0 10)) ac _ A7.out).mono ?_); rintro e aM ⟨rfl, hb⟩; refine ⟨_, rfl, ?_⟩; replace HB := bs_ HB hb; (try clear hb); (try clear hb2); (try clear hk); (try clear hi); refine hK.out _ _ trivial (fun hHeld => ?_); clear hK K; refine nr_ 13 ?_; refine ov_ 7 (fun K hK => ?_); refine Kd.R_lit_step (Kd.int .u8) _ 5 ?hg (N := 18) ?hd (xs := ([(wrap64 (48 + (Int.tmod a0 10))) % 256] : List Int)) (inner := [.int .u8 ((wrap64 (48 + (Int.tmod a0 10))) % 256)]) (ok := fun _ => True) (okp := fun _ => True) ?hr ?hp (fun _ hk => hk) trivial (Below.refl _ _) (Nat.le_refl _) (by simp) ?_; (case hd => rfl); (case hg => rfl); (case hr => first | (go_simp; done) | (go_simp; rfl)); (case hp => exact (Reps.one (show Kd.M (Kd.int .u8) _ _ _ ((wrap64 (48 + (Int.tmod a0 10))) % 256) [.int .u8 ((wrap64 (48 + (Int.tmod a0 10))) % 256)] from rfl) (Reps.none _ _))); intro al aW ho12 hb hg_ hnew_; clear hg_ hnew_; (first | rw [← ak.out] at ho12 | (simp only [Int.reduceToNat] at ho12; rw [← ak.out] at ho12)); have ab := rx_ ho12 HB; replace HB := bs_ HB hb; clear hb ho12; refine hK.out _ _ trivial (fun hHeld => ?_); clear hK K; refine nr_ 18 ?_; refine ov_ 8 (fun K hK => ?_); have hcv13 := own_string (P := Tryz.prog) Tryz.underlying22 Tryz.underlying5 Tryz.underlying9 (Kd.own_of_R ab.out); refine va_ rfl ?_; clear hcv13; refine hK.out _ _ trivial (fun hHeld => ?_); clear hK K; refine nr_ 19 ?_; exact nq_ (hCont (al) _ ⟨(rR_ ab.out), (tb_ HB.out)⟩)
   ·
    skip; refine Kd.R_lit_step (Kd.int .u8) _ 5 ?hg (N := 18) ?hd (xs := ([(wrap64 (48 + (Int.tmod a0 10))) % 256] : List Int)) (inner := [.int .u8 ((wrap64 (48 + (Int.tmod a0 10))) % 256)]) (ok := fun _ => True) (okp := fun _ => True) ?hr ?hp (fun _ hk => hk) trivial (Below.refl _ _) (Nat.le_refl _) (by simp) ?_; (case hd => rfl); (case hg => rfl); (case hr => first | (go_simp; done) | (go_simp; rfl)); (case hp => exact (Reps.one (show Kd.M (Kd.int .u8) _ _ _ ((wrap64 (48 + (Int.tmod a0 10))) % 256) [.int .u8 ((wrap64 (48 + (Int.tmod a0 10))) % 256)] from rfl) (Reps.none _ _))); intro al aM ho11 hb hg_ hnew_; clear hg_ hnew_; (first | rw [← ak.out] at ho11 | (simp only [Int.reduceToNat] at ho11; rw [← ak.out] at ho11)); have ab := rx_ ho11 HB; replace HB := bs_ HB hb; clear hb ho11; refine hK.out _ _ trivial (fun hHeld => ?_); clear hK K; refine nr_ 18 ?_; refine wv_ 2 8 (fun K hK => ?_) (fun K hK => ?_)
    ·
     skip; refine goes_ Tryz.func63 (by kernel_rfl) rfl #[.int .i64 (wrap64 (Int.tdiv a0 10))] (by rfl) rfl rfl tz_ ?_; (with_reducible refine (ih k (by omega) (wrap64 (Int.tdiv a0 10)) ac _ A7.out).mono ?_); rintro e aN ⟨rfl, hb⟩; refine ⟨_, rfl, ?_⟩; replace ab := rb_ ab hb; replace HB := bs_ HB hb; (try clear hb); (try clear hb2); (try clear hk); (try clear hi); refine hK.out _ _ trivial (fun hHeld => ?_); clear hK K; refine nr_ 13 ?_; refine ov_ 8 (fun K hK => ?_); have hcv13 := own_string (P := Tryz.prog) Tryz.underlying22 Tryz.underlying5 Tryz.underlying9 (Kd.own_of_R ab.out); refine va_ rfl ?_; clear hcv13; refine hK.out _ _ trivial (fun hHeld => ?_); clear hK K; refine nr_ 19 ?_; exact nq_ (hCont (al) _ ⟨(rR_ ab.out), (tb_ HB.out)⟩)
    ·
     skip; have hcv12 := own_string (P := Tryz.prog) Tryz.underlying22 Tryz.underlying5 Tryz.underlying9 (Kd.own_of_R ab.out); refine va_ rfl ?_; clear hcv12; refine hK.out _ _ trivial (fun hHeld => ?_); clear hK K; refine nr_ 19 ?_; refine ov_ 2 (fun K hK => ?_); refine goes_ Tryz.func63 (by kernel_rfl) rfl #[.int .i64 (wrap64 (Int.tdiv a0 10))] (by rfl) rfl rfl tz_ ?_; (with_reducible refine (ih k (by omega) (wrap64 (Int.tdiv a0 10)) ac _ A7.out).mono ?_); rintro e aX ⟨rfl, hb⟩; refine ⟨_, rfl, ?_⟩; replace ab := rb_ ab hb; replace HB := bs_ HB hb; (try clear hb); (try clear hb2); (try clear hk); (try clear hi); refine hK.out _ _ trivial (fun hHeld => ?_); clear hK K; refine nr_ 13 ?_; exact nq_ (hCont (al) _ ⟨(rR_ ab.out), (tb_ HB.out)⟩)
  rintro al aD ⟨h0_, h1_⟩; have ab : Aside0 (Kd.R (Kd.int .u8) 5 aD w.heap.size (fun _ => True) al ae) := ⟨h0_⟩
  replace HB : Aside0 (Below w.heap.size w aD) := ⟨h1_⟩
  clear h0_ h1_; have hHeld := trivial; refine norm_ (a' := ?_) ?_ ?_; rotate_left
  ·
   simp only [putAll, Act.put, sa_, sb_, sc_]; rfl
  refine pv_ 9 ?_; refine pv_ 10 ?_; refine done_ (done_of HT_.out (by kernel_rfl)) ?_; (try go_wp2); go_ret; exact ⟨tw_, (tb_ HB.out)⟩
/-! ### spec_l15Row: function 43 -/
def spec_l15Row.l0 : Nat → List Int → ByteArray → Int → Option (ByteArray)
 | 0, _, _, _ => none
 | k + 1, x0, x3, x4 => if x4 < (x0.length : Int) then (if x4 > 0 then (if x3.size + 1 ≤ 9223372036854775807 then (if 0 ≤ x4 then ((spec_l1Number.f k (rd x0 x4)).bind fun ag => (if (x3 ++ (⟨#[44]⟩ : ByteArray)).size + ag.size ≤ 9223372036854775807 then (spec_l15Row.l0 k x0 ((x3 ++ (⟨#[44]⟩ : ByteArray)) ++ ag) (wrap64 (x4 + 1))) else (none))) else (none)) else (none)) else (if 0 ≤ x4 then ((spec_l1Number.f k (rd x0 x4)).bind fun aj => (if x3.size + aj.size ≤ 9223372036854775807 then (spec_l15Row.l0 k x0 (x3 ++ aj) (wrap64 (x4 + 1))) else (none))) else (none))) else (if (x0.length : Int) = 0 then (some (⟨#[110, 111, 110, 101]⟩ : ByteArray)) else (some x3))
def spec_l15Row.f (k : Nat) (l0 : List Int) : Option (ByteArray) := spec_l15Row.l0 k l0 (⟨#[]⟩ : ByteArray) 0
theorem spec_l15Row.mono_l : ∀ k, (∀ y0 y1 y2, LeO (spec_l15Row.l0 k y0 y1 y2) (spec_l15Row.l0 (k + 1) y0 y1 y2))
 | 0 => fun _ _ _ r h => by simp [spec_l15Row.l0] at h
 | k + 1 => by
  have ih0 := spec_l15Row.mono_l k
  ·
   intro y0 y1 y2
   unfold spec_l15Row.l0
   repeat' (with_reducible first | exact ih0 _ _ _ | exact spec_l1Number.mono _ _ | exact mr_ | exact mn_ | refine mi_ ?_ ?_ | refine mb_ ?_ (fun _ => ?_))
theorem spec_l15Row.mono : ∀ a0 k, LeO (spec_l15Row.f k a0) (spec_l15Row.f (k + 1) a0) := by
 intro a0 k; have ih0 := spec_l15Row.mono_l k; unfold spec_l15Row.f; repeat' (with_reducible first | exact ih0 _ _ _ | exact spec_l1Number.mono _ _ | exact mr_ | exact mn_ | refine mi_ ?_ ?_ | refine mb_ ?_ (fun _ => ?_))
theorem spec_l15Row.calls (k : Nat) (A0 : Option Addr) (c0 : Nat) (l0 : List Int) (r : ByteArray) (w : World) (hr0 : Kd.C (Kd.int .i64) w A0 l0.length l0) (hc0 : l0.length ≤ c0) (h : spec_l15Row.f k l0 = some r) :
  Calls Tryz.prog 43 #[.slice A0 l0.length c0] w fun e w' => e = .returned (.string r) ∧ Below w.heap.size w w' := by
 have HR0 := A_ hr0; have HC0 := A_ hc0; clear hr0 hc0; have HB := A_ (Below.refl w.heap.size w); have H : (spec_l15Row.l0 k l0 (⟨#[]⟩ : ByteArray) 0) = some r := h; clear h; have H' := A_ H; clear H; go_enter Tryz.func43, Tryz.ntmps43; go_wp2
 go_loopg [3, 4] k (fun kq v3 v4 w' => ∃ (ad : ByteArray) (aa : Int), v3 = .string ad ∧ v4 = .int .i64 aa ∧ Aside0 (spec_l15Row.l0 kq l0 ad aa = some r) ∧ Aside0 (kq ≤ k) ∧ Aside0 (Below w.heap.size w w'))
 case atStart => exact ⟨((⟨#[]⟩ : ByteArray)), (0), tx_, tx_, H', ⟨Nat.le_refl _⟩, ⟨(tb_ HB.out)⟩⟩
 case round =>
  clear H'; obtain ⟨ad, aa, rfl, rfl, HA, HK1, HB⟩ := hrel
  cases gk with
  | zero => exact absurd HA.out (by simp [spec_l15Row.l0])
  | succ k1 =>
   have H := HA.out; clear HA; simp only [spec_l15Row.l0] at H; replace H := it_ H; rcases H with ⟨am, H⟩ | ⟨am, H⟩
   ·
    replace H := ig_ H; rcases H with ⟨az, H⟩ | ⟨az, H⟩
    ·
     replace H := i0_ H; obtain ⟨c4, H⟩ := H; have aA := eq_true c4; have aB : decide (ad.size + 1 ≤ 9223372036854775807) = true := decide_eq_true c4; (try have aC : (9223372036854775807 < ad.size + 1) = False := eq_false (Nat.not_lt.2 c4)); replace H := in_ H; obtain ⟨aO, H⟩ := H; obtain ⟨ag, A6, H⟩ := bnd_ H; (try dsimp only at H); replace H := i0_ H; obtain ⟨c7, H⟩ := H; have aP := eq_true c7; have aQ : decide ((ad ++ (⟨#[44]⟩ : ByteArray)).size + ag.size ≤ 9223372036854775807) = true := decide_eq_true c7; (try have aR : (9223372036854775807 < (ad ++ (⟨#[44]⟩ : ByteArray)).size + ag.size) = False := eq_false (Nat.not_lt.2 c7)); (try have aU : (9223372036854775807 < ad.size + 1 + ag.size) = False := eq_false (by have h := c7; simp only [ByteArray.size_append] at h; simp only [ByteArray.size] at h ⊢; simp at h ⊢; omega)); have H' := A_ H; clear H; obtain ⟨p324, q324, ad324, e324, ah⟩ := a2_ (Kd.at_int HR0.out aa); cases e324; replace ah := (HB.out.cell (World.block_lt_of_cell? w _ ah)).trans ah; go_wp2_with (first | ((with_reducible refine gate_callee (f := 63) rfl ?_); refine gl_ (some 20) Tryz.func63 #[.int .i64 (rd l0 aa)] ?_; (with_reducible refine (spec_l1Number.calls k1 (rd l0 aa) ag _ A6.out).mono ?_); rintro e w8 ⟨rfl, hb⟩; refine ⟨_, rfl, ?_⟩; replace HB := bs_ HB hb; (try clear hb)))
     go_roundg k1
     case measure => have := HK1.out; omega
     case rel => exact ⟨((ad ++ (⟨#[44]⟩ : ByteArray)) ++ ag), (wrap64 (aa + 1)), tx_, tx_, H', ⟨by have := HK1.out; omega⟩, ⟨(tb_ HB.out)⟩⟩
    ·
     replace H := in_ H; obtain ⟨aV, H⟩ := H; obtain ⟨aj, A10, H⟩ := bnd_ H; (try dsimp only at H); replace H := i0_ H; obtain ⟨c11, H⟩ := H; have aE := eq_true c11; have aF : decide (ad.size + aj.size ≤ 9223372036854775807) = true := decide_eq_true c11; (try have aG : (9223372036854775807 < ad.size + aj.size) = False := eq_false (Nat.not_lt.2 c11)); have H' := A_ H; clear H; obtain ⟨p326, q326, ad326, e326, ai⟩ := a2_ (Kd.at_int HR0.out aa); cases e326; replace ai := (HB.out.cell (World.block_lt_of_cell? w _ ai)).trans ai; go_wp2_with (first | ((with_reducible refine gate_callee (f := 63) rfl ?_); refine gl_ (some 20) Tryz.func63 #[.int .i64 (rd l0 aa)] ?_; (with_reducible refine (spec_l1Number.calls k1 (rd l0 aa) aj _ A10.out).mono ?_); rintro e aN ⟨rfl, hb⟩; refine ⟨_, rfl, ?_⟩; replace HB := bs_ HB hb; (try clear hb)))
     go_roundg k1
     case measure => have := HK1.out; omega
     case rel => exact ⟨(ad ++ aj), (wrap64 (aa + 1)), tx_, tx_, H', ⟨by have := HK1.out; omega⟩, ⟨(tb_ HB.out)⟩⟩
   ·
    by_cases c13 : (l0.length : Int) = 0
    ·
     rw [if_pos c13] at H; have aw : ((l0.length : Int) == 0) = true := beq_iff_eq.mpr c13; have ax : ((l0.length : Int) != 0) = false := bne_eq_false_iff_eq.mpr c13; clear c13; obtain rfl := Option.some.inj H; go_wp2; go_ret; exact ⟨tw_, (tb_ HB.out)⟩
    ·
     rw [if_neg c13] at H; have aw : ((l0.length : Int) == 0) = false := beq_eq_false_iff_ne.mpr c13; have ax : ((l0.length : Int) != 0) = true := bne_iff_ne.mpr c13; have aH : ¬ (l0 = []) := fun h_ => c13 (by rw [h_]; rfl); obtain rfl := Option.some.inj H; go_wp2; go_ret; exact ⟨tw_, (tb_ HB.out)⟩

/-! ### spec_l15Step: function 44 -/
def spec_l15Step.f (k : Nat) (a0 : Int) : Option (ByteArray) := if a0 < 0 then ((spec_l1Number.f k (wrap64 (-a0))).bind fun af => (if 1 + af.size ≤ 9223372036854775807 then (some ((⟨#[45]⟩ : ByteArray) ++ af)) else (none))) else ((spec_l1Number.f k a0).bind fun aq => (some aq))
theorem spec_l15Step.mono : ∀ a0 k, LeO (spec_l15Step.f k a0) (spec_l15Step.f (k + 1) a0) := by
 intro a0 k; unfold spec_l15Step.f; repeat' (with_reducible first | exact spec_l1Number.mono _ _ | exact mr_ | exact mn_ | refine mi_ ?_ ?_ | refine mb_ ?_ (fun _ => ?_))
theorem spec_l15Step.calls (k : Nat) (a0 : Int) (r : ByteArray) (w : World) (h : spec_l15Step.f k a0 = some r) :
  Calls Tryz.prog 44 #[.int .i64 a0] w fun e w' => e = .returned (.string r) ∧ Below w.heap.size w w' := by
 have HB := A_ (Below.refl w.heap.size w); have H : (if a0 < 0 then ((spec_l1Number.f k (wrap64 (-a0))).bind fun af => (if 1 + af.size ≤ 9223372036854775807 then (some ((⟨#[45]⟩ : ByteArray) ++ af)) else (none))) else ((spec_l1Number.f k a0).bind fun aq => (some aq))) = some r := h; clear h; replace H := it_ H; rcases H with ⟨am, H⟩ | ⟨am, H⟩
 ·
  obtain ⟨af, A3, H⟩ := bnd_ H; (try dsimp only at H); replace H := i0_ H; obtain ⟨c4, H⟩ := H; have aA := eq_true c4; have aB : decide (1 + af.size ≤ 9223372036854775807) = true := decide_eq_true c4; (try have aC : (9223372036854775807 < 1 + af.size) = False := eq_false (Nat.not_lt.2 c4)); obtain rfl := Option.some.inj H; go_enter Tryz.func44, Tryz.ntmps44; go_wp2_with (first | ((with_reducible refine gate_callee (f := 63) rfl ?_); refine gl_ (some 7) Tryz.func63 #[.int .i64 (wrap64 (-a0))] ?_; (with_reducible refine (spec_l1Number.calls k (wrap64 (-a0)) af _ A3.out).mono ?_); rintro e w5 ⟨rfl, hb⟩; refine ⟨_, rfl, ?_⟩; replace HB := bs_ HB hb; (try clear hb))); go_ret; exact ⟨tw_, (tb_ HB.out)⟩
 ·
  obtain ⟨aq, A6, H⟩ := bnd_ H; (try dsimp only at H); obtain rfl := Option.some.inj H; go_enter Tryz.func44, Tryz.ntmps44; go_wp2_with (first | ((with_reducible refine gate_callee (f := 63) rfl ?_); refine gl_ (some 10) Tryz.func63 #[.int .i64 a0] ?_; (with_reducible refine (spec_l1Number.calls k a0 aq _ A6.out).mono ?_); rintro e w7 ⟨rfl, hb⟩; refine ⟨_, rfl, ?_⟩; replace HB := bs_ HB hb; (try clear hb))); go_ret; exact ⟨tw_, (tb_ HB.out)⟩

end Go.Proofs.YtfacponjomafcaaGreatDoor.MFnStoreNew
