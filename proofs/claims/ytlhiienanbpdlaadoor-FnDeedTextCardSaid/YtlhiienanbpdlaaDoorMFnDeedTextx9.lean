/- For the law FnDeedText: walks of the functions that it reaches: each call returns what the plain function beside it tells. The conditions stand in each statement. -/
import Derived.Test.YtlhiienanbpdlaaDoorMFnDeedTextx0
import Derived.Test.YtlhiienanbpdlaaDoorMFnDeedTextx1
import Derived.Test.YtlhiienanbpdlaaDoorMFnDeedTextx5
namespace Go.Proofs.YtlhiienanbpdlaaDoor.MFnDeedText
open Go.RowKit Go.Proofs.YtlhiienanbpdlaaDoorW.PrintWords Go.Proofs.YtlhiienanbpdlaaDoorW.PrintLast Go.Proofs.YtlhiienanbpdlaaDoorW.PrintMore
attribute [local go_sem] max2_int min2_int max_two min_two max_three min_three max_four min_four   -- for this text's walks alone
set_option linter.unusedVariables false
set_option linter.unusedSimpArgs false

attribute [local go_sem high] eqA30
/-! ### spec_l1Number: function 129 -/
def spec_l1Number.f : Nat → Int → Option (ByteArray)
 | 0, _ => none
 | k + 1, a0 => if a0 < 10 then (some (strOfNums (([(wrap64 (48 + (mx a0 0))) % 256] : List Int)))) else ((spec_l1Number.f k (wrap64 (Int.tdiv a0 10))).bind fun t316 => ((some (([(wrap64 (48 + (Int.tmod a0 10))) % 256] : List Int) : List Int)).bind fun y317 => (if t316.size + (strOfNums y317).size ≤ 9223372036854775807 then (some (t316 ++ (strOfNums y317))) else (none))))
theorem spec_l1Number.mono_l : ∀ k, (∀ y0, LeO (spec_l1Number.f k y0) (spec_l1Number.f (k + 1) y0))
 | 0 => fun _ r h => by simp [spec_l1Number.f] at h
 | k + 1 => by
  have ih0 := spec_l1Number.mono_l k
  ·
   intro y0
   unfold spec_l1Number.f
   repeat' first
   | (with_reducible exact ih0 _)
   | (with_reducible exact LeO.refl _)
   | (with_reducible exact LeO.none _)
   | (with_reducible refine LeO.ite ?_ ?_)
   | (with_reducible refine LeO.bind ?_ (fun _ => ?_))
   | exact ih0 _
   | exact LeO.none _
   | refine LeO.ite ?_ ?_
   | refine LeO.bind ?_ (fun _ => ?_)
theorem spec_l1Number.mono : ∀ a0 k, LeO (spec_l1Number.f k a0) (spec_l1Number.f (k + 1) a0) := by
 intro a0 k
 have ih0 := spec_l1Number.mono_l k
 exact ih0 a0
def spec_l1Number.T3 : Bool × List (List Nat × List Nat) := (true, [([], []), ([0], [0]), ([1], [1]), ([], []), ([3], [3]), ([4], [4]), ([5], [5]), ([6], [6]), ([7], [7]), ([2, 8], [2, 8]), ([9, 2, 0, 1, 2, 3, 4, 5, 6, 7, 8, 9], [9])])
def spec_l1Number.B3 : List Nat := [0, 1, 3, 0, 8, 24, 56, 120, 248, 511, 1023]
theorem spec_l1Number.tab3 : rtab .any (opsOf Tryd.f129 3) = spec_l1Number.T3 := by kernel_rfl
theorem spec_l1Number.bits3 : waitsOk spec_l1Number.T3.2 spec_l1Number.B3 = true := by kernel_rfl
set_option maxHeartbeats 8000000 in
set_option maxRecDepth 100000 in
theorem spec_l1Number.calls (k : Nat) : ∀ (a0 : Int) (r : ByteArray) (w : World) (h : spec_l1Number.f k a0 = some r),
  Calls Tryd.prog 129 #[.int .i64 a0] w fun e w' => e = .returned (.string r) ∧ Below w.heap.size w w' := by
 induction k using Nat.strongRecOn with
 | _ k ih =>
 intro a0 r w h
 cases k with
 | zero => exact absurd h (by simp [spec_l1Number.f])
 | succ k =>
 simp only [spec_l1Number.f] at h
 have HB := Aside0.mk (Below.refl w.heap.size w)
 have H : (if a0 < 10 then (some (strOfNums (([(wrap64 (48 + (mx a0 0))) % 256] : List Int)))) else ((spec_l1Number.f k (wrap64 (Int.tdiv a0 10))).bind fun t316 => ((some (([(wrap64 (48 + (Int.tmod a0 10))) % 256] : List Int) : List Int)).bind fun y317 => (if t316.size + (strOfNums y317).size ≤ 9223372036854775807 then (some (t316 ++ (strOfNums y317))) else (none))))) = some r := h
 clear h
 by_cases c2 : a0 < 10
 ·
  rw [if_pos c2] at H
  have c2b0 : decide (a0 < 10) = true := decide_eq_true c2
  clear c2
  obtain ⟨ji3, hji3⟩ : ∃ j_ : Int, (mx a0 0) = j_ := ⟨_, rfl⟩
  replace H : (some (strOfNums (([(wrap64 (48 + (ji3))) % 256] : List Int)))) = some r := by first | (rw [hji3] at H; exact H) | (simp only [hji3] at H ⊢; exact H)
  (try (have hji3l : 0 ≤ ji3 := by (rw [← hji3]; unfold mx; (repeat' split) <;> omega)))
  (try (have hji3m : 0 ≤ ji3 := by omega))
  have hji3_ : (if a0 < 0 then 0 else a0) = ji3 := hji3
  obtain ⟨y313, hy313⟩ : ∃ y_ : List Int, y_ = (([(wrap64 (48 + (ji3))) % 256] : List Int)) := ⟨_, rfl⟩
  replace H : (some (strOfNums y313)) = some r := by first | (rw [hy313]; with_reducible exact H) | (have H2_ := (Option.bind_some _ _).symm.trans H; rw [hy313]; with_reducible exact H2_) | (have H2_ := (Option.bind_some _ _).symm.trans H; with_reducible exact H2_) | with_reducible exact H | (rw [hy313]; exact H) | exact H
  have Ny313 := Aside0.mk hy313
  clear hy313
  obtain rfl := Option.some.inj H
  go_enter Tryd.func129, Tryd.ntmps129
  go_wp2_with (first | ((with_reducible refine gate_dst (N := 9) rfl ?_); refine Kd.R_lit (Kd.int .u8) _ 5 ?hg (N := 9) ?hd (xs := ([(wrap64 (48 + (ji3))) % 256] : List Int)) (inner := [.int .u8 ((wrap64 (48 + (ji3))) % 256)]) (ok := fun _ => True) (okp := fun _ => True) ?hr ?hp (fun _ hk => hk) trivial (Below.refl _ _) (Nat.le_refl _) (by simp) ?_; (case hd => rfl); (case hg => rfl); (case hr => first | (go_simp; done) | (go_simp; rfl)); (case hp => exact (Reps.one (show Kd.M (Kd.int .u8) _ _ _ ((wrap64 (48 + (ji3))) % 256) [.int .u8 ((wrap64 (48 + (ji3))) % 256)] from rfl) (Reps.none _ _))); intro v314 w4 ho5 hb hg_ hnew_; clear hg_ hnew_; (first | rw [← Ny313.out] at ho5 | (simp only [Int.reduceToNat] at ho5; rw [← Ny313.out] at ho5)); have n0_ := Aside0.mk (Kd.R_lower ho5 (below_size (tb_ HB.out))); have n1_ := Aside0.mk (below_step (tb_ HB.out) hb); clear HB; have HO315 := n0_; have HB := n1_; clear n0_ n1_ hb ho5; have hcv6 := own_string (P := Tryd.prog) Tryd.underlying22 Tryd.underlying5 Tryd.underlying9 (Kd.own_of_R HO315.out)))
  go_ret
  exact ⟨by first | rfl | (simp [errW_none, errW_some, Option.map_none, Option.map_some] <;> rfl) | (simp only [← hji3]; first | rfl | (simp [errW_none, errW_some, Option.map_none, Option.map_some] <;> rfl)) | (simp [*, errW_none, errW_some] <;> rfl), (tb_ HB.out)⟩
 ·
  rw [if_neg c2] at H
  have c2b0 : decide (a0 < 10) = false := decide_eq_false c2
  clear c2
  replace H := Option.bind_eq_some_iff.mp H
  obtain ⟨t316, A70, H⟩ := H
  replace H : ((some (([(wrap64 (48 + (Int.tmod a0 10))) % 256] : List Int) : List Int)).bind fun y317 => (if t316.size + (strOfNums y317).size ≤ 9223372036854775807 then (some (t316 ++ (strOfNums y317))) else (none))) = some r := H
  have A7 := Aside0.mk A70
  clear A70
  obtain ⟨y317, hy317⟩ : ∃ y_ : List Int, y_ = (([(wrap64 (48 + (Int.tmod a0 10))) % 256] : List Int)) := ⟨_, rfl⟩
  replace H : (if t316.size + (strOfNums y317).size ≤ 9223372036854775807 then (some (t316 ++ (strOfNums y317))) else (none)) = some r := by first | (rw [hy317]; with_reducible exact H) | (have H2_ := (Option.bind_some _ _).symm.trans H; rw [hy317]; with_reducible exact H2_) | (have H2_ := (Option.bind_some _ _).symm.trans H; with_reducible exact H2_) | with_reducible exact H | (rw [hy317]; exact H) | exact H
  have Ny317 := Aside0.mk hy317
  clear hy317
  by_cases c8 : t316.size + (strOfNums y317).size ≤ 9223372036854775807
  ·
   rw [if_pos c8] at H
   have c8b0 := eq_true c8
   have c8b1 : decide (t316.size + (strOfNums y317).size ≤ 9223372036854775807) = true := decide_eq_true c8
   try have c8b2 : (9223372036854775807 < t316.size + (strOfNums y317).size) = False := eq_false (Nat.not_lt.2 c8)
   obtain rfl := Option.some.inj H
   go_enter Tryd.func129, Tryd.ntmps129
   try go_wp2
   have n0_ := Aside0.mk (ld_ HB.out)
   clear HB
   have HB := n0_
   clear n0_
   refine start_ (n := 11) (S := fun w' => True) (ds := []) #[false, false, false, false, false, false, false, false, false, false, false] (by kernel_rfl) rfl rfl trivial (fun hHeld => ?_); refine with_tabW spec_l1Number.tab3 spec_l1Number.bits3 (fun HT_ HW_ => ?_)
   generalize w.drew = w9 at HB hHeld ⊢
   refine pure_ (i := 0) (N := some 11) (v := ?_) (a' := ?_) #[true, false, false, false, false, false, false, false, false, false, false] rfl rfl (any_of HT_.out (by kernel_rfl)) (fun _ _ _ h => h) (Or.inl ⟨by rfl, ?_⟩) ?_ ?_
   rotate_left
   ·
    intro w'
    go_simp
    first | with_reducible rfl | (rw [if_neg (by omega)]; done)
   rotate_left
   ·
    simp only [Act.put, sa_, sb_, sc_, i64_w, i32_w]
    rfl
   refine pure_ (i := 1) (N := some 12) (v := ?_) (a' := ?_) #[true, true, false, false, false, false, false, false, false, false, false] rfl rfl (any_of HT_.out (by kernel_rfl)) (fun _ _ _ h => h) (Or.inl ⟨by rfl, ?_⟩) ?_ ?_
   rotate_left
   ·
    intro w'
    go_simp
    first | with_reducible rfl | (rw [if_neg (by omega)]; done)
   rotate_left
   ·
    simp only [Act.put, sa_, sb_, sc_, i64_w, i32_w]
    rfl
   refine pure_ (i := 3) (N := some 14) (v := ?_) (a' := ?_) #[true, true, false, true, false, false, false, false, false, false, false] rfl rfl (any_of HT_.out (by kernel_rfl)) (fun _ _ _ h => h) (Or.inl ⟨by rfl, ?_⟩) ?_ ?_
   rotate_left
   ·
    intro w'
    go_simp
    first | with_reducible rfl | (rw [if_neg (by omega)]; done)
   rotate_left
   ·
    simp only [Act.put, sa_, sb_, sc_, i64_w, i32_w]
    rfl
   refine pure_ (i := 4) (N := some 15) (v := ?_) (a' := ?_) #[true, true, false, true, true, false, false, false, false, false, false] rfl rfl (any_of HT_.out (by kernel_rfl)) (fun _ _ _ h => h) (Or.inl ⟨by rfl, ?_⟩) ?_ ?_
   rotate_left
   ·
    intro w'
    go_simp
    first | with_reducible rfl | (rw [if_neg (by omega)]; done)
   rotate_left
   ·
    simp only [Act.put, sa_, sb_, sc_, i64_w, i32_w]
    rfl
   refine pure_ (i := 5) (N := some 16) (v := ?_) (a' := ?_) #[true, true, false, true, true, true, false, false, false, false, false] rfl rfl (any_of HT_.out (by kernel_rfl)) (fun _ _ _ h => h) (Or.inl ⟨by rfl, ?_⟩) ?_ ?_
   rotate_left
   ·
    intro w'
    go_simp
    first | with_reducible rfl | (rw [if_neg (by omega)]; done)
   rotate_left
   ·
    simp only [Act.put, sa_, sb_, sc_, i64_w, i32_w]
    rfl
   refine pure_ (i := 6) (N := some 17) (v := ?_) (a' := ?_) #[true, true, false, true, true, true, true, false, false, false, false] rfl rfl (any_of HT_.out (by kernel_rfl)) (fun _ _ _ h => h) (Or.inl ⟨by rfl, ?_⟩) ?_ ?_
   rotate_left
   ·
    intro w'
    go_simp
    first | with_reducible rfl | (rw [if_neg (by omega)]; done)
   rotate_left
   ·
    simp only [Act.put, sa_, sb_, sc_, i64_w, i32_w]
    rfl
   refine join_ (σ := Value) 2 #[true, true, true, true, true, true, true, true, true, false, false] (fun s_ => [(13, .string t316), (18, s_), (19, .string (strOfNums y317))]) (fun s_ w' => (Kd.R (Kd.int .u8) 5 w' w.heap.size (fun _ => True) s_ y317) ∧ (Below w.heap.size w w')) ?_ ?_
   rotate_left
   ·
    intro hCont
    refine two_ (i := 2) (j := 7) (Ni := some 13) (Nj := some 18) #[true, true, true, true, true, true, true, false, false, false, false] #[true, true, false, true, true, true, true, true, false, false, false] rfl rfl rfl rfl (two_of HT_.out (by kernel_rfl)) (by decide) (by decide) (fun K hK => ?_) (fun K hK => ?_)
    ·
     skip
     refine goes_ Tryd.func129 (by kernel_rfl) rfl #[.int .i64 (wrap64 (Int.tdiv a0 10))] (by rfl) rfl rfl tz_ ?_
     with_reducible refine (ih k (by omega) (wrap64 (Int.tdiv a0 10)) t316 _ A7.out).mono ?_
     rintro e w10 ⟨rfl, hb⟩
     refine ⟨_, rfl, ?_⟩
     have n0_ := Aside0.mk (below_step (tb_ HB.out) hb)
     clear HB
     have HB := n0_
     clear n0_
     (try clear hb)
     (try clear hb2)
     (try clear hk)
     (try clear hi)
     refine hK.out _ _ trivial (fun hHeld => ?_)
     clear hK K
     refine norm_ (a' := ?_) ?_ ?_
     rotate_left
     ·
      show Act.put _ (some 13) _ = _
      simp only [Act.put, sa_, sb_, sc_, i64_w, i32_w]
      rfl
     refine one_ (i := 7) (N := some 18) #[true, true, true, true, true, true, true, true, false, false, false] rfl rfl (one_of HT_.out (by kernel_rfl)) (by decide) (fun K hK => ?_)
     refine Kd.R_lit_step (Kd.int .u8) _ 5 ?hg (N := 18) ?hd (xs := ([(wrap64 (48 + (Int.tmod a0 10))) % 256] : List Int)) (inner := [.int .u8 ((wrap64 (48 + (Int.tmod a0 10))) % 256)]) (ok := fun _ => True) (okp := fun _ => True) ?hr ?hp (fun _ hk => hk) trivial (Below.refl _ _) (Nat.le_refl _) (by simp) ?_; (case hd => rfl); (case hg => rfl); (case hr => first | (go_simp; done) | (go_simp; rfl)); (case hp => exact (Reps.one (show Kd.M (Kd.int .u8) _ _ _ ((wrap64 (48 + (Int.tmod a0 10))) % 256) [.int .u8 ((wrap64 (48 + (Int.tmod a0 10))) % 256)] from rfl) (Reps.none _ _)))
     intro v318 w11 ho12 hb hg_ hnew_
     clear hg_ hnew_
     (first | rw [← Ny317.out] at ho12 | (simp only [Int.reduceToNat] at ho12; rw [← Ny317.out] at ho12))
     have n0_ := Aside0.mk (Kd.R_lower ho12 (below_size (tb_ HB.out)))
     have n1_ := Aside0.mk (below_step (tb_ HB.out) hb)
     clear HB
     have HO319 := n0_
     have HB := n1_
     clear n0_ n1_
     clear hb ho12
     refine hK.out _ _ trivial (fun hHeld => ?_)
     clear hK K
     refine norm_ (a' := ?_) ?_ ?_
     rotate_left
     ·
      show Act.put _ (some 18) _ = _
      simp only [Act.put, sa_, sb_, sc_, i64_w, i32_w]
      rfl
     refine one_ (i := 8) (N := some 19) #[true, true, true, true, true, true, true, true, true, false, false] rfl rfl (one_of HT_.out (by kernel_rfl)) (by decide) (fun K hK => ?_)
     have hcv13 := own_string (P := Tryd.prog) Tryd.underlying22 Tryd.underlying5 Tryd.underlying9 (Kd.own_of_R HO319.out)
     refine value_ (w1 := ?_) (v := ?_) (by rfl) rfl ?_ ?_
     rotate_left 2
     ·
      go_simp
      constructor
      ·
       rfl
      ·
       rfl
     clear hcv13
     refine hK.out _ _ trivial (fun hHeld => ?_)
     clear hK K
     refine norm_ (a' := ?_) ?_ ?_
     rotate_left
     ·
      show Act.put _ (some 19) _ = _
      simp only [Act.put, sa_, sb_, sc_, i64_w, i32_w]
      rfl
     exact norm_ (by simp only [putAll, Act.put, sa_, sb_, sc_]) (hCont (v318) _ ⟨(rR_ HO319.out), (tb_ HB.out)⟩)
    ·
     skip
     refine Kd.R_lit_step (Kd.int .u8) _ 5 ?hg (N := 18) ?hd (xs := ([(wrap64 (48 + (Int.tmod a0 10))) % 256] : List Int)) (inner := [.int .u8 ((wrap64 (48 + (Int.tmod a0 10))) % 256)]) (ok := fun _ => True) (okp := fun _ => True) ?hr ?hp (fun _ hk => hk) trivial (Below.refl _ _) (Nat.le_refl _) (by simp) ?_; (case hd => rfl); (case hg => rfl); (case hr => first | (go_simp; done) | (go_simp; rfl)); (case hp => exact (Reps.one (show Kd.M (Kd.int .u8) _ _ _ ((wrap64 (48 + (Int.tmod a0 10))) % 256) [.int .u8 ((wrap64 (48 + (Int.tmod a0 10))) % 256)] from rfl) (Reps.none _ _)))
     intro v318 w10 ho11 hb hg_ hnew_
     clear hg_ hnew_
     (first | rw [← Ny317.out] at ho11 | (simp only [Int.reduceToNat] at ho11; rw [← Ny317.out] at ho11))
     have n0_ := Aside0.mk (Kd.R_lower ho11 (below_size (tb_ HB.out)))
     have n1_ := Aside0.mk (below_step (tb_ HB.out) hb)
     clear HB
     have HO319 := n0_
     have HB := n1_
     clear n0_ n1_
     clear hb ho11
     refine hK.out _ _ trivial (fun hHeld => ?_)
     clear hK K
     refine norm_ (a' := ?_) ?_ ?_
     rotate_left
     ·
      show Act.put _ (some 18) _ = _
      simp only [Act.put, sa_, sb_, sc_, i64_w, i32_w]
      rfl
     refine two_ (i := 2) (j := 8) (Ni := some 13) (Nj := some 19) #[true, true, true, true, true, true, true, true, false, false, false] #[true, true, false, true, true, true, true, true, true, false, false] rfl rfl rfl rfl (two_of HT_.out (by kernel_rfl)) (by decide) (by decide) (fun K hK => ?_) (fun K hK => ?_)
     ·
      skip
      refine goes_ Tryd.func129 (by kernel_rfl) rfl #[.int .i64 (wrap64 (Int.tdiv a0 10))] (by rfl) rfl rfl tz_ ?_
      with_reducible refine (ih k (by omega) (wrap64 (Int.tdiv a0 10)) t316 _ A7.out).mono ?_
      rintro e w12 ⟨rfl, hb⟩
      refine ⟨_, rfl, ?_⟩
      have n0_ := Aside0.mk (Kd.R_below (rR_ HO319.out) hb)
      have n1_ := Aside0.mk (below_step (tb_ HB.out) hb)
      clear HO319
      clear HB
      have HO319 := n0_
      have HB := n1_
      clear n0_ n1_
      (try clear hb)
      (try clear hb2)
      (try clear hk)
      (try clear hi)
      refine hK.out _ _ trivial (fun hHeld => ?_)
      clear hK K
      refine norm_ (a' := ?_) ?_ ?_
      rotate_left
      ·
       show Act.put _ (some 13) _ = _
       simp only [Act.put, sa_, sb_, sc_, i64_w, i32_w]
       rfl
      refine one_ (i := 8) (N := some 19) #[true, true, true, true, true, true, true, true, true, false, false] rfl rfl (one_of HT_.out (by kernel_rfl)) (by decide) (fun K hK => ?_)
      have hcv13 := own_string (P := Tryd.prog) Tryd.underlying22 Tryd.underlying5 Tryd.underlying9 (Kd.own_of_R HO319.out)
      refine value_ (w1 := ?_) (v := ?_) (by rfl) rfl ?_ ?_
      rotate_left 2
      ·
       go_simp
       constructor
       ·
        rfl
       ·
        rfl
      clear hcv13
      refine hK.out _ _ trivial (fun hHeld => ?_)
      clear hK K
      refine norm_ (a' := ?_) ?_ ?_
      rotate_left
      ·
       show Act.put _ (some 19) _ = _
       simp only [Act.put, sa_, sb_, sc_, i64_w, i32_w]
       rfl
      exact norm_ (by simp only [putAll, Act.put, sa_, sb_, sc_]) (hCont (v318) _ ⟨(rR_ HO319.out), (tb_ HB.out)⟩)
     ·
      skip
      have hcv12 := own_string (P := Tryd.prog) Tryd.underlying22 Tryd.underlying5 Tryd.underlying9 (Kd.own_of_R HO319.out)
      refine value_ (w1 := ?_) (v := ?_) (by rfl) rfl ?_ ?_
      rotate_left 2
      ·
       go_simp
       constructor
       ·
        rfl
       ·
        rfl
      clear hcv12
      refine hK.out _ _ trivial (fun hHeld => ?_)
      clear hK K
      refine norm_ (a' := ?_) ?_ ?_
      rotate_left
      ·
       show Act.put _ (some 19) _ = _
       simp only [Act.put, sa_, sb_, sc_, i64_w, i32_w]
       rfl
      refine one_ (i := 2) (N := some 13) #[true, true, true, true, true, true, true, true, true, false, false] rfl rfl (one_of HT_.out (by kernel_rfl)) (by decide) (fun K hK => ?_)
      refine goes_ Tryd.func129 (by kernel_rfl) rfl #[.int .i64 (wrap64 (Int.tdiv a0 10))] (by rfl) rfl rfl tz_ ?_
      with_reducible refine (ih k (by omega) (wrap64 (Int.tdiv a0 10)) t316 _ A7.out).mono ?_
      rintro e w13 ⟨rfl, hb⟩
      refine ⟨_, rfl, ?_⟩
      have n0_ := Aside0.mk (Kd.R_below (rR_ HO319.out) hb)
      have n1_ := Aside0.mk (below_step (tb_ HB.out) hb)
      clear HO319
      clear HB
      have HO319 := n0_
      have HB := n1_
      clear n0_ n1_
      (try clear hb)
      (try clear hb2)
      (try clear hk)
      (try clear hi)
      refine hK.out _ _ trivial (fun hHeld => ?_)
      clear hK K
      refine norm_ (a' := ?_) ?_ ?_
      rotate_left
      ·
       show Act.put _ (some 13) _ = _
       simp only [Act.put, sa_, sb_, sc_, i64_w, i32_w]
       rfl
      exact norm_ (by simp only [putAll, Act.put, sa_, sb_, sc_]) (hCont (v318) _ ⟨(rR_ HO319.out), (tb_ HB.out)⟩)
   rintro v318 w14 ⟨h0_, h1_⟩
   have n0_ : Aside0 (Kd.R (Kd.int .u8) 5 w14 w.heap.size (fun _ => True) v318 y317) := ⟨h0_⟩
   have n1_ : Aside0 (Below w.heap.size w w14) := ⟨h1_⟩
   clear HB
   clear h0_ h1_
   have HO319 := n0_
   have HB := n1_
   clear n0_ n1_
   have hHeld := trivial
   refine norm_ (a' := ?_) ?_ ?_
   rotate_left
   ·
    simp only [putAll, Act.put, sa_, sb_, sc_]
    rfl
   refine pure_ (i := 9) (N := some 20) (v := ?_) (a' := ?_) #[true, true, true, true, true, true, true, true, true, true, false] rfl rfl (any_of HT_.out (by kernel_rfl)) (fun _ _ _ h => h) (Or.inl ⟨by rfl, ?_⟩) ?_ ?_
   rotate_left
   ·
    intro w'
    go_simp
    first | with_reducible rfl | (rw [if_neg (by omega)]; done)
   rotate_left
   ·
    simp only [Act.put, sa_, sb_, sc_, i64_w, i32_w]
    rfl
   refine pure_ (i := 10) (N := some 2) (v := ?_) (a' := ?_) #[true, true, true, true, true, true, true, true, true, true, true] rfl rfl (any_of HT_.out (by kernel_rfl)) (fun _ _ _ h => h) (Or.inl ⟨by rfl, ?_⟩) ?_ ?_
   rotate_left
   ·
    intro w'
    go_simp
    first | with_reducible rfl | (rw [if_neg (by omega)]; done)
   rotate_left
   ·
    simp only [Act.put, sa_, sb_, sc_, i64_w, i32_w]
    rfl
   refine done_ (done_of HT_.out (by kernel_rfl)) ?_
   try go_wp2
   go_ret
   exact ⟨by first | rfl | (simp [errW_none, errW_some, Option.map_none, Option.map_some] <;> rfl) | (simp [*, errW_none, errW_some] <;> rfl), (tb_ HB.out)⟩
  ·
   rw [if_neg c8] at H
   exact absurd H (by simp)

/-! ### spec_l15Step: function 100 -/
def spec_l15Step.f (k : Nat) (a0 : Int) : Option (ByteArray) := if a0 < 0 then ((spec_l1Number.f k (wrap64 (-a0))).bind fun t320 => (if 1 + t320.size ≤ 9223372036854775807 then (some ((⟨#[45]⟩ : ByteArray) ++ t320)) else (none))) else ((spec_l1Number.f k a0).bind fun t321 => (some t321))
theorem spec_l15Step.mono : ∀ a0 k, LeO (spec_l15Step.f k a0) (spec_l15Step.f (k + 1) a0) := by
 intro a0 k
 unfold spec_l15Step.f
 repeat' first
   | (with_reducible exact spec_l1Number.mono _ _)
   | (with_reducible exact LeO.refl _)
   | (with_reducible exact LeO.none _)
   | (with_reducible refine LeO.ite ?_ ?_)
   | (with_reducible refine LeO.bind ?_ (fun _ => ?_))
   | exact spec_l1Number.mono _ _
   | exact LeO.none _
   | refine LeO.ite ?_ ?_
   | refine LeO.bind ?_ (fun _ => ?_)
set_option maxHeartbeats 8000000 in
set_option maxRecDepth 100000 in
theorem spec_l15Step.calls (k : Nat) (a0 : Int) (r : ByteArray) (w : World) (h : spec_l15Step.f k a0 = some r) :
  Calls Tryd.prog 100 #[.int .i64 a0] w fun e w' => e = .returned (.string r) ∧ Below w.heap.size w w' := by
 have HB := Aside0.mk (Below.refl w.heap.size w)
 have H : (if a0 < 0 then ((spec_l1Number.f k (wrap64 (-a0))).bind fun t320 => (if 1 + t320.size ≤ 9223372036854775807 then (some ((⟨#[45]⟩ : ByteArray) ++ t320)) else (none))) else ((spec_l1Number.f k a0).bind fun t321 => (some t321))) = some r := h
 clear h
 by_cases c2 : a0 < 0
 ·
  rw [if_pos c2] at H
  have c2b0 : decide (a0 < 0) = true := decide_eq_true c2
  clear c2
  replace H := Option.bind_eq_some_iff.mp H
  obtain ⟨t320, A30, H⟩ := H
  replace H : (if 1 + t320.size ≤ 9223372036854775807 then (some ((⟨#[45]⟩ : ByteArray) ++ t320)) else (none)) = some r := H
  have A3 := Aside0.mk A30
  clear A30
  by_cases c4 : 1 + t320.size ≤ 9223372036854775807
  ·
   rw [if_pos c4] at H
   have c4b0 := eq_true c4
   have c4b1 : decide (1 + t320.size ≤ 9223372036854775807) = true := decide_eq_true c4
   try have c4b2 : (9223372036854775807 < 1 + t320.size) = False := eq_false (Nat.not_lt.2 c4)
   obtain rfl := Option.some.inj H
   go_enter Tryd.func100, Tryd.ntmps100
   go_wp2_with (first | ((with_reducible refine gate_callee (f := 129) rfl ?_); refine goesL_ (some 7) rfl rfl Tryd.func129 (by kernel_rfl) rfl #[.int .i64 (wrap64 (-a0))] rfl tz_ ?_; (with_reducible refine (spec_l1Number.calls k (wrap64 (-a0)) t320 _ A3.out).mono ?_); rintro e w5 ⟨rfl, hb⟩; refine ⟨_, rfl, ?_⟩; have n0_ := Aside0.mk (below_step (tb_ HB.out) hb); clear HB; have HB := n0_; clear n0_; (try clear hb); (try clear hb2); (try clear hk); (try clear hi)))
   go_ret
   exact ⟨by first | rfl | (simp [errW_none, errW_some, Option.map_none, Option.map_some] <;> rfl) | (simp [*, errW_none, errW_some] <;> rfl), (tb_ HB.out)⟩
  ·
   rw [if_neg c4] at H
   exact absurd H (by simp)
 ·
  rw [if_neg c2] at H
  have c2b0 : decide (a0 < 0) = false := decide_eq_false c2
  clear c2
  replace H := Option.bind_eq_some_iff.mp H
  obtain ⟨t321, A60, H⟩ := H
  replace H : (some t321) = some r := H
  have A6 := Aside0.mk A60
  clear A60
  obtain rfl := Option.some.inj H
  go_enter Tryd.func100, Tryd.ntmps100
  go_wp2_with (first | ((with_reducible refine gate_callee (f := 129) rfl ?_); refine goesL_ (some 10) rfl rfl Tryd.func129 (by kernel_rfl) rfl #[.int .i64 a0] rfl tz_ ?_; (with_reducible refine (spec_l1Number.calls k a0 t321 _ A6.out).mono ?_); rintro e w7 ⟨rfl, hb⟩; refine ⟨_, rfl, ?_⟩; have n0_ := Aside0.mk (below_step (tb_ HB.out) hb); clear HB; have HB := n0_; clear n0_; (try clear hb); (try clear hb2); (try clear hk); (try clear hi)))
  go_ret
  exact ⟨by first | rfl | (simp [errW_none, errW_some, Option.map_none, Option.map_some] <;> rfl) | (simp [*, errW_none, errW_some] <;> rfl), (tb_ HB.out)⟩

/-! ### spec_DeedText: function 47 -/
def spec_DeedText.j0 : Nat → Bool → Int → Int → Int → Option (ByteArray)
 | 0, _, _, _, _ => none
 | k + 1, x12, x323000, x323001, x323002 => if x12 = true then (some (⟨#[]⟩ : ByteArray)) else (if (x323000 == 0) = true then ((spec_l15Step.f k x323001).bind fun t325 => (if 4 + t325.size ≤ 9223372036854775807 then (if ((⟨#[112, 117, 116, 32]⟩ : ByteArray) ++ t325).size + 1 ≤ 9223372036854775807 then ((spec_l15Step.f k x323002).bind fun t326 => (if (((⟨#[112, 117, 116, 32]⟩ : ByteArray) ++ t325) ++ (⟨#[32]⟩ : ByteArray)).size + t326.size ≤ 9223372036854775807 then (some ((((⟨#[112, 117, 116, 32]⟩ : ByteArray) ++ t325) ++ (⟨#[32]⟩ : ByteArray)) ++ t326)) else (none))) else (none)) else (none))) else (if (x323000 == 1 && (x323002 == 0)) = true then ((spec_l15Step.f k x323001).bind fun t327 => (if 5 + t327.size ≤ 9223372036854775807 then (some ((⟨#[115, 116, 101, 112, 32]⟩ : ByteArray) ++ t327)) else (none))) else (if (x323000 == 2 && (x323002 == 0)) = true then ((spec_l15Step.f k x323001).bind fun t328 => (if 5 + t328.size ≤ 9223372036854775807 then (some ((⟨#[100, 114, 97, 119, 32]⟩ : ByteArray) ++ t328)) else (none))) else (if (x323000 == 3 && (x323001 == 0 && (x323002 == 0))) = true then (some (⟨#[97, 103, 97, 105, 110]⟩ : ByteArray)) else (if (x323000 == 4 && (x323001 == 0 && (x323002 == 0))) = true then (some (⟨#[98, 97, 99, 107]⟩ : ByteArray)) else (some (⟨#[]⟩ : ByteArray)))))))
def spec_DeedText.f (k : Nat) (a0_0 : Int) (a0_1 : Int) (a0_2 : Int) : Option (ByteArray) := (spec_l1In.f a0_1 (-99) 99).bind fun t323 => (if t323 = true then ((spec_l1In.f a0_2 (-99) 99).bind fun t324 => (spec_DeedText.j0 k (!t324) a0_0 a0_1 a0_2)) else (spec_DeedText.j0 k true a0_0 a0_1 a0_2))
theorem spec_DeedText.mono_l : ∀ k, (∀ y0 y1 y2 y3, LeO (spec_DeedText.j0 k y0 y1 y2 y3) (spec_DeedText.j0 (k + 1) y0 y1 y2 y3))
 | 0 => fun _ _ _ _ r h => by simp [spec_DeedText.j0] at h
 | k + 1 => by
  have ih0 := spec_DeedText.mono_l k
  ·
   intro y0 y1 y2 y3
   unfold spec_DeedText.j0
   repeat' first
   | (with_reducible exact ih0 _ _ _ _)
   | (with_reducible exact spec_l15Step.mono _ _)
   | (with_reducible exact LeO.refl _)
   | (with_reducible exact LeO.none _)
   | (with_reducible refine LeO.ite ?_ ?_)
   | (with_reducible refine LeO.bind ?_ (fun _ => ?_))
   | exact ih0 _ _ _ _
   | exact spec_l15Step.mono _ _
   | exact LeO.none _
   | refine LeO.ite ?_ ?_
   | refine LeO.bind ?_ (fun _ => ?_)
theorem spec_DeedText.mono : ∀ a0 a1 a2 k, LeO (spec_DeedText.f k a0 a1 a2) (spec_DeedText.f (k + 1) a0 a1 a2) := by
 intro a0 a1 a2 k
 have ih0 := spec_DeedText.mono_l k
 unfold spec_DeedText.f
 repeat' first
   | (with_reducible exact ih0 _ _ _ _)
   | (with_reducible exact spec_l15Step.mono _ _)
   | (with_reducible exact LeO.refl _)
   | (with_reducible exact LeO.none _)
   | (with_reducible refine LeO.ite ?_ ?_)
   | (with_reducible refine LeO.bind ?_ (fun _ => ?_))
   | exact ih0 _ _ _ _
   | exact spec_l15Step.mono _ _
   | exact LeO.none _
   | refine LeO.ite ?_ ?_
   | refine LeO.bind ?_ (fun _ => ?_)
def spec_DeedText.T5 : Bool × List (List Nat × List Nat) := (true, [([], []), ([0], [0]), ([1], [1]), ([2], [2]), ([3], [3]), ([], []), ([5], [5]), ([6, 2], [6]), ([4, 7], [4, 7]), ([8, 7, 0, 1, 2, 3, 4, 5, 6, 7, 8], [8])])
def spec_DeedText.B5 : List Nat := [0, 1, 3, 7, 15, 0, 32, 103, 255, 511]
theorem spec_DeedText.tab5 : rtab .any (opsOf Tryd.f47 5) = spec_DeedText.T5 := by kernel_rfl
theorem spec_DeedText.bits5 : waitsOk spec_DeedText.T5.2 spec_DeedText.B5 = true := by kernel_rfl
set_option maxHeartbeats 8000000 in
set_option maxRecDepth 100000 in
theorem spec_DeedText.calls (k : Nat) (a0_0 : Int) (a0_1 : Int) (a0_2 : Int) (r : ByteArray) (w : World) (h : spec_DeedText.f k a0_0 a0_1 a0_2 = some r) :
  Calls Tryd.prog 47 #[.agg #[.int .i64 a0_0, .int .i64 a0_1, .int .i64 a0_2]] w fun e w' => e = .returned (.string r) ∧ Below w.heap.size w w' := by
 have hu30 := Tryd.underlying30
 have HB := Aside0.mk (Below.refl w.heap.size w)
 have H : ((spec_l1In.f a0_1 (-99) 99).bind fun t323 => (if t323 = true then ((spec_l1In.f a0_2 (-99) 99).bind fun t324 => (spec_DeedText.j0 k (!t324) a0_0 a0_1 a0_2)) else (spec_DeedText.j0 k true a0_0 a0_1 a0_2))) = some r := h
 clear h
 have HC2 := Aside0.mk H
 clear H
 go_enter Tryd.func47, Tryd.ntmps47
 go_upto_region 1 with (first | ((with_reducible refine gate_dst (N := 1) rfl ?_); refine box_event ?hg (N := 1) ?hd (cs := #[.int .i64 a0_0, .int .i64 a0_1, .int .i64 a0_2]) (t := 30) ?hr ?_; (case hd => rfl); (case hg => rfl); (case hr => first | (go_simp; done) | (go_simp; rfl)); intro gb322 hg w3 hbox hb; have n0_ := Aside0.mk (below_step (tb_ HB.out) hb); have n1_ := Aside0.mk (hbox); have n2_ := Aside0.mk ((by rw [hg]; exact (below_size (tb_ HB.out)) : w.heap.size ≤ gb322)); have n3_ := Aside0.mk ((by rw [hg]; exact (below_size (tb_ HB.out)) : w.heap.size ≤ gb322)); clear HB; have HB := n0_; have BK322 := n1_; have GW322 := n2_; have GE322 := n3_; clear n0_ n1_ n2_ n3_ hb hbox hg))
 (try simp only [Act.put, sa_, sb_, sc_])
 go_cut [12] (fun v12 wc => ∃ (kq : Nat) (x12_1 : Bool), v12 = .bool x12_1 ∧ Aside0 (spec_DeedText.j0 kq x12_1 a0_0 a0_1 a0_2 = some r) ∧ Aside0 (kq ≤ k) ∧ Aside0 (wc.heap[gb322]? = some (.cells #[.int .i64 a0_0, .int .i64 a0_1, .int .i64 a0_2] 30 (0, 0))) ∧ Aside0 (Below w.heap.size w wc))
 case first =>
  have H := HC2.out
  clear HC2
  replace H := Option.bind_eq_some_iff.mp H
  obtain ⟨t323, A40, H⟩ := H
  replace H : (if t323 = true then ((spec_l1In.f a0_2 (-99) 99).bind fun t324 => (spec_DeedText.j0 k (!t324) a0_0 a0_1 a0_2)) else (spec_DeedText.j0 k true a0_0 a0_1 a0_2)) = some r := H
  have A4 := Aside0.mk A40
  clear A40
  by_cases c5 : t323 = true
  ·
   subst c5
   have H1 : ((spec_l1In.f a0_2 (-99) 99).bind fun t324 => (spec_DeedText.j0 k (!t324) a0_0 a0_1 a0_2)) = some r := by rw [if_pos rfl] at H; exact H
   clear H
   have H := H1
   clear H1
   replace H := Option.bind_eq_some_iff.mp H
   obtain ⟨t324, A60, H⟩ := H
   replace H : (spec_DeedText.j0 k (!t324) a0_0 a0_1 a0_2) = some r := H
   have A6 := Aside0.mk A60
   clear A60
   have H' := Aside0.mk H
   clear H
   have hcz7_0 : w3.cell? ⟨gb322, 0, none⟩ = some (.int .i64 a0_0) := (blk_cell BK322.out 0).trans rfl
   have hcz7_1 : w3.cell? ⟨gb322, 1, none⟩ = some (.int .i64 a0_1) := (blk_cell BK322.out 1).trans rfl
   have hcz7_2 : w3.cell? ⟨gb322, 2, none⟩ = some (.int .i64 a0_2) := (blk_cell BK322.out 2).trans rfl
   have hfz7_0 := blk_frozen BK322.out 0
   have hfz7_1 := blk_frozen BK322.out 1
   have hfz7_2 := blk_frozen BK322.out 2
   go_wp2_with (first | ((with_reducible refine gate_callee (f := 99) rfl ?_); refine goesL_ (some 5) rfl rfl Tryd.func99 (by kernel_rfl) rfl #[.int .i64 a0_1, .int .i64 (-99), .int .i64 99] rfl tz_ ?_; (with_reducible refine (spec_l1In.calls a0_1 (-99) 99 true _ A4.out).mono ?_); rintro e w' ⟨rfl, ⟨nd, rfl⟩⟩; refine ⟨_, rfl, ?_⟩) | (go_at_call 99; (with_reducible refine (spec_l1In.calls a0_2 (-99) 99 t324 _ A6.out).mono ?_); rintro e w' ⟨rfl, ⟨nd, rfl⟩⟩))
   go_meet
   case rel => exact ⟨_, (!t324), tx_, H', ⟨by first | omega | exact Nat.le_refl _⟩, ⟨tk_ BK322.out⟩, ⟨(tb_ HB.out)⟩⟩
  ·
   replace c5 := Bool.eq_false_iff.mpr c5
   subst c5
   have H1 : (spec_DeedText.j0 k true a0_0 a0_1 a0_2) = some r := by rw [if_neg (show ¬ (false = true) by decide)] at H; exact H
   clear H
   have H := H1
   clear H1
   have H' := Aside0.mk H
   clear H
   have hcz8_0 : w3.cell? ⟨gb322, 0, none⟩ = some (.int .i64 a0_0) := (blk_cell BK322.out 0).trans rfl
   have hcz8_1 : w3.cell? ⟨gb322, 1, none⟩ = some (.int .i64 a0_1) := (blk_cell BK322.out 1).trans rfl
   have hcz8_2 : w3.cell? ⟨gb322, 2, none⟩ = some (.int .i64 a0_2) := (blk_cell BK322.out 2).trans rfl
   have hfz8_0 := blk_frozen BK322.out 0
   have hfz8_1 := blk_frozen BK322.out 1
   have hfz8_2 := blk_frozen BK322.out 2
   go_wp2_with (first | ((with_reducible refine gate_callee (f := 99) rfl ?_); refine goesL_ (some 5) rfl rfl Tryd.func99 (by kernel_rfl) rfl #[.int .i64 a0_1, .int .i64 (-99), .int .i64 99] rfl tz_ ?_; (with_reducible refine (spec_l1In.calls a0_1 (-99) 99 false _ A4.out).mono ?_); rintro e w' ⟨rfl, ⟨nd, rfl⟩⟩; refine ⟨_, rfl, ?_⟩))
   go_meet
   case rel => exact ⟨_, (true), tx_, H', ⟨by first | omega | exact Nat.le_refl _⟩, ⟨tk_ BK322.out⟩, ⟨(tb_ HB.out)⟩⟩
 case rest =>
  clear HC2
  try clear p2
  try clear c4
  try clear c5
  try clear hcz7_0
  try clear hcz7_1
  try clear hcz7_2
  try clear hcz8_0
  try clear hcz8_1
  try clear hcz8_2
  try clear hfz7_0
  try clear hfz7_1
  try clear hfz7_2
  try clear hfz8_0
  try clear hfz8_1
  try clear hfz8_2
  obtain ⟨kq, x12_1, rfl, HA, HJ1, BK322, HB⟩ := hcut
  cases kq with
  | zero => exact absurd HA.out (by simp [spec_DeedText.j0])
  | succ kj1 =>
   have H := HA.out
   clear HA
   simp only [spec_DeedText.j0] at H
   by_cases c9 : x12_1 = true
   ·
    subst c9
    have H1 : (some (⟨#[]⟩ : ByteArray)) = some r := by rw [if_pos rfl] at H; exact H
    clear H
    have H := H1
    clear H1
    obtain rfl := Option.some.inj H
    go_wp2
    go_ret
    exact ⟨by first | rfl | (simp [errW_none, errW_some, Option.map_none, Option.map_some] <;> rfl) | (simp [*, errW_none, errW_some] <;> rfl), (tb_ HB.out)⟩
   ·
    replace c9 := Bool.eq_false_iff.mpr c9
    subst c9
    have H1 : (if (a0_0 == 0) = true then ((spec_l15Step.f kj1 a0_1).bind fun t325 => (if 4 + t325.size ≤ 9223372036854775807 then (if ((⟨#[112, 117, 116, 32]⟩ : ByteArray) ++ t325).size + 1 ≤ 9223372036854775807 then ((spec_l15Step.f kj1 a0_2).bind fun t326 => (if (((⟨#[112, 117, 116, 32]⟩ : ByteArray) ++ t325) ++ (⟨#[32]⟩ : ByteArray)).size + t326.size ≤ 9223372036854775807 then (some ((((⟨#[112, 117, 116, 32]⟩ : ByteArray) ++ t325) ++ (⟨#[32]⟩ : ByteArray)) ++ t326)) else (none))) else (none)) else (none))) else (if (a0_0 == 1 && (a0_2 == 0)) = true then ((spec_l15Step.f kj1 a0_1).bind fun t327 => (if 5 + t327.size ≤ 9223372036854775807 then (some ((⟨#[115, 116, 101, 112, 32]⟩ : ByteArray) ++ t327)) else (none))) else (if (a0_0 == 2 && (a0_2 == 0)) = true then ((spec_l15Step.f kj1 a0_1).bind fun t328 => (if 5 + t328.size ≤ 9223372036854775807 then (some ((⟨#[100, 114, 97, 119, 32]⟩ : ByteArray) ++ t328)) else (none))) else (if (a0_0 == 3 && (a0_1 == 0 && (a0_2 == 0))) = true then (some (⟨#[97, 103, 97, 105, 110]⟩ : ByteArray)) else (if (a0_0 == 4 && (a0_1 == 0 && (a0_2 == 0))) = true then (some (⟨#[98, 97, 99, 107]⟩ : ByteArray)) else (some (⟨#[]⟩ : ByteArray))))))) = some r := by rw [if_neg (show ¬ (false = true) by decide)] at H; exact H
    clear H
    have H := H1
    clear H1
    by_cases c10 : (a0_0 == 0) = true
    ·
     rw [if_pos c10] at H
     have c10b0 : (a0_0 == 0) = true := c10
     (try (have c10b1 : decide (a0_0 = 0) = true := by simpa using c10))
     (try (have c10b2 : (a0_0 == 0) = true := by simpa using c10))
     clear c10
     replace H := Option.bind_eq_some_iff.mp H
     obtain ⟨t325, A110, H⟩ := H
     replace H : (if 4 + t325.size ≤ 9223372036854775807 then (if ((⟨#[112, 117, 116, 32]⟩ : ByteArray) ++ t325).size + 1 ≤ 9223372036854775807 then ((spec_l15Step.f kj1 a0_2).bind fun t326 => (if (((⟨#[112, 117, 116, 32]⟩ : ByteArray) ++ t325) ++ (⟨#[32]⟩ : ByteArray)).size + t326.size ≤ 9223372036854775807 then (some ((((⟨#[112, 117, 116, 32]⟩ : ByteArray) ++ t325) ++ (⟨#[32]⟩ : ByteArray)) ++ t326)) else (none))) else (none)) else (none)) = some r := H
     have A11 := Aside0.mk A110
     clear A110
     by_cases c12 : 4 + t325.size ≤ 9223372036854775807
     ·
      rw [if_pos c12] at H
      have c12b0 := eq_true c12
      have c12b1 : decide (4 + t325.size ≤ 9223372036854775807) = true := decide_eq_true c12
      try have c12b2 : (9223372036854775807 < 4 + t325.size) = False := eq_false (Nat.not_lt.2 c12)
      by_cases c13 : ((⟨#[112, 117, 116, 32]⟩ : ByteArray) ++ t325).size + 1 ≤ 9223372036854775807
      ·
       rw [if_pos c13] at H
       have c13b0 := eq_true c13
       have c13b1 : decide (((⟨#[112, 117, 116, 32]⟩ : ByteArray) ++ t325).size + 1 ≤ 9223372036854775807) = true := decide_eq_true c13
       try have c13b2 : (9223372036854775807 < ((⟨#[112, 117, 116, 32]⟩ : ByteArray) ++ t325).size + 1) = False := eq_false (Nat.not_lt.2 c13)
       try have c13b3 : (9223372036854775807 < 4 + t325.size + 1) = False := eq_false (by have h := c13; simp only [ByteArray.size_append] at h; simp only [ByteArray.size] at h ⊢; simp at h ⊢; omega)
       replace H := Option.bind_eq_some_iff.mp H
       obtain ⟨t326, A140, H⟩ := H
       replace H : (if (((⟨#[112, 117, 116, 32]⟩ : ByteArray) ++ t325) ++ (⟨#[32]⟩ : ByteArray)).size + t326.size ≤ 9223372036854775807 then (some ((((⟨#[112, 117, 116, 32]⟩ : ByteArray) ++ t325) ++ (⟨#[32]⟩ : ByteArray)) ++ t326)) else (none)) = some r := H
       have A14 := Aside0.mk A140
       clear A140
       by_cases c15 : (((⟨#[112, 117, 116, 32]⟩ : ByteArray) ++ t325) ++ (⟨#[32]⟩ : ByteArray)).size + t326.size ≤ 9223372036854775807
       ·
        rw [if_pos c15] at H
        have c15b0 := eq_true c15
        have c15b1 : decide ((((⟨#[112, 117, 116, 32]⟩ : ByteArray) ++ t325) ++ (⟨#[32]⟩ : ByteArray)).size + t326.size ≤ 9223372036854775807) = true := decide_eq_true c15
        try have c15b2 : (9223372036854775807 < (((⟨#[112, 117, 116, 32]⟩ : ByteArray) ++ t325) ++ (⟨#[32]⟩ : ByteArray)).size + t326.size) = False := eq_false (Nat.not_lt.2 c15)
        try have c15b3 : (9223372036854775807 < 4 + t325.size + 1 + t326.size) = False := eq_false (by have h := c15; simp only [ByteArray.size_append] at h; simp only [ByteArray.size] at h ⊢; simp at h ⊢; omega)
        obtain rfl := Option.some.inj H
        have hcz16_0 : wc.cell? ⟨gb322, 0, none⟩ = some (.int .i64 a0_0) := (blk_cell BK322.out 0).trans rfl
        have hcz16_1 : wc.cell? ⟨gb322, 1, none⟩ = some (.int .i64 a0_1) := (blk_cell BK322.out 1).trans rfl
        have hcz16_2 : wc.cell? ⟨gb322, 2, none⟩ = some (.int .i64 a0_2) := (blk_cell BK322.out 2).trans rfl
        have hfz16_0 := blk_frozen BK322.out 0
        have hfz16_1 := blk_frozen BK322.out 1
        have hfz16_2 := blk_frozen BK322.out 2
        try go_wp2
        have n0_ := Aside0.mk (blk_drew BK322.out)
        have n1_ := Aside0.mk (ld_ HB.out)
        clear BK322
        clear HB
        have BK322 := n0_
        have HB := n1_
        clear n0_ n1_
        refine start_ (n := 10) (S := fun w' => w'.cell? ⟨gb322, 0, none⟩ = some (.int .i64 a0_0) ∧ w'.cell? ⟨gb322, 1, none⟩ = some (.int .i64 a0_1) ∧ w'.cell? ⟨gb322, 2, none⟩ = some (.int .i64 a0_2)) (ds := []) #[false, false, false, false, false, false, false, false, false, false] (by kernel_rfl) rfl rfl ⟨(blk_cell BK322.out 0).trans rfl, (blk_cell BK322.out 1).trans rfl, (blk_cell BK322.out 2).trans rfl⟩ (fun hHeld => ?_); refine with_tabW spec_DeedText.tab5 spec_DeedText.bits5 (fun HT_ HW_ => ?_)
        generalize wc.drew = w17 at BK322 HB hHeld ⊢
        refine pure_ (i := 0) (N := some 21) (v := ?_) (a' := ?_) #[true, false, false, false, false, false, false, false, false, false] rfl rfl (any_of HT_.out (by kernel_rfl)) (fun _ _ _ h => h) (Or.inl ⟨by rfl, ?_⟩) ?_ ?_
        rotate_left
        ·
         intro w'
         go_simp
         first | with_reducible rfl | (rw [if_neg (by omega)]; done)
        rotate_left
        ·
         simp only [Act.put, sa_, sb_, sc_, i64_w, i32_w]
         rfl
        refine pure_ (i := 5) (N := some 26) (v := ?_) (a' := ?_) #[true, false, false, false, false, true, false, false, false, false] rfl rfl (any_of HT_.out (by kernel_rfl)) (fun _ _ _ h => h) (Or.inl ⟨by rfl, ?_⟩) ?_ ?_
        rotate_left
        ·
         intro w'
         go_simp
         first | with_reducible rfl | (rw [if_neg (by omega)]; done)
        rotate_left
        ·
         simp only [Act.put, sa_, sb_, sc_, i64_w, i32_w]
         rfl
        refine take_ (i := 1) (N := some 22) (v := ?_) (a' := ?_) #[true, true, false, false, false, true, false, false, false, false] rfl rfl (take_ofW HT_.out HW_.out (by kernel_rfl)) (fun _ _ _ h => h) (Or.inl ⟨by rfl, ?_⟩) hHeld ?_ ?_
        rotate_left
        ·
         rintro w' ⟨s0, s1, s2⟩
         go_simp
         first | with_reducible rfl | (rw [if_neg (by omega)]; done)
        rotate_left
        ·
         simp only [Act.put, sa_, sb_, sc_, i64_w, i32_w]
         rfl
        refine take_ (i := 6) (N := some 27) (v := ?_) (a' := ?_) #[true, true, false, false, false, true, true, false, false, false] rfl rfl (take_ofW HT_.out HW_.out (by kernel_rfl)) (fun _ _ _ h => h) (Or.inl ⟨by rfl, ?_⟩) hHeld ?_ ?_
        rotate_left
        ·
         rintro w' ⟨s0, s1, s2⟩
         go_simp
         first | with_reducible rfl | (rw [if_neg (by omega)]; done)
        rotate_left
        ·
         simp only [Act.put, sa_, sb_, sc_, i64_w, i32_w]
         rfl
        refine one_ (i := 2) (N := some 23) #[true, true, true, false, false, true, true, false, false, false] rfl rfl (one_of HT_.out (by kernel_rfl)) (by decide) (fun K hK => ?_)
        refine goes_ Tryd.func100 (by kernel_rfl) rfl #[.int .i64 a0_1] (by rfl) rfl rfl tz_ ?_
        with_reducible refine (spec_l15Step.calls kj1 a0_1 t325 _ A11.out).mono ?_
        rintro e w18 ⟨rfl, hb⟩
        refine ⟨_, rfl, ?_⟩
        have n0_ := Aside0.mk (blk_below (g := gb322) (o := .cells #[.int .i64 a0_0, .int .i64 a0_1, .int .i64 a0_2] 30 (0, 0)) (tk_ BK322.out) hb)
        have n1_ := Aside0.mk (below_step (tb_ HB.out) hb)
        clear BK322
        clear HB
        have BK322 := n0_
        have HB := n1_
        clear n0_ n1_
        (try clear hb)
        (try clear hb2)
        (try clear hk)
        (try clear hi)
        refine hK.out _ _ ⟨(blk_cell BK322.out 0).trans rfl, (blk_cell BK322.out 1).trans rfl, (blk_cell BK322.out 2).trans rfl⟩ (fun hHeld => ?_)
        clear hK K
        refine norm_ (a' := ?_) ?_ ?_
        rotate_left
        ·
         show Act.put _ (some 23) _ = _
         simp only [Act.put, sa_, sb_, sc_, i64_w, i32_w]
         rfl
        refine pure_ (i := 3) (N := some 24) (v := ?_) (a' := ?_) #[true, true, true, true, false, true, true, false, false, false] rfl rfl (any_of HT_.out (by kernel_rfl)) (fun _ _ _ h => h) (Or.inl ⟨by rfl, ?_⟩) ?_ ?_
        rotate_left
        ·
         intro w'
         go_simp
         first | with_reducible rfl | (rw [if_neg (by omega)]; done)
        rotate_left
        ·
         simp only [Act.put, sa_, sb_, sc_, i64_w, i32_w]
         rfl
        refine pure_ (i := 4) (N := some 25) (v := ?_) (a' := ?_) #[true, true, true, true, true, true, true, false, false, false] rfl rfl (any_of HT_.out (by kernel_rfl)) (fun _ _ _ h => h) (Or.inl ⟨by rfl, ?_⟩) ?_ ?_
        rotate_left
        ·
         intro w'
         go_simp
         first | with_reducible rfl | (rw [if_neg (by omega)]; done)
        rotate_left
        ·
         simp only [Act.put, sa_, sb_, sc_, i64_w, i32_w]
         rfl
        refine one_ (i := 7) (N := some 28) #[true, true, true, true, true, true, true, true, false, false] rfl rfl (one_of HT_.out (by kernel_rfl)) (by decide) (fun K hK => ?_)
        refine goes_ Tryd.func100 (by kernel_rfl) rfl #[.int .i64 a0_2] (by rfl) rfl rfl tz_ ?_
        with_reducible refine (spec_l15Step.calls kj1 a0_2 t326 _ A14.out).mono ?_
        rintro e w19 ⟨rfl, hb⟩
        refine ⟨_, rfl, ?_⟩
        have n0_ := Aside0.mk (blk_below (g := gb322) (o := .cells #[.int .i64 a0_0, .int .i64 a0_1, .int .i64 a0_2] 30 (0, 0)) (tk_ BK322.out) hb)
        have n1_ := Aside0.mk (below_step (tb_ HB.out) hb)
        clear BK322
        clear HB
        have BK322 := n0_
        have HB := n1_
        clear n0_ n1_
        (try clear hb)
        (try clear hb2)
        (try clear hk)
        (try clear hi)
        refine hK.out _ _ ⟨(blk_cell BK322.out 0).trans rfl, (blk_cell BK322.out 1).trans rfl, (blk_cell BK322.out 2).trans rfl⟩ (fun hHeld => ?_)
        clear hK K
        refine norm_ (a' := ?_) ?_ ?_
        rotate_left
        ·
         show Act.put _ (some 28) _ = _
         simp only [Act.put, sa_, sb_, sc_, i64_w, i32_w]
         rfl
        refine pure_ (i := 8) (N := some 29) (v := ?_) (a' := ?_) #[true, true, true, true, true, true, true, true, true, false] rfl rfl (any_of HT_.out (by kernel_rfl)) (fun _ _ _ h => h) (Or.inl ⟨by rfl, ?_⟩) ?_ ?_
        rotate_left
        ·
         intro w'
         go_simp
         first | with_reducible rfl | (rw [if_neg (by omega)]; done)
        rotate_left
        ·
         simp only [Act.put, sa_, sb_, sc_, i64_w, i32_w]
         rfl
        refine pure_ (i := 9) (N := some 2) (v := ?_) (a' := ?_) #[true, true, true, true, true, true, true, true, true, true] rfl rfl (any_of HT_.out (by kernel_rfl)) (fun _ _ _ h => h) (Or.inl ⟨by rfl, ?_⟩) ?_ ?_
        rotate_left
        ·
         intro w'
         go_simp
         first | with_reducible rfl | (rw [if_neg (by omega)]; done)
        rotate_left
        ·
         simp only [Act.put, sa_, sb_, sc_, i64_w, i32_w]
         rfl
        refine done_ (done_of HT_.out (by kernel_rfl)) ?_
        try go_wp2
        go_ret
        exact ⟨by first | rfl | (simp [errW_none, errW_some, Option.map_none, Option.map_some] <;> rfl) | (simp [*, errW_none, errW_some] <;> rfl), (tb_ HB.out)⟩
       ·
        rw [if_neg c15] at H
        exact absurd H (by simp)
      ·
       rw [if_neg c13] at H
       exact absurd H (by simp)
     ·
      rw [if_neg c12] at H
      exact absurd H (by simp)
    ·
     rw [if_neg c10] at H
     have c10b0 : (a0_0 == 0) = false := by simpa using c10
     (try (have c10b1 : decide (a0_0 = 0) = false := by simpa using c10))
     (try (have c10b2 : (a0_0 == 0) = false := by simpa using c10))
     (try (have c10b3 : ¬ (a0_0 = 0) := by simpa using c10))
     clear c10
     by_cases c20 : (a0_0 == 1 && (a0_2 == 0)) = true
     ·
      rw [if_pos c20] at H
      have c20b0 : (a0_0 == 1 && (a0_2 == 0)) = true := c20
      (try (have c20b1 : decide (a0_0 = 1 && (a0_2 == 0)) = true := by simpa using c20))
      (try (have c20b2 : (a0_0 == 1 && (a0_2 == 0)) = true := by simpa using c20))
      clear c20
      replace H := Option.bind_eq_some_iff.mp H
      obtain ⟨t327, A210, H⟩ := H
      replace H : (if 5 + t327.size ≤ 9223372036854775807 then (some ((⟨#[115, 116, 101, 112, 32]⟩ : ByteArray) ++ t327)) else (none)) = some r := H
      have A21 := Aside0.mk A210
      clear A210
      by_cases c22 : 5 + t327.size ≤ 9223372036854775807
      ·
       rw [if_pos c22] at H
       have c22b0 := eq_true c22
       have c22b1 : decide (5 + t327.size ≤ 9223372036854775807) = true := decide_eq_true c22
       try have c22b2 : (9223372036854775807 < 5 + t327.size) = False := eq_false (Nat.not_lt.2 c22)
       obtain rfl := Option.some.inj H
       have hcz23_0 : wc.cell? ⟨gb322, 0, none⟩ = some (.int .i64 a0_0) := (blk_cell BK322.out 0).trans rfl
       have hcz23_1 : wc.cell? ⟨gb322, 1, none⟩ = some (.int .i64 a0_1) := (blk_cell BK322.out 1).trans rfl
       have hcz23_2 : wc.cell? ⟨gb322, 2, none⟩ = some (.int .i64 a0_2) := (blk_cell BK322.out 2).trans rfl
       have hfz23_0 := blk_frozen BK322.out 0
       have hfz23_1 := blk_frozen BK322.out 1
       have hfz23_2 := blk_frozen BK322.out 2
       go_wp2_with (first | ((with_reducible refine gate_callee (f := 100) rfl ?_); refine goesL_ (some 37) rfl rfl Tryd.func100 (by kernel_rfl) rfl #[.int .i64 a0_1] rfl tz_ ?_; (with_reducible refine (spec_l15Step.calls kj1 a0_1 t327 _ A21.out).mono ?_); rintro e w24 ⟨rfl, hb⟩; refine ⟨_, rfl, ?_⟩; have n0_ := Aside0.mk (blk_below (g := gb322) (o := .cells #[.int .i64 a0_0, .int .i64 a0_1, .int .i64 a0_2] 30 (0, 0)) (tk_ BK322.out) hb); have n1_ := Aside0.mk (below_step (tb_ HB.out) hb); clear BK322 HB; have BK322 := n0_; have HB := n1_; clear n0_ n1_; (try clear hb); (try clear hb2); (try clear hk); (try clear hi)))
       go_ret
       exact ⟨by first | rfl | (simp [errW_none, errW_some, Option.map_none, Option.map_some] <;> rfl) | (simp [*, errW_none, errW_some] <;> rfl), (tb_ HB.out)⟩
      ·
       rw [if_neg c22] at H
       exact absurd H (by simp)
     ·
      rw [if_neg c20] at H
      have c20b0 : (a0_0 == 1 && (a0_2 == 0)) = false := by simpa using c20
      (try (have c20b1 : decide (a0_0 = 1 && (a0_2 == 0)) = false := by simpa using c20))
      (try (have c20b2 : (a0_0 == 1 && (a0_2 == 0)) = false := by simpa using c20))
      (try (have c20b3 : ¬ (a0_0 = 1 && (a0_2 == 0)) := by simpa using c20))
      clear c20
      by_cases c25 : (a0_0 == 2 && (a0_2 == 0)) = true
      ·
       rw [if_pos c25] at H
       have c25b0 : (a0_0 == 2 && (a0_2 == 0)) = true := c25
       (try (have c25b1 : decide (a0_0 = 2 && (a0_2 == 0)) = true := by simpa using c25))
       (try (have c25b2 : (a0_0 == 2 && (a0_2 == 0)) = true := by simpa using c25))
       clear c25
       replace H := Option.bind_eq_some_iff.mp H
       obtain ⟨t328, A260, H⟩ := H
       replace H : (if 5 + t328.size ≤ 9223372036854775807 then (some ((⟨#[100, 114, 97, 119, 32]⟩ : ByteArray) ++ t328)) else (none)) = some r := H
       have A26 := Aside0.mk A260
       clear A260
       by_cases c27 : 5 + t328.size ≤ 9223372036854775807
       ·
        rw [if_pos c27] at H
        have c27b0 := eq_true c27
        have c27b1 : decide (5 + t328.size ≤ 9223372036854775807) = true := decide_eq_true c27
        try have c27b2 : (9223372036854775807 < 5 + t328.size) = False := eq_false (Nat.not_lt.2 c27)
        obtain rfl := Option.some.inj H
        have hcz28_0 : wc.cell? ⟨gb322, 0, none⟩ = some (.int .i64 a0_0) := (blk_cell BK322.out 0).trans rfl
        have hcz28_1 : wc.cell? ⟨gb322, 1, none⟩ = some (.int .i64 a0_1) := (blk_cell BK322.out 1).trans rfl
        have hcz28_2 : wc.cell? ⟨gb322, 2, none⟩ = some (.int .i64 a0_2) := (blk_cell BK322.out 2).trans rfl
        have hfz28_0 := blk_frozen BK322.out 0
        have hfz28_1 := blk_frozen BK322.out 1
        have hfz28_2 := blk_frozen BK322.out 2
        go_wp2_with (first | ((with_reducible refine gate_callee (f := 100) rfl ?_); refine goesL_ (some 46) rfl rfl Tryd.func100 (by kernel_rfl) rfl #[.int .i64 a0_1] rfl tz_ ?_; (with_reducible refine (spec_l15Step.calls kj1 a0_1 t328 _ A26.out).mono ?_); rintro e w29 ⟨rfl, hb⟩; refine ⟨_, rfl, ?_⟩; have n0_ := Aside0.mk (blk_below (g := gb322) (o := .cells #[.int .i64 a0_0, .int .i64 a0_1, .int .i64 a0_2] 30 (0, 0)) (tk_ BK322.out) hb); have n1_ := Aside0.mk (below_step (tb_ HB.out) hb); clear BK322 HB; have BK322 := n0_; have HB := n1_; clear n0_ n1_; (try clear hb); (try clear hb2); (try clear hk); (try clear hi)))
        go_ret
        exact ⟨by first | rfl | (simp [errW_none, errW_some, Option.map_none, Option.map_some] <;> rfl) | (simp [*, errW_none, errW_some] <;> rfl), (tb_ HB.out)⟩
       ·
        rw [if_neg c27] at H
        exact absurd H (by simp)
      ·
       rw [if_neg c25] at H
       have c25b0 : (a0_0 == 2 && (a0_2 == 0)) = false := by simpa using c25
       (try (have c25b1 : decide (a0_0 = 2 && (a0_2 == 0)) = false := by simpa using c25))
       (try (have c25b2 : (a0_0 == 2 && (a0_2 == 0)) = false := by simpa using c25))
       (try (have c25b3 : ¬ (a0_0 = 2 && (a0_2 == 0)) := by simpa using c25))
       clear c25
       by_cases c30 : (a0_0 == 3 && (a0_1 == 0 && (a0_2 == 0))) = true
       ·
        rw [if_pos c30] at H
        have c30b0 : (a0_0 == 3 && (a0_1 == 0 && (a0_2 == 0))) = true := c30
        (try (have c30b1 : decide (a0_0 = 3 && (a0_1 == 0 && (a0_2 == 0))) = true := by simpa using c30))
        (try (have c30b2 : (a0_0 == 3 && (a0_1 == 0 && (a0_2 == 0))) = true := by simpa using c30))
        clear c30
        obtain rfl := Option.some.inj H
        have hcz31_0 : wc.cell? ⟨gb322, 0, none⟩ = some (.int .i64 a0_0) := (blk_cell BK322.out 0).trans rfl
        have hcz31_1 : wc.cell? ⟨gb322, 1, none⟩ = some (.int .i64 a0_1) := (blk_cell BK322.out 1).trans rfl
        have hcz31_2 : wc.cell? ⟨gb322, 2, none⟩ = some (.int .i64 a0_2) := (blk_cell BK322.out 2).trans rfl
        have hfz31_0 := blk_frozen BK322.out 0
        have hfz31_1 := blk_frozen BK322.out 1
        have hfz31_2 := blk_frozen BK322.out 2
        go_wp2
        go_ret
        exact ⟨by first | rfl | (simp [errW_none, errW_some, Option.map_none, Option.map_some] <;> rfl) | (simp [*, errW_none, errW_some] <;> rfl), (tb_ HB.out)⟩
       ·
        rw [if_neg c30] at H
        have c30b0 : (a0_0 == 3 && (a0_1 == 0 && (a0_2 == 0))) = false := by simpa using c30
        (try (have c30b1 : decide (a0_0 = 3 && (a0_1 == 0 && (a0_2 == 0))) = false := by simpa using c30))
        (try (have c30b2 : (a0_0 == 3 && (a0_1 == 0 && (a0_2 == 0))) = false := by simpa using c30))
        (try (have c30b3 : ¬ (a0_0 = 3 && (a0_1 == 0 && (a0_2 == 0))) := by simpa using c30))
        clear c30
        by_cases c32 : (a0_0 == 4 && (a0_1 == 0 && (a0_2 == 0))) = true
        ·
         rw [if_pos c32] at H
         have c32b0 : (a0_0 == 4 && (a0_1 == 0 && (a0_2 == 0))) = true := c32
         (try (have c32b1 : decide (a0_0 = 4 && (a0_1 == 0 && (a0_2 == 0))) = true := by simpa using c32))
         (try (have c32b2 : (a0_0 == 4 && (a0_1 == 0 && (a0_2 == 0))) = true := by simpa using c32))
         clear c32
         obtain rfl := Option.some.inj H
         have hcz33_0 : wc.cell? ⟨gb322, 0, none⟩ = some (.int .i64 a0_0) := (blk_cell BK322.out 0).trans rfl
         have hcz33_1 : wc.cell? ⟨gb322, 1, none⟩ = some (.int .i64 a0_1) := (blk_cell BK322.out 1).trans rfl
         have hcz33_2 : wc.cell? ⟨gb322, 2, none⟩ = some (.int .i64 a0_2) := (blk_cell BK322.out 2).trans rfl
         have hfz33_0 := blk_frozen BK322.out 0
         have hfz33_1 := blk_frozen BK322.out 1
         have hfz33_2 := blk_frozen BK322.out 2
         go_wp2
         go_ret
         exact ⟨by first | rfl | (simp [errW_none, errW_some, Option.map_none, Option.map_some] <;> rfl) | (simp [*, errW_none, errW_some] <;> rfl), (tb_ HB.out)⟩
        ·
         rw [if_neg c32] at H
         have c32b0 : (a0_0 == 4 && (a0_1 == 0 && (a0_2 == 0))) = false := by simpa using c32
         (try (have c32b1 : decide (a0_0 = 4 && (a0_1 == 0 && (a0_2 == 0))) = false := by simpa using c32))
         (try (have c32b2 : (a0_0 == 4 && (a0_1 == 0 && (a0_2 == 0))) = false := by simpa using c32))
         (try (have c32b3 : ¬ (a0_0 = 4 && (a0_1 == 0 && (a0_2 == 0))) := by simpa using c32))
         clear c32
         obtain rfl := Option.some.inj H
         have hcz34_0 : wc.cell? ⟨gb322, 0, none⟩ = some (.int .i64 a0_0) := (blk_cell BK322.out 0).trans rfl
         have hcz34_1 : wc.cell? ⟨gb322, 1, none⟩ = some (.int .i64 a0_1) := (blk_cell BK322.out 1).trans rfl
         have hcz34_2 : wc.cell? ⟨gb322, 2, none⟩ = some (.int .i64 a0_2) := (blk_cell BK322.out 2).trans rfl
         have hfz34_0 := blk_frozen BK322.out 0
         have hfz34_1 := blk_frozen BK322.out 1
         have hfz34_2 := blk_frozen BK322.out 2
         go_wp2
         go_ret
         exact ⟨by first | rfl | (simp [errW_none, errW_some, Option.map_none, Option.map_some] <;> rfl) | (simp [*, errW_none, errW_some] <;> rfl), (tb_ HB.out)⟩

end Go.Proofs.YtlhiienanbpdlaaDoor.MFnDeedText
