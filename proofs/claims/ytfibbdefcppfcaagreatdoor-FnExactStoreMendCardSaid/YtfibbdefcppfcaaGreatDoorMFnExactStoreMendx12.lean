/- For the law FnExactStoreMend: walks of the functions that it reaches: each call returns what the plain function beside it tells. The conditions stand in each statement. -/
import Derived.Test.YtfibbdefcppfcaaGreatDoorV
import Derived.Test.YtfibbdefcppfcaaGreatDoorMFnExactStoreMendx0
import Derived.Test.YtfibbdefcppfcaaGreatDoorMFnExactStoreMendx10
import Derived.Test.YtfibbdefcppfcaaGreatDoorMFnExactStoreMendx11
namespace Go.Proofs.YtfibbdefcppfcaaGreatDoor.MFnExactStoreMend
open Go.RowKit Go.Proofs.YtfibbdefcppfcaaGreatDoorW.PrintWords Go.Proofs.YtfibbdefcppfcaaGreatDoorW.PrintLast Go.Proofs.YtfibbdefcppfcaaGreatDoorW.PrintMore
attribute [local go_sem] max2_int min2_int max_two min_two max_three min_three max_four min_four   -- for this text's walks alone
set_option linter.unusedVariables false
set_option linter.unusedSimpArgs false

/-! ### impl_PlaceOk: function 60 -/
def impl_PlaceOk.j0 : Nat → Bool → List Int → Int → List Int → Option (Bool)
 | 0, _, _, _, _ => none
 | k + 1, x25, ap, aC, aD => if x25 = true then (some false) else ((impl_SameRule.f k (ap.length : Int) aC).bind fun an => ((impl_ruleWays.f k ap an aD).bind fun ax => (some (decide (ax > 0)))))
def impl_PlaceOk.f (k : Nat) (ab : List Int) (a0_1 : Int) (ac : List Int) : Option (Bool) := (impl_StartOk.f k ab).bind fun ay => (if ay = true then (if a0_1 < (-1) then (impl_PlaceOk.j0 k true ab a0_1 ac) else (if a0_1 > 3 then (impl_PlaceOk.j0 k true ab a0_1 ac) else ((impl_WordOk.f k (ab.length : Int) ac).bind fun aj => (impl_PlaceOk.j0 k (!aj) ab a0_1 ac)))) else (impl_PlaceOk.j0 k true ab a0_1 ac))
theorem impl_PlaceOk.mono_l : ∀ k, (∀ y0 y1 y2 y3, LeO (impl_PlaceOk.j0 k y0 y1 y2 y3) (impl_PlaceOk.j0 (k + 1) y0 y1 y2 y3))
 | 0 => fun _ _ _ _ r h => by simp [impl_PlaceOk.j0] at h
 | k + 1 => by
  have ih0 := impl_PlaceOk.mono_l k
  ·
   intro y0 y1 y2 y3
   unfold impl_PlaceOk.j0
   repeat' (with_reducible first | exact ih0 _ _ _ _ | exact impl_SameRule.mono _ _ _ | exact impl_StartOk.mono _ _ | exact impl_WordOk.mono _ _ _ | exact impl_ruleWays.mono _ _ _ _ | exact mr_ | exact mn_ | refine mi_ ?_ ?_ | refine mb_ ?_ (fun _ => ?_))
theorem impl_PlaceOk.mono : ∀ a0 a1 a2 k, LeO (impl_PlaceOk.f k a0 a1 a2) (impl_PlaceOk.f (k + 1) a0 a1 a2) := by
 intro a0 a1 a2 k
 have ih0 := impl_PlaceOk.mono_l k
 unfold impl_PlaceOk.f
 repeat' (with_reducible first | exact ih0 _ _ _ _ | exact impl_SameRule.mono _ _ _ | exact impl_StartOk.mono _ _ | exact impl_WordOk.mono _ _ _ | exact impl_ruleWays.mono _ _ _ _ | exact mr_ | exact mn_ | refine mi_ ?_ ?_ | refine mb_ ?_ (fun _ => ?_))
def impl_PlaceOk.T3 : Bool × List (List Nat × List Nat) := (true, [([], []), ([0], [0]), ([], []), ([2], [2]), ([3], [3]), ([], []), ([5], [5]), ([4, 6], [4, 6]), ([], []), ([8], [8]), ([1, 7, 9, 7], [1, 7, 9]), ([10], [10]), ([11, 10, 0, 1, 2, 3, 4, 5, 6, 7, 8, 9, 10, 11], [11])])
def impl_PlaceOk.B3 : List Nat := [0, 1, 0, 4, 12, 0, 32, 124, 0, 256, 1023, 2047, 4095]
theorem impl_PlaceOk.tab3 : rtab .any (opsOf Tryz.f60 3) = impl_PlaceOk.T3 := by kernel_rfl
theorem impl_PlaceOk.bits3 : waitsOk impl_PlaceOk.T3.2 impl_PlaceOk.B3 = true := by kernel_rfl
set_option maxHeartbeats 8000000 in
set_option maxRecDepth 100000 in
theorem impl_PlaceOk.calls (k : Nat) (af : Option Addr) (ag : Nat) (ab : List Int) (a0_1 : Int) (au : Option Addr) (av : Nat) (ac : List Int) (r : Bool) (w : World) (hr0_0 : Kd.C (Kd.int .i64) w af ab.length ab) (hc0_0 : ab.length ≤ ag) (hr0_2 : Kd.C (Kd.int .i64) w au ac.length ac) (hc0_2 : ac.length ≤ av) (h : impl_PlaceOk.f k ab a0_1 ac = some r) :
  Calls Tryz.prog 60 #[.agg #[.slice af ab.length ag, .int .i64 a0_1, .slice au ac.length av]] w fun e w' => e = .returned (.bool r) ∧ Below w.heap.size w w' := by
 have hu39 := Tryz.underlying39
 have bv := Aside0.mk hr0_0
 have ak := Aside0.mk hc0_0
 clear hr0_0 hc0_0
 have bf := Aside0.mk hr0_2
 have aW := Aside0.mk hc0_2
 clear hr0_2 hc0_2
 have HB := Aside0.mk (Below.refl w.heap.size w)
 have H : ((impl_StartOk.f k ab).bind fun ay => (if ay = true then (if a0_1 < (-1) then (impl_PlaceOk.j0 k true ab a0_1 ac) else (if a0_1 > 3 then (impl_PlaceOk.j0 k true ab a0_1 ac) else ((impl_WordOk.f k (ab.length : Int) ac).bind fun aj => (impl_PlaceOk.j0 k (!aj) ab a0_1 ac)))) else (impl_PlaceOk.j0 k true ab a0_1 ac))) = some r := h
 clear h
 have HC2 := Aside0.mk H
 clear H
 go_enter Tryz.func60, Tryz.ntmps60
 go_upto_region 1 with (first | ((with_reducible refine gate_dst (N := 1) rfl ?_); (try (refine gate_guard (by rfl) ?_; dsimp only)); refine box_event ?hg (N := 1) ?hd (cs := #[.slice af ab.length ag, .int .i64 a0_1, .slice au ac.length av]) (t := 39) ?hr ?_; (case hd => rfl); (case hg => rfl); (case hr => first | (go_simp; done) | (go_simp; rfl)); intro aq hg w3 hbox hb; have aa := Aside0.mk (hbox); have bw := gx_ HB hg; have bx := gx_ HB hg; replace HB := bs_ HB hb; clear hb hbox hg))
 (try simp only [Act.put, sa_, sb_, sc_])
 go_cut [25] (fun bz wc => ∃ (kq : Nat) (ar : Bool), bz = .bool ar ∧ Aside0 (impl_PlaceOk.j0 kq ar ab a0_1 ac = some r) ∧ Aside0 (kq ≤ k) ∧ Aside0 (wc.heap[aq]? = some (.cells #[(.slice af ab.length ag), .int .i64 a0_1, (.slice au ac.length av)] 39 (0, 0))) ∧ Aside0 (Below w.heap.size w wc))
 case first =>
  have H := HC2.out
  clear HC2
  obtain ⟨ay, A4, H⟩ := bnd_ H
  try dsimp only at H
  by_cases c5 : ay = true
  ·
   subst c5
   have H1 : (if a0_1 < (-1) then (impl_PlaceOk.j0 k true ab a0_1 ac) else (if a0_1 > 3 then (impl_PlaceOk.j0 k true ab a0_1 ac) else ((impl_WordOk.f k (ab.length : Int) ac).bind fun aj => (impl_PlaceOk.j0 k (!aj) ab a0_1 ac)))) = some r := by rw [if_pos rfl] at H; exact H
   clear H
   have H := H1
   clear H1
   by_cases c6 : a0_1 < (-1)
   ·
    rw [if_pos c6] at H
    have ao : decide (a0_1 < (-1)) = true := decide_eq_true c6
    clear c6
    (first | rw [ao] | (simp only [i64_w, i32_w]; rw [ao]) | skip)
    have H' := Aside0.mk H
    clear H
    have aY := cz_ aa 0
    have aZ := cz_ aa 1
    have a3 := cz_ aa 2
    have a4 := blk_frozen aa.out 0
    have a5 := blk_frozen aa.out 1
    have a6 := blk_frozen aa.out 2
    go_wp2_with (first | ((with_reducible refine gate_callee (f := 92) rfl ?_); refine gl_ (some 5) Tryz.func92 #[.slice af ab.length ag] ?_; (with_reducible refine (impl_StartOk.calls k _ _ ab true _ ?s1 ?s2 A4.out).mono ?_); (case s1 => exact tD_); (case s2 => exact ak.out); rintro e w' ⟨rfl, ⟨nd, rfl⟩⟩; refine ⟨_, rfl, ?_⟩))
    go_meet
    case rel => exact ⟨_, (true), tx_, H', ⟨by first | omega | exact Nat.le_refl _⟩, ⟨tk_ aa.out⟩, ⟨(tb_ HB.out)⟩⟩
   ·
    rw [if_neg c6] at H
    have ao : decide (a0_1 < (-1)) = false := decide_eq_false c6
    clear c6
    (first | rw [ao] | (simp only [i64_w, i32_w]; rw [ao]) | skip)
    by_cases c8 : a0_1 > 3
    ·
     rw [if_pos c8] at H
     have bg : decide (3 < a0_1) = true := decide_eq_true c8
     clear c8
     have H' := Aside0.mk H
     clear H
     have a7 := cz_ aa 0
     have a8 := cz_ aa 1
     have a9 := cz_ aa 2
     have bb := blk_frozen aa.out 0
     have bc := blk_frozen aa.out 1
     have bd := blk_frozen aa.out 2
     go_wp2_with (first | ((with_reducible refine gate_callee (f := 92) rfl ?_); refine gl_ (some 5) Tryz.func92 #[.slice af ab.length ag] ?_; (with_reducible refine (impl_StartOk.calls k _ _ ab true _ ?s1 ?s2 A4.out).mono ?_); (case s1 => exact tD_); (case s2 => exact ak.out); rintro e w' ⟨rfl, ⟨nd, rfl⟩⟩; refine ⟨_, rfl, ?_⟩))
     go_meet
     case rel => exact ⟨_, (true), tx_, H', ⟨by first | omega | exact Nat.le_refl _⟩, ⟨tk_ aa.out⟩, ⟨(tb_ HB.out)⟩⟩
    ·
     rw [if_neg c8] at H
     have bg : decide (3 < a0_1) = false := decide_eq_false c8
     clear c8
     obtain ⟨aj, A10, H⟩ := bnd_ H
     try dsimp only at H
     have H' := Aside0.mk H
     clear H
     have aE := cz_ aa 0
     have aG := cz_ aa 1
     have aH := cz_ aa 2
     have aI := blk_frozen aa.out 0
     have aJ := blk_frozen aa.out 1
     have aK := blk_frozen aa.out 2
     go_wp2_with (first | ((with_reducible refine gate_callee (f := 92) rfl ?_); refine gl_ (some 5) Tryz.func92 #[.slice af ab.length ag] ?_; (with_reducible refine (impl_StartOk.calls k _ _ ab true _ ?s1 ?s2 A4.out).mono ?_); (case s1 => exact tD_); (case s2 => exact ak.out); rintro e w' ⟨rfl, ⟨nd, rfl⟩⟩; refine ⟨_, rfl, ?_⟩) | (go_at_call 93; (with_reducible refine (impl_WordOk.calls k (ab.length : Int) _ _ ac aj _ ?s1 ?s2 A10.out).mono ?_); (case s1 => repeat (first | exact (Kd.C_below bf.out (tb_ HB.out)) | (with_reducible refine Kd.C_alloc ?_ _) | (with_reducible refine Kd.C_drewN ?_ _) | (with_reducible refine Kd.C_drew ?_))); (case s2 => exact aW.out); rintro e w' ⟨rfl, ⟨nd, rfl⟩⟩))
     go_meet
     case rel => exact ⟨_, (!aj), tx_, H', ⟨by first | omega | exact Nat.le_refl _⟩, ⟨tk_ aa.out⟩, ⟨(tb_ HB.out)⟩⟩
  ·
   replace c5 := Bool.eq_false_iff.mpr c5
   subst c5
   have H1 : (impl_PlaceOk.j0 k true ab a0_1 ac) = some r := by rw [if_neg (show ¬ (false = true) by decide)] at H; exact H
   clear H
   have H := H1
   clear H1
   have H' := Aside0.mk H
   clear H
   have aM := cz_ aa 0
   have aN := cz_ aa 1
   have aQ := cz_ aa 2
   have aR := blk_frozen aa.out 0
   have aU := blk_frozen aa.out 1
   have aV := blk_frozen aa.out 2
   go_wp2_with (first | ((with_reducible refine gate_callee (f := 92) rfl ?_); refine gl_ (some 5) Tryz.func92 #[.slice af ab.length ag] ?_; (with_reducible refine (impl_StartOk.calls k _ _ ab false _ ?s1 ?s2 A4.out).mono ?_); (case s1 => exact tD_); (case s2 => exact ak.out); rintro e w' ⟨rfl, ⟨nd, rfl⟩⟩; refine ⟨_, rfl, ?_⟩))
   go_meet
   case rel => exact ⟨_, (true), tx_, H', ⟨by first | omega | exact Nat.le_refl _⟩, ⟨tk_ aa.out⟩, ⟨(tb_ HB.out)⟩⟩
 case rest =>
  clear HC2
  try clear p2
  try clear c5
  try clear c6
  try clear ao
  try clear c8
  try clear bg
  try clear c9
  try clear aE
  try clear aG
  try clear aH
  try clear aM
  try clear aN
  try clear aQ
  try clear aY
  try clear aZ
  try clear a3
  try clear a7
  try clear a8
  try clear a9
  try clear aI
  try clear aJ
  try clear aK
  try clear aR
  try clear aU
  try clear aV
  try clear a4
  try clear a5
  try clear a6
  try clear bb
  try clear bc
  try clear bd
  obtain ⟨kq, ar, rfl, HA, HJ1, aa, HB⟩ := hcut
  cases kq with
  | zero => exact absurd HA.out (by simp [impl_PlaceOk.j0])
  | succ kj1 =>
   have H := HA.out
   clear HA
   simp only [impl_PlaceOk.j0] at H
   by_cases c13 : ar = true
   ·
    subst c13
    have H1 : (some false) = some r := by rw [if_pos rfl] at H; exact H
    clear H
    have H := H1
    clear H1
    obtain rfl := Option.some.inj H
    go_wp2
    go_ret
    exact ⟨tw_, (tb_ HB.out)⟩
   ·
    replace c13 := Bool.eq_false_iff.mpr c13
    subst c13
    have H1 : ((impl_SameRule.f kj1 (ab.length : Int) a0_1).bind fun an => ((impl_ruleWays.f kj1 ab an ac).bind fun ax => (some (decide (ax > 0))))) = some r := by rw [if_neg (show ¬ (false = true) by decide)] at H; exact H
    clear H
    have H := H1
    clear H1
    obtain ⟨an, A14, H⟩ := bnd_ H
    try dsimp only at H
    obtain ⟨ax, A15, H⟩ := bnd_ H
    try dsimp only at H
    obtain rfl := Option.some.inj H
    try go_wp2
    replace aa := dB_ aa
    replace HB := Aside0.mk (ld_ HB.out)
    refine start_ (n := 13) (S := fun w' => w'.cell? ⟨aq, 0, none⟩ = some (.slice af ab.length ag) ∧ w'.cell? ⟨aq, 1, none⟩ = some (.int .i64 a0_1) ∧ w'.cell? ⟨aq, 2, none⟩ = some (.slice au ac.length av)) (ds := []) #[false, false, false, false, false, false, false, false, false, false, false, false, false] (by kernel_rfl) rfl rfl hh_ (fun hHeld => ?_); refine with_tabW impl_PlaceOk.tab3 impl_PlaceOk.bits3 (fun HT_ HW_ => ?_)
    generalize wc.drew = bF at aa HB hHeld ⊢
    refine pu_ 0 (some 26) #[true, false, false, false, false, false, false, false, false, false, false, false, false] HT_ rfl rfl ?_
    refine pu_ 2 (some 28) #[true, false, true, false, false, false, false, false, false, false, false, false, false] HT_ rfl rfl ?_
    refine pu_ 5 (some 31) #[true, false, true, false, false, true, false, false, false, false, false, false, false] HT_ rfl rfl ?_
    refine pu_ 8 (some 34) #[true, false, true, false, false, true, false, false, true, false, false, false, false] HT_ rfl rfl ?_
    refine ta_ 1 (some 27) #[true, true, true, false, false, true, false, false, true, false, false, false, false] HT_ HW_ hHeld rfl rfl ?_
    refine ta_ 3 (some 29) #[true, true, true, true, false, true, false, false, true, false, false, false, false] HT_ HW_ hHeld rfl rfl ?_
    refine pu_ 4 (some 30) #[true, true, true, true, true, true, false, false, true, false, false, false, false] HT_ rfl rfl ?_
    refine ta_ 6 (some 32) #[true, true, true, true, true, true, true, false, true, false, false, false, false] HT_ HW_ hHeld rfl rfl ?_
    refine ta_ 9 (some 35) #[true, true, true, true, true, true, true, false, true, true, false, false, false] HT_ HW_ hHeld rfl rfl ?_
    refine one_ (i := 7) (N := some 33) #[true, true, true, true, true, true, true, true, true, true, false, false, false] rfl rfl (one_of HT_.out (by kernel_rfl)) (by decide) (fun K hK => ?_)
    refine goes_ Tryz.func95 (by kernel_rfl) rfl #[.int .i64 (ab.length : Int), .int .i64 a0_1] (by rfl) rfl rfl tz_ ?_
    with_reducible refine (impl_SameRule.calls kj1 (ab.length : Int) a0_1 an _ A14.out).mono ?_
    rintro e bG ⟨bB, rfl, ho0, hb⟩
    refine ⟨_, rfl, ?_⟩
    have al := Aside0.mk (Kd.S_lower ho0 (below_size (tb_ HB.out)))
    replace aa := bb_ aa hb
    replace HB := bs_ HB hb
    (try clear hb)
    (try clear hb2)
    (try clear hk)
    (try clear hi)
    (try clear ho0)
    obtain ⟨bn, bo, bh⟩ := Kd.S_slice al.out
    (first | subst bh | (injection bh with f1_ f2_ f3_; have f4_ := f1_.symm; have f5_ := f3_.symm; clear f1_ f2_ f3_; subst f4_; subst f5_))
    refine hK.out _ _ hh_ (fun hHeld => ?_)
    clear hK K
    refine nr_ 33 ?_
    refine one_ (i := 10) (N := some 36) #[true, true, true, true, true, true, true, true, true, true, true, false, false] rfl rfl (one_of HT_.out (by kernel_rfl)) (by decide) (fun K hK => ?_)
    refine goes_ Tryz.func94 (by kernel_rfl) rfl #[.slice af ab.length ag, .slice bn an.length bo, .slice au ac.length av] (by rfl) rfl rfl tz_ ?_
    with_reducible refine (impl_ruleWays.calls kj1 _ _ ab _ _ an _ _ ac ax _ ?s1 ?s2 ?s3 ?s4 ?s5 ?s6 A15.out).mono ?_
    (case s1 => exact tD_)
    (case s2 => exact ak.out)
    (case s3 => repeat (first | exact (Kd.S_reads' al.out).2.2 | (with_reducible refine Kd.C_alloc ?_ _) | (with_reducible refine Kd.C_drewN ?_ _) | (with_reducible refine Kd.C_drew ?_)))
    (case s4 => exact (Kd.S_reads' al.out).2.1)
    (case s5 => exact tD_)
    (case s6 => exact aW.out)
    rintro e bH ⟨rfl, hb⟩
    refine ⟨_, rfl, ?_⟩
    replace al := Aside0.mk (Kd.S_below (rS_ al.out) hb)
    replace aa := bb_ aa hb
    replace HB := bs_ HB hb
    (try clear hb)
    (try clear hb2)
    (try clear hk)
    (try clear hi)
    refine hK.out _ _ hh_ (fun hHeld => ?_)
    clear hK K
    refine nr_ 36 ?_
    refine pu_ 11 (some 37) #[true, true, true, true, true, true, true, true, true, true, true, true, false] HT_ rfl rfl ?_
    refine pu_ 12 (some 2) #[true, true, true, true, true, true, true, true, true, true, true, true, true] HT_ rfl rfl ?_
    refine done_ (done_of HT_.out (by kernel_rfl)) ?_
    try go_wp2
    go_ret
    exact ⟨tw_, (tb_ HB.out)⟩

/-! ### strconv_Itoa: function 75 -/
def strconv_Itoa.f (a0 : Int) : Option (ByteArray) := if -9223372036854775808 ≤ a0 ∧ a0 ≤ 9223372036854775807 then some ⟨(Lib.itoa a0).toArray⟩ else none
theorem strconv_Itoa.calls (a0 : Int) (r : ByteArray) (w : World) (hG : GWb w) (h : strconv_Itoa.f a0 = some r) :
  Calls Tryz.prog 75 #[.int .i64 a0] w fun e w' => e = .returned (.string r) ∧ Below w.heap.size w w' := by
 unfold strconv_Itoa.f at h
 split at h
 ·
  rename_i hb
  obtain rfl := Option.some.inj h
  refine (Sh.Tryz.strconv_Itoa a0 hb.1 hb.2 w hG.tab).mono fun e w' ⟨he, k, os, hw⟩ => ⟨he, hw ▸ Lib.below_grow _ w (Nat.le_refl _) k os⟩
 ·
  cases h

/-! ### strings_Join: function 109 -/
def strings_Join.f (l0 : List ByteArray) (a1 : ByteArray) : Option (ByteArray) := if l0.length ≤ 140737488355328 ∧ (Lib.join (l0.map (·.data.toList)) a1.data.toList).length ≤ 140737488355328 then some ⟨(Lib.join (l0.map (·.data.toList)) a1.data.toList).toArray⟩ else none
theorem strings_Join.calls (A0 : Option Addr) (c0 : Nat) (l0 : List ByteArray) (a1 : ByteArray) (r : ByteArray) (w : World) (hr0 : Kd.C Kd.string w A0 l0.length l0) (hc0 : l0.length ≤ c0) (h : strings_Join.f l0 a1 = some r) :
  Calls Tryz.prog 109 #[.slice A0 l0.length c0, .string a1] w fun e w' => e = .returned (.string r) ∧ Below w.heap.size w w' := by
 unfold strings_Join.f at h
 split at h
 ·
  rename_i hb
  obtain rfl := Option.some.inj h
  rcases Nat.eq_zero_or_pos l0.length with h0 | h0
  ·
   obtain rfl : l0 = [] := List.eq_nil_of_length_eq_zero h0
   exact (Sh.Tryz.strings_Join_none A0 c0 a1 w).mono fun e w' ⟨he, hw⟩ => ⟨he, hw ▸ Below.refl _ _⟩
  ·
   obtain ⟨ad, rfl, hc⟩ := hr0.2.2 h0
   have hcell : ∀ (j : Nat) x, l0[j]? = some x → w.cell? (ad.add j) = some (.string x) := by
    intro j x hj
    obtain ⟨c, hc1, hc2, hc3⟩ := hc j _ hj
    have e1 : c = [.string x] := hc2
    have := hc3 0 _ (by rw [e1]; rfl)
    simpa [Kd.string, Kd.scalar] using this
   have hs := hcell 0 _ (List.getElem?_eq_getElem h0)
   have hsp : ad.spot = none := by
    cases hq : ad.spot with
    | none => rfl
    | some q => simp [World.cell?, Addr.add, hq] at hs; split at hs <;> simp at hs
   have hlt := World.block_lt_of_cell? _ _ hs
   obtain ⟨b, o, sp⟩ := ad
   simp only at hsp
   subst hsp
   exact Sh.Tryz.strings_Join b o c0 l0 a1 w (fun j x hj => by have := hcell j x hj; unfold Addr.add at this; split at this <;> simp_all) (by simpa [Addr.add] using hlt) hb.1 hc0 hb.2
 ·
  cases h

/-! ### impl_rowText: function 74 -/
def impl_rowText.l0 : Nat → List ByteArray → List Int → Int → Int → Option (ByteArray)
 | 0, _, _, _, _ => none
 | k + 1, x3, x7, x8, x9 => if x9 < x8 then (if 0 ≤ x9 then (if x9 < (x7.length : Int) then ((strconv_Itoa.f (rd x7 x9)).bind fun aw => (if x3.length < 8796093022208 then (impl_rowText.l0 k (x3 ++ [aw]) x7 x8 (wrap64 (x9 + 1))) else (none))) else (none)) else (none)) else ((strings_Join.f x3 (⟨#[44]⟩ : ByteArray)).bind fun be => (some be))
def impl_rowText.f (k : Nat) (l0 : List Int) : Option (ByteArray) := impl_rowText.l0 k (([] : List ByteArray)) l0 (l0.length : Int) 0
theorem impl_rowText.mono_l : ∀ k, (∀ y0 y1 y2 y3, LeO (impl_rowText.l0 k y0 y1 y2 y3) (impl_rowText.l0 (k + 1) y0 y1 y2 y3))
 | 0 => fun _ _ _ _ r h => by simp [impl_rowText.l0] at h
 | k + 1 => by
  have ih0 := impl_rowText.mono_l k
  ·
   intro y0 y1 y2 y3
   unfold impl_rowText.l0
   repeat' (with_reducible first | exact ih0 _ _ _ _ | exact mr_ | exact mn_ | refine mi_ ?_ ?_ | refine mb_ ?_ (fun _ => ?_))
theorem impl_rowText.mono : ∀ a0 k, LeO (impl_rowText.f k a0) (impl_rowText.f (k + 1) a0) := by
 intro a0 k
 have ih0 := impl_rowText.mono_l k
 unfold impl_rowText.f
 repeat' (with_reducible first | exact ih0 _ _ _ _ | exact mr_ | exact mn_ | refine mi_ ?_ ?_ | refine mb_ ?_ (fun _ => ?_))
set_option maxHeartbeats 8000000 in
set_option maxRecDepth 100000 in
theorem impl_rowText.calls (k : Nat) (A0 : Option Addr) (c0 : Nat) (l0 : List Int) (r : ByteArray) (w : World) (hr0 : Kd.C (Kd.int .i64) w A0 l0.length l0) (hc0 : l0.length ≤ c0) (hG : GWb w) (h : impl_rowText.f k l0 = some r) :
  Calls Tryz.prog 74 #[.slice A0 l0.length c0] w fun e w' => e = .returned (.string r) ∧ Below w.heap.size w w' := by
 have HG := Aside0.mk hG
 clear hG
 have HR0 := Aside0.mk hr0
 have HC0 := Aside0.mk hc0
 clear hr0 hc0
 have HB := Aside0.mk (Below.refl w.heap.size w)
 have H : (impl_rowText.l0 k (([] : List ByteArray)) l0 (l0.length : Int) 0) = some r := h
 clear h
 obtain ⟨bi, az⟩ : ∃ y_ : List ByteArray, y_ = (([] : List ByteArray)) := ⟨_, rfl⟩
 replace H : (impl_rowText.l0 k bi l0 (l0.length : Int) 0) = some r := yq_ az H
 have aX := Aside0.mk az
 clear az
 have H' := Aside0.mk H
 clear H
 go_enter Tryz.func74, Tryz.ntmps74
 go_wp2_with (first | ((with_reducible refine gate_dst (N := 6) rfl ?_); refine Kd.R_lit Kd.string _ 9 ?hg (N := 6) ?hd (xs := ([] : List ByteArray)) (inner := []) (ok := fun _ => True) (okp := fun _ => True) ?hr ?hp (fun _ hk => hk) trivial (Below.refl _ _) (Nat.le_refl _) (by simp) ?_; (case hd => rfl); (case hg => rfl); (case hr => first | (go_simp; done) | (go_simp; rfl)); (case hp => exact (Reps.none _ _)); intro bC w2 ho3 hb hg_ hnew_; clear hg_ hnew_; (first | rw [← aX.out] at ho3 | (simp only [Int.reduceToNat] at ho3; rw [← aX.out] at ho3)); have bj := rx_ ho3 HB; replace HB := bs_ HB hb; clear hb ho3))
 go_loopg [3, 9] k (fun kq v3 v9 w' => ∃ (am : List ByteArray) (ae : Int), v9 = .int .i64 ae ∧ Aside0 (impl_rowText.l0 kq am l0 (l0.length : Int) ae = some r) ∧ Aside0 (kq ≤ k) ∧ Aside0 (Kd.R Kd.string 9 w' w.heap.size (fun _ => True) v3 am) ∧ Aside0 (Below w.heap.size w w'))
 case atStart => exact ⟨(bi), (0), tx_, H', ⟨Nat.le_refl _⟩, ⟨rR_ bj.out⟩, ⟨(tb_ HB.out)⟩⟩
 case round =>
  clear H'
  try clear p2
  obtain ⟨am, ae, rfl, HA, HK1, ah, HB⟩ := hrel
  cases gk with
  | zero => exact absurd HA.out (by simp [impl_rowText.l0])
  | succ k1 =>
   have H := HA.out
   clear HA
   simp only [impl_rowText.l0] at H
   by_cases c4 : ae < (l0.length : Int)
   ·
    rw [if_pos c4] at H
    have bp : decide (ae < (l0.length : Int)) = true := decide_eq_true c4
    clear c4
    by_cases c5 : 0 ≤ ae
    ·
     rw [if_pos c5] at H
     have bD : decide (0 ≤ ae) = true := decide_eq_true c5
     clear c5
     by_cases c6 : ae < (l0.length : Int)
     ·
      rw [if_pos c6] at H
      have ao : decide (ae < (l0.length : Int)) = true := decide_eq_true c6
      clear c6
      obtain ⟨aw, A7, H⟩ := bnd_ H
      try dsimp only at H
      by_cases c8 : am.length < 8796093022208
      ·
       rw [if_pos c8] at H
       have bq := Aside0.mk c8
       clear c8
       obtain ⟨bk, aA⟩ : ∃ y_ : List ByteArray, y_ = (am ++ [aw]) := ⟨_, rfl⟩
       replace H : (impl_rowText.l0 k1 bk l0 (l0.length : Int) (wrap64 (ae + 1))) = some r := yq_ aA H
       have bl := Aside0.mk aA
       clear aA
       have H' := Aside0.mk H
       clear H
       have p338 : 0 ≤ (ae : Int) := od_
       have q338 : ae < (l0.length : Int) := od_
       obtain ⟨ad338, e338, ai⟩ := Kd.at_int HR0.out ae p338 q338
       cases e338
       replace ai := (HB.out.cell (World.block_lt_of_cell? w _ ai)).trans ai
       replace p338 := eq_true p338
       replace q338 := eq_true q338
       go_wp2_with (first | ((with_reducible refine gate_callee (f := 75) rfl ?_); refine gl_ (some 15) Tryz.func75 #[.int .i64 (rd l0 ae)] ?_; (with_reducible refine (strconv_Itoa.calls (rd l0 ae) aw _ ?s1 A7.out).mono ?_); (case s1 => exact GWb.below HG.out (tb_ HB.out)); rintro e w9 ⟨rfl, hb⟩; refine ⟨_, rfl, ?_⟩; replace ah := rb_ ah hb; replace HB := bs_ HB hb; (try clear hb); (try clear hb2); (try clear hk); (try clear hi)) | ((with_reducible refine gate_builtin (b := .append) (xs := #[.tmp 13, .tmp 16]) rfl ?_); at_builtin; refine Kd.R_append Kd.string (w0 := w) w.heap.size rfl (.tmp 13) (.tmp 16) 95 9 (.string ⟨#[]⟩) 16 rfl Tryz.underlying95 info9 rfl (by decide) (by omega) u3 am aw [.string aw] (fun _ => True) (fun _ => False) rfl rfl ?aP (fun _ hk => hk.elim) ?aF ?aO ?aB ?aS ?aL ?_; (case aP => exact rfl); (case aB => exact (tb_ HB.out)); (case aF => exact (fun _ _ => trivial)); (case aO => exact (rR_ ah.out)); (case aS => exact (below_size (tb_ HB.out))); (case aL => have := bq.out; omega); intro bE bI ho hb hg hat; rw [← bl.out] at ho; replace HB := Aside0.mk (hb); have bm := Aside0.mk (ho); clear ah ho hb hg hat))
       go_roundg k1
       case measure => have := HK1.out; omega
       case rel => exact ⟨(bk), (wrap64 (ae + 1)), tx_, H', ⟨by have := HK1.out; omega⟩, ⟨rR_ bm.out⟩, ⟨(tb_ HB.out)⟩⟩
      ·
       rw [if_neg c8] at H
       exact absurd H (by simp)
     ·
      rw [if_neg c6] at H
      exact absurd H (by simp)
    ·
     rw [if_neg c5] at H
     exact absurd H (by simp)
   ·
    rw [if_neg c4] at H
    have bp : decide (ae < (l0.length : Int)) = false := decide_eq_false c4
    clear c4
    obtain ⟨be, A11, H⟩ := bnd_ H
    try dsimp only at H
    obtain rfl := Option.some.inj H
    obtain ⟨br, bs, bu⟩ := Kd.R_slice ah.out
    subst bu
    go_wp2_with (first | ((with_reducible refine gate_callee (f := 109) rfl ?_); refine gl_ (some 20) Tryz.func109 #[.slice br am.length bs, .string (⟨#[44]⟩ : ByteArray)] ?_; (with_reducible refine (strings_Join.calls _ _ am (⟨#[44]⟩ : ByteArray) be _ ?s1 ?s2 A11.out).mono ?_); (case s1 => repeat (first | exact (Kd.R_reads' ah.out).2.2 | (with_reducible refine Kd.C_alloc ?_ _) | (with_reducible refine Kd.C_drewN ?_ _) | (with_reducible refine Kd.C_drew ?_))); (case s2 => exact (Kd.R_reads' ah.out).2.1); rintro e bJ ⟨rfl, hb⟩; refine ⟨_, rfl, ?_⟩; replace ah := rb_ ah hb; replace HB := bs_ HB hb; (try clear hb); (try clear hb2); (try clear hk); (try clear hi)))
    go_ret
    exact ⟨tw_, (tb_ HB.out)⟩

end Go.Proofs.YtfibbdefcppfcaaGreatDoor.MFnExactStoreMend
