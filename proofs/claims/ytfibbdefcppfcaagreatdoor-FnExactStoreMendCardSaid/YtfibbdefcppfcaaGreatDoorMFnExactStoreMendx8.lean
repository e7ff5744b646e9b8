/- For the law FnExactStoreMend: walks of the functions that it reaches: each call returns what the plain function beside it tells. The conditions stand in each statement. -/
import Derived.Test.YtfibbdefcppfcaaGreatDoorV
import Derived.Test.YtfibbdefcppfcaaGreatDoorMFnExactStoreMendx0
import Derived.Test.YtfibbdefcppfcaaGreatDoorMFnExactStoreMendx1
import Derived.Test.YtfibbdefcppfcaaGreatDoorMFnExactStoreMendx2
import Derived.Test.YtfibbdefcppfcaaGreatDoorMFnExactStoreMendx5
import Derived.Test.YtfibbdefcppfcaaGreatDoorMFnExactStoreMendx7
namespace Go.Proofs.YtfibbdefcppfcaaGreatDoor.MFnExactStoreMend
open Go.RowKit Go.Proofs.YtfibbdefcppfcaaGreatDoorW.PrintWords Go.Proofs.YtfibbdefcppfcaaGreatDoorW.PrintLast Go.Proofs.YtfibbdefcppfcaaGreatDoorW.PrintMore
attribute [local go_sem] max2_int min2_int max_two min_two max_three min_three max_four min_four   -- for this text's walks alone
set_option linter.unusedVariables false
set_option linter.unusedSimpArgs false

attribute [local go_sem high] eqA34
/-! ### spec_StoreOk: function 34 -/
def spec_StoreOk.f (k : Nat) (a0_0 : ByteArray) (a0_1 : ByteArray) (a0_2 : Int) : Option (Bool) := (spec_ReadPlace.f k a0_0).bind fun au => (if au.2.2.2 = true then (if (a0_1.size : Int) ≤ 1000 then ((spec_l1In.f a0_2 0 (a0_1.size : Int)).bind fun ap => (some ap)) else (some false)) else (some false))
theorem spec_StoreOk.mono : ∀ a0 a1 a2 k, LeO (spec_StoreOk.f k a0 a1 a2) (spec_StoreOk.f (k + 1) a0 a1 a2) := by
 intro a0 a1 a2 k
 unfold spec_StoreOk.f
 repeat' (with_reducible first | exact spec_ReadPlace.mono _ _ | exact mr_ | exact mn_ | refine mi_ ?_ ?_ | refine mb_ ?_ (fun _ => ?_))
set_option maxHeartbeats 8000000 in
set_option maxRecDepth 100000 in
theorem spec_StoreOk.calls (k : Nat) (a0_0 : ByteArray) (a0_1 : ByteArray) (a0_2 : Int) (r : Bool) (w : World) (h : spec_StoreOk.f k a0_0 a0_1 a0_2 = some r) :
  Calls Tryz.prog 34 #[.agg #[.string a0_0, .string a0_1, .int .i64 a0_2]] w fun e w' => e = .returned (.bool r) ∧ Below w.heap.size w w' := by
 have hu25 := Tryz.underlying25
 have hu39 := Tryz.underlying39
 have HB := Aside0.mk (Below.refl w.heap.size w)
 have H : ((spec_ReadPlace.f k a0_0).bind fun au => (if au.2.2.2 = true then (if (a0_1.size : Int) ≤ 1000 then ((spec_l1In.f a0_2 0 (a0_1.size : Int)).bind fun ap => (some ap)) else (some false)) else (some false))) = some r := h
 clear h
 obtain ⟨⟨aW, aX, aY, cn⟩, A2, H⟩ := bnd_ H
 try dsimp only at H
 by_cases c3 : cn = true
 ·
  subst c3
  have H1 : (if (a0_1.size : Int) ≤ 1000 then ((spec_l1In.f a0_2 0 (a0_1.size : Int)).bind fun ap => (some ap)) else (some false)) = some r := by rw [if_pos rfl] at H; exact H
  clear H
  have H := H1
  clear H1
  by_cases c4 : (a0_1.size : Int) ≤ 1000
  ·
   rw [if_pos c4] at H
   have co : decide ((a0_1.size : Int) ≤ 1000) = true := decide_eq_true c4
   have cp : decide (a0_1.size ≤ 1000) = true := decide_eq_true (by omega)
   clear c4
   obtain ⟨ap, A5, H⟩ := bnd_ H
   try dsimp only at H
   obtain rfl := Option.some.inj H
   go_enter Tryz.func34, Tryz.ntmps34
   go_wp2_with (first | ((with_reducible refine gate_dst (N := 1) rfl ?_); (try (refine gate_guard (by rfl) ?_; dsimp only)); refine box_event ?hg (N := 1) ?hd (cs := #[.string a0_0, .string a0_1, .int .i64 a0_2]) (t := 25) ?hr ?_; (case hd => rfl); (case hg => rfl); (case hr => first | (go_simp; done) | (go_simp; rfl)); intro aO hg w6 hbox hb; have ab := Aside0.mk (hbox); have aP := gx_ HB hg; have aQ := gx_ HB hg; replace HB := bs_ HB hb; clear hb hbox hg; have av := cz_ ab 0; have aw := cz_ ab 1; have ax := cz_ ab 2; have ay := blk_frozen ab.out 0; have az := blk_frozen ab.out 1; have aA := blk_frozen ab.out 2) | ((with_reducible refine gate_callee (f := 50) rfl ?_); refine gl_ (some 8) Tryz.func50 #[.string a0_0] ?_; (with_reducible refine (spec_ReadPlace.calls k a0_0 aW aX aY true _ A2.out).mono ?_); rintro e w8 ⟨a8, a9, rfl, ho0, ho1, hb⟩; refine ⟨_, rfl, ?_⟩; have ag := rx_ ho0 HB; have ah := rx_ ho1 HB; replace ab := bb_ ab hb; replace HB := bs_ HB hb; (try clear hb); (try clear hb2); (try clear hk); (try clear hi); (try clear ho0); (try clear ho1)) | ((with_reducible refine gate_dst (N := 3) rfl ?_); (try (refine gate_guard (by rfl) ?_; dsimp only)); refine box_event ?hg (N := 3) ?hd (cs := #[.slice none 0 0, .int .i64 0, .slice none 0 0]) (t := 39) ?hr ?_; (case hd => rfl); (case hg => rfl); (case hr => first | (go_simp; done) | (go_simp; rfl)); intro aR hg w9 hbox hb; replace ag := rb_ ag hb; replace ah := rb_ ah hb; have ac := Aside0.mk (hbox); have aU := gx_ HB hg; have aV := gx_ HB hg; replace HB := bs_ HB hb; have ae := nl_ ab hg; have af := ng_ ab hg; replace ab := bb_ ab hb; clear hb hbox hg; obtain ⟨c1, c2, cq⟩ := Kd.R_slice ag.out; subst cq; have cx := af.out; have cy := ae.out; have bq := cz_ ac 0; have br := cz_ ac 1; have bs := cz_ ac 2; have bu := blk_frozen ac.out 0; have bv := blk_frozen ac.out 1; have bw := blk_frozen ac.out 2; obtain ⟨c7, c8, cr⟩ := Kd.R_slice ah.out; subst cr; have bx := cz_ ab 0; have bz := cz_ ab 1; have bB := cz_ ab 2; have bC := blk_frozen ab.out 0; have bD := blk_frozen ab.out 1; have bE := blk_frozen ab.out 2) | (go_at_call 67; (with_reducible refine (spec_l1In.calls a0_2 0 (a0_1.size : Int) ap _ A5.out).mono ?_); rintro e w' ⟨rfl, ⟨nd, rfl⟩⟩))
   go_ret
   exact ⟨tw_, (tb_ HB.out)⟩
  ·
   rw [if_neg c4] at H
   have co : decide ((a0_1.size : Int) ≤ 1000) = false := decide_eq_false c4
   have cp : decide (a0_1.size ≤ 1000) = false := decide_eq_false (by omega)
   clear c4
   obtain rfl := Option.some.inj H
   go_enter Tryz.func34, Tryz.ntmps34
   go_wp2_with (first | ((with_reducible refine gate_dst (N := 1) rfl ?_); (try (refine gate_guard (by rfl) ?_; dsimp only)); refine box_event ?hg (N := 1) ?hd (cs := #[.string a0_0, .string a0_1, .int .i64 a0_2]) (t := 25) ?hr ?_; (case hd => rfl); (case hg => rfl); (case hr => first | (go_simp; done) | (go_simp; rfl)); intro aO hg dm hbox hb; have ab := Aside0.mk (hbox); have aP := gx_ HB hg; have aQ := gx_ HB hg; replace HB := bs_ HB hb; clear hb hbox hg; have aC := cz_ ab 0; have aD := cz_ ab 1; have aE := cz_ ab 2; have aF := blk_frozen ab.out 0; have aG := blk_frozen ab.out 1; have aH := blk_frozen ab.out 2) | ((with_reducible refine gate_callee (f := 50) rfl ?_); refine gl_ (some 8) Tryz.func50 #[.string a0_0] ?_; (with_reducible refine (spec_ReadPlace.calls k a0_0 aW aX aY true _ A2.out).mono ?_); rintro e da ⟨a8, a9, rfl, ho0, ho1, hb⟩; refine ⟨_, rfl, ?_⟩; have ag := rx_ ho0 HB; have ah := rx_ ho1 HB; replace ab := bb_ ab hb; replace HB := bs_ HB hb; (try clear hb); (try clear hb2); (try clear hk); (try clear hi); (try clear ho0); (try clear ho1)) | ((with_reducible refine gate_dst (N := 3) rfl ?_); (try (refine gate_guard (by rfl) ?_; dsimp only)); refine box_event ?hg (N := 3) ?hd (cs := #[.slice none 0 0, .int .i64 0, .slice none 0 0]) (t := 39) ?hr ?_; (case hd => rfl); (case hg => rfl); (case hr => first | (go_simp; done) | (go_simp; rfl)); intro aR hg db hbox hb; replace ag := rb_ ag hb; replace ah := rb_ ah hb; have ac := Aside0.mk (hbox); have aU := gx_ HB hg; have aV := gx_ HB hg; replace HB := bs_ HB hb; have ae := nl_ ab hg; have af := ng_ ab hg; replace ab := bb_ ab hb; clear hb hbox hg; obtain ⟨dc, dd, ct⟩ := Kd.R_slice ag.out; subst ct; have cz := af.out; have cA := ae.out; have bF := cz_ ac 0; have bG := cz_ ac 1; have bH := cz_ ac 2; have bI := blk_frozen ac.out 0; have bJ := blk_frozen ac.out 1; have bK := blk_frozen ac.out 2; obtain ⟨de, df, cu⟩ := Kd.R_slice ah.out; subst cu; have aI := cz_ ab 0; have aJ := cz_ ab 1; have aK := cz_ ab 2; have aL := blk_frozen ab.out 0; have aM := blk_frozen ab.out 1; have aN := blk_frozen ab.out 2))
   go_ret
   exact ⟨tw_, (tb_ HB.out)⟩
 ·
  replace c3 := Bool.eq_false_iff.mpr c3
  subst c3
  have H1 : (some false) = some r := by rw [if_neg (show ¬ (false = true) by decide)] at H; exact H
  clear H
  have H := H1
  clear H1
  obtain rfl := Option.some.inj H
  go_enter Tryz.func34, Tryz.ntmps34
  go_wp2_with (first | ((with_reducible refine gate_dst (N := 1) rfl ?_); (try (refine gate_guard (by rfl) ?_; dsimp only)); refine box_event ?hg (N := 1) ?hd (cs := #[.string a0_0, .string a0_1, .int .i64 a0_2]) (t := 25) ?hr ?_; (case hd => rfl); (case hg => rfl); (case hr => first | (go_simp; done) | (go_simp; rfl)); intro aO hg dg hbox hb; have ab := Aside0.mk (hbox); have aP := gx_ HB hg; have aQ := gx_ HB hg; replace HB := bs_ HB hb; clear hb hbox hg; have bL := cz_ ab 0; have bM := cz_ ab 1; have bN := cz_ ab 2; have bO := blk_frozen ab.out 0; have bP := blk_frozen ab.out 1; have bQ := blk_frozen ab.out 2) | ((with_reducible refine gate_callee (f := 50) rfl ?_); refine gl_ (some 8) Tryz.func50 #[.string a0_0] ?_; (with_reducible refine (spec_ReadPlace.calls k a0_0 aW aX aY false _ A2.out).mono ?_); rintro e dn ⟨a8, a9, rfl, ho0, ho1, hb⟩; refine ⟨_, rfl, ?_⟩; have ag := rx_ ho0 HB; have ah := rx_ ho1 HB; replace ab := bb_ ab hb; replace HB := bs_ HB hb; (try clear hb); (try clear hb2); (try clear hk); (try clear hi); (try clear ho0); (try clear ho1)) | ((with_reducible refine gate_dst (N := 3) rfl ?_); (try (refine gate_guard (by rfl) ?_; dsimp only)); refine box_event ?hg (N := 3) ?hd (cs := #[.slice none 0 0, .int .i64 0, .slice none 0 0]) (t := 39) ?hr ?_; (case hd => rfl); (case hg => rfl); (case hr => first | (go_simp; done) | (go_simp; rfl)); intro aR hg dp hbox hb; replace ag := rb_ ag hb; replace ah := rb_ ah hb; have ac := Aside0.mk (hbox); have aU := gx_ HB hg; have aV := gx_ HB hg; replace HB := bs_ HB hb; have ae := nl_ ab hg; have af := ng_ ab hg; replace ab := bb_ ab hb; clear hb hbox hg; obtain ⟨dh, di, cv⟩ := Kd.R_slice ag.out; subst cv; have cB := af.out; have cC := ae.out; have bR := cz_ ac 0; have bS := cz_ ac 1; have bU := cz_ ac 2; have bV := blk_frozen ac.out 0; have bW := blk_frozen ac.out 1; have bX := blk_frozen ac.out 2; obtain ⟨dj, dk, cw⟩ := Kd.R_slice ah.out; subst cw))
  go_ret
  exact ⟨tw_, (tb_ HB.out)⟩

/-! ### spec_DeedText: function 47 -/
def spec_DeedText.j0 : Nat → Bool → Int → Int → Int → Option (ByteArray)
 | 0, _, _, _, _ => none
 | k + 1, x12, ai, aj, ak => if x12 = true then (some (⟨#[]⟩ : ByteArray)) else (if (ai == 0) = true then ((spec_l15Step.f k aj).bind fun ad => (if 4 + ad.size ≤ 9223372036854775807 then (if ((⟨#[112, 117, 116, 32]⟩ : ByteArray) ++ ad).size + 1 ≤ 9223372036854775807 then ((spec_l15Step.f k ak).bind fun al => (if (((⟨#[112, 117, 116, 32]⟩ : ByteArray) ++ ad) ++ (⟨#[32]⟩ : ByteArray)).size + al.size ≤ 9223372036854775807 then (some ((((⟨#[112, 117, 116, 32]⟩ : ByteArray) ++ ad) ++ (⟨#[32]⟩ : ByteArray)) ++ al)) else (none))) else (none)) else (none))) else (if (ai == 1 && (ak == 0)) = true then ((spec_l15Step.f k aj).bind fun am => (if 5 + am.size ≤ 9223372036854775807 then (some ((⟨#[115, 116, 101, 112, 32]⟩ : ByteArray) ++ am)) else (none))) else (if (ai == 2 && (ak == 0)) = true then ((spec_l15Step.f k aj).bind fun an => (if 5 + an.size ≤ 9223372036854775807 then (some ((⟨#[100, 114, 97, 119, 32]⟩ : ByteArray) ++ an)) else (none))) else (if (ai == 3 && (aj == 0 && (ak == 0))) = true then (some (⟨#[97, 103, 97, 105, 110]⟩ : ByteArray)) else (if (ai == 4 && (aj == 0 && (ak == 0))) = true then (some (⟨#[98, 97, 99, 107]⟩ : ByteArray)) else (some (⟨#[]⟩ : ByteArray)))))))
def spec_DeedText.f (k : Nat) (a0_0 : Int) (a0_1 : Int) (a0_2 : Int) : Option (ByteArray) := (spec_l1In.f a0_1 (-99) 99).bind fun aB => (if aB = true then ((spec_l1In.f a0_2 (-99) 99).bind fun ao => (spec_DeedText.j0 k (!ao) a0_0 a0_1 a0_2)) else (spec_DeedText.j0 k true a0_0 a0_1 a0_2))
theorem spec_DeedText.mono_l : ∀ k, (∀ y0 y1 y2 y3, LeO (spec_DeedText.j0 k y0 y1 y2 y3) (spec_DeedText.j0 (k + 1) y0 y1 y2 y3))
 | 0 => fun _ _ _ _ r h => by simp [spec_DeedText.j0] at h
 | k + 1 => by
  have ih0 := spec_DeedText.mono_l k
  ·
   intro y0 y1 y2 y3
   unfold spec_DeedText.j0
   repeat' (with_reducible first | exact ih0 _ _ _ _ | exact spec_l15Step.mono _ _ | exact mr_ | exact mn_ | refine mi_ ?_ ?_ | refine mb_ ?_ (fun _ => ?_))
theorem spec_DeedText.mono : ∀ a0 a1 a2 k, LeO (spec_DeedText.f k a0 a1 a2) (spec_DeedText.f (k + 1) a0 a1 a2) := by
 intro a0 a1 a2 k
 have ih0 := spec_DeedText.mono_l k
 unfold spec_DeedText.f
 repeat' (with_reducible first | exact ih0 _ _ _ _ | exact spec_l15Step.mono _ _ | exact mr_ | exact mn_ | refine mi_ ?_ ?_ | refine mb_ ?_ (fun _ => ?_))
def spec_DeedText.T5 : Bool × List (List Nat × List Nat) := (true, [([], []), ([0], [0]), ([1], [1]), ([2], [2]), ([3], [3]), ([], []), ([5], [5]), ([6, 2], [6]), ([4, 7], [4, 7]), ([8, 7, 0, 1, 2, 3, 4, 5, 6, 7, 8], [8])])
def spec_DeedText.B5 : List Nat := [0, 1, 3, 7, 15, 0, 32, 103, 255, 511]
theorem spec_DeedText.tab5 : rtab .any (opsOf Tryz.f47 5) = spec_DeedText.T5 := by kernel_rfl
theorem spec_DeedText.bits5 : waitsOk spec_DeedText.T5.2 spec_DeedText.B5 = true := by kernel_rfl
set_option maxHeartbeats 8000000 in
set_option maxRecDepth 100000 in
theorem spec_DeedText.calls (k : Nat) (a0_0 : Int) (a0_1 : Int) (a0_2 : Int) (r : ByteArray) (w : World) (h : spec_DeedText.f k a0_0 a0_1 a0_2 = some r) :
  Calls Tryz.prog 47 #[.agg #[.int .i64 a0_0, .int .i64 a0_1, .int .i64 a0_2]] w fun e w' => e = .returned (.string r) ∧ Below w.heap.size w w' := by
 have hu34 := Tryz.underlying34
 have HB := Aside0.mk (Below.refl w.heap.size w)
 have H : ((spec_l1In.f a0_1 (-99) 99).bind fun aB => (if aB = true then ((spec_l1In.f a0_2 (-99) 99).bind fun ao => (spec_DeedText.j0 k (!ao) a0_0 a0_1 a0_2)) else (spec_DeedText.j0 k true a0_0 a0_1 a0_2))) = some r := h
 clear h
 have HC2 := Aside0.mk H
 clear H
 go_enter Tryz.func47, Tryz.ntmps47
 go_upto_region 1 with (first | ((with_reducible refine gate_dst (N := 1) rfl ?_); refine box_event ?hg (N := 1) ?hd (cs := #[.int .i64 a0_0, .int .i64 a0_1, .int .i64 a0_2]) (t := 34) ?hr ?_; (case hd => rfl); (case hg => rfl); (case hr => first | (go_simp; done) | (go_simp; rfl)); intro aq hg w3 hbox hb; have aa := Aside0.mk (hbox); have cD := gx_ HB hg; have cE := gx_ HB hg; replace HB := bs_ HB hb; clear hb hbox hg))
 (try simp only [Act.put, sa_, sb_, sc_])
 go_cut [12] (fun dl wc => ∃ (kq : Nat) (ar : Bool), dl = .bool ar ∧ Aside0 (spec_DeedText.j0 kq ar a0_0 a0_1 a0_2 = some r) ∧ Aside0 (kq ≤ k) ∧ Aside0 (wc.heap[aq]? = some (.cells #[.int .i64 a0_0, .int .i64 a0_1, .int .i64 a0_2] 34 (0, 0))) ∧ Aside0 (Below w.heap.size w wc))
 case first =>
  have H := HC2.out
  clear HC2
  obtain ⟨aB, A4, H⟩ := bnd_ H
  try dsimp only at H
  by_cases c5 : aB = true
  ·
   subst c5
   have H1 : ((spec_l1In.f a0_2 (-99) 99).bind fun ao => (spec_DeedText.j0 k (!ao) a0_0 a0_1 a0_2)) = some r := by rw [if_pos rfl] at H; exact H
   clear H
   have H := H1
   clear H1
   obtain ⟨ao, A6, H⟩ := bnd_ H
   try dsimp only at H
   have H' := Aside0.mk H
   clear H
   have av := cz_ aa 0
   have aw := cz_ aa 1
   have ax := cz_ aa 2
   have ay := blk_frozen aa.out 0
   have az := blk_frozen aa.out 1
   have aA := blk_frozen aa.out 2
   go_wp2_with (first | ((with_reducible refine gate_callee (f := 67) rfl ?_); refine gl_ (some 5) Tryz.func67 #[.int .i64 a0_1, .int .i64 (-99), .int .i64 99] ?_; (with_reducible refine (spec_l1In.calls a0_1 (-99) 99 true _ A4.out).mono ?_); rintro e w' ⟨rfl, ⟨nd, rfl⟩⟩; refine ⟨_, rfl, ?_⟩) | (go_at_call 67; (with_reducible refine (spec_l1In.calls a0_2 (-99) 99 ao _ A6.out).mono ?_); rintro e w' ⟨rfl, ⟨nd, rfl⟩⟩))
   go_meet
   case rel => exact ⟨_, (!ao), tx_, H', ⟨by first | omega | exact Nat.le_refl _⟩, ⟨tk_ aa.out⟩, ⟨(tb_ HB.out)⟩⟩
  ·
   replace c5 := Bool.eq_false_iff.mpr c5
   subst c5
   have H1 : (spec_DeedText.j0 k true a0_0 a0_1 a0_2) = some r := by rw [if_neg (show ¬ (false = true) by decide)] at H; exact H
   clear H
   have H := H1
   clear H1
   have H' := Aside0.mk H
   clear H
   have aZ := cz_ aa 0
   have a3 := cz_ aa 1
   have a4 := cz_ aa 2
   have a5 := blk_frozen aa.out 0
   have a6 := blk_frozen aa.out 1
   have a7 := blk_frozen aa.out 2
   go_wp2_with (first | ((with_reducible refine gate_callee (f := 67) rfl ?_); refine gl_ (some 5) Tryz.func67 #[.int .i64 a0_1, .int .i64 (-99), .int .i64 99] ?_; (with_reducible refine (spec_l1In.calls a0_1 (-99) 99 false _ A4.out).mono ?_); rintro e w' ⟨rfl, ⟨nd, rfl⟩⟩; refine ⟨_, rfl, ?_⟩))
   go_meet
   case rel => exact ⟨_, (true), tx_, H', ⟨by first | omega | exact Nat.le_refl _⟩, ⟨tk_ aa.out⟩, ⟨(tb_ HB.out)⟩⟩
 case rest =>
  clear HC2
  try clear p2
  try clear c4
  try clear c5
  try clear c6
  try clear av
  try clear aw
  try clear ax
  try clear aZ
  try clear a3
  try clear a4
  try clear ay
  try clear az
  try clear aA
  try clear a5
  try clear a6
  try clear a7
  obtain ⟨kq, ar, rfl, HA, HJ1, aa, HB⟩ := hcut
  cases kq with
  | zero => exact absurd HA.out (by simp [spec_DeedText.j0])
  | succ kj1 =>
   have H := HA.out
   clear HA
   simp only [spec_DeedText.j0] at H
   by_cases c9 : ar = true
   ·
    subst c9
    have H1 : (some (⟨#[]⟩ : ByteArray)) = some r := by rw [if_pos rfl] at H; exact H
    clear H
    have H := H1
    clear H1
    obtain rfl := Option.some.inj H
    go_wp2
    go_ret
    exact ⟨tw_, (tb_ HB.out)⟩
   ·
    replace c9 := Bool.eq_false_iff.mpr c9
    subst c9
    have H1 : (if (a0_0 == 0) = true then ((spec_l15Step.f kj1 a0_1).bind fun ad => (if 4 + ad.size ≤ 9223372036854775807 then (if ((⟨#[112, 117, 116, 32]⟩ : ByteArray) ++ ad).size + 1 ≤ 9223372036854775807 then ((spec_l15Step.f kj1 a0_2).bind fun al => (if (((⟨#[112, 117, 116, 32]⟩ : ByteArray) ++ ad) ++ (⟨#[32]⟩ : ByteArray)).size + al.size ≤ 9223372036854775807 then (some ((((⟨#[112, 117, 116, 32]⟩ : ByteArray) ++ ad) ++ (⟨#[32]⟩ : ByteArray)) ++ al)) else (none))) else (none)) else (none))) else (if (a0_0 == 1 && (a0_2 == 0)) = true then ((spec_l15Step.f kj1 a0_1).bind fun am => (if 5 + am.size ≤ 9223372036854775807 then (some ((⟨#[115, 116, 101, 112, 32]⟩ : ByteArray) ++ am)) else (none))) else (if (a0_0 == 2 && (a0_2 == 0)) = true then ((spec_l15Step.f kj1 a0_1).bind fun an => (if 5 + an.size ≤ 9223372036854775807 then (some ((⟨#[100, 114, 97, 119, 32]⟩ : ByteArray) ++ an)) else (none))) else (if (a0_0 == 3 && (a0_1 == 0 && (a0_2 == 0))) = true then (some (⟨#[97, 103, 97, 105, 110]⟩ : ByteArray)) else (if (a0_0 == 4 && (a0_1 == 0 && (a0_2 == 0))) = true then (some (⟨#[98, 97, 99, 107]⟩ : ByteArray)) else (some (⟨#[]⟩ : ByteArray))))))) = some r := by rw [if_neg (show ¬ (false = true) by decide)] at H; exact H
    clear H
    have H := H1
    clear H1
    by_cases c10 : (a0_0 == 0) = true
    ·
     rw [if_pos c10] at H
     have bb : (a0_0 == 0) = true := c10
     (try (have bc : decide (a0_0 = 0) = true := by simpa using c10))
     (try (have bd : (a0_0 == 0) = true := by simpa using c10))
     clear c10
     obtain ⟨ad, A11, H⟩ := bnd_ H
     try dsimp only at H
     by_cases c12 : 4 + ad.size ≤ 9223372036854775807
     ·
      rw [if_pos c12] at H
      have cF := eq_true c12
      have cG : decide (4 + ad.size ≤ 9223372036854775807) = true := decide_eq_true c12
      try have cH : (9223372036854775807 < 4 + ad.size) = False := eq_false (Nat.not_lt.2 c12)
      by_cases c13 : ((⟨#[112, 117, 116, 32]⟩ : ByteArray) ++ ad).size + 1 ≤ 9223372036854775807
      ·
       rw [if_pos c13] at H
       have cI := eq_true c13
       have cJ : decide (((⟨#[112, 117, 116, 32]⟩ : ByteArray) ++ ad).size + 1 ≤ 9223372036854775807) = true := decide_eq_true c13
       try have cK : (9223372036854775807 < ((⟨#[112, 117, 116, 32]⟩ : ByteArray) ++ ad).size + 1) = False := eq_false (Nat.not_lt.2 c13)
       try have cL : (9223372036854775807 < 4 + ad.size + 1) = False := eq_false (by have h := c13; simp only [ByteArray.size_append] at h; simp only [ByteArray.size] at h ⊢; simp at h ⊢; omega)
       obtain ⟨al, A14, H⟩ := bnd_ H
       try dsimp only at H
       by_cases c15 : (((⟨#[112, 117, 116, 32]⟩ : ByteArray) ++ ad) ++ (⟨#[32]⟩ : ByteArray)).size + al.size ≤ 9223372036854775807
       ·
        rw [if_pos c15] at H
        have cM := eq_true c15
        have cN : decide ((((⟨#[112, 117, 116, 32]⟩ : ByteArray) ++ ad) ++ (⟨#[32]⟩ : ByteArray)).size + al.size ≤ 9223372036854775807) = true := decide_eq_true c15
        try have cO : (9223372036854775807 < (((⟨#[112, 117, 116, 32]⟩ : ByteArray) ++ ad) ++ (⟨#[32]⟩ : ByteArray)).size + al.size) = False := eq_false (Nat.not_lt.2 c15)
        try have cP : (9223372036854775807 < 4 + ad.size + 1 + al.size) = False := eq_false (by have h := c15; simp only [ByteArray.size_append] at h; simp only [ByteArray.size] at h ⊢; simp at h ⊢; omega)
        obtain rfl := Option.some.inj H
        have aC := cz_ aa 0
        have aD := cz_ aa 1
        have aE := cz_ aa 2
        have aF := blk_frozen aa.out 0
        have aG := blk_frozen aa.out 1
        have aH := blk_frozen aa.out 2
        try go_wp2
        replace aa := dB_ aa
        replace HB := Aside0.mk (ld_ HB.out)
        refine start_ (n := 10) (S := fun w' => w'.cell? ⟨aq, 0, none⟩ = some (.int .i64 a0_0) ∧ w'.cell? ⟨aq, 1, none⟩ = some (.int .i64 a0_1) ∧ w'.cell? ⟨aq, 2, none⟩ = some (.int .i64 a0_2)) (ds := []) #[false, false, false, false, false, false, false, false, false, false] (by kernel_rfl) rfl rfl hh_ (fun hHeld => ?_); refine with_tabW spec_DeedText.tab5 spec_DeedText.bits5 (fun HT_ HW_ => ?_)
        generalize wc.drew = da at aa HB hHeld ⊢
        refine pu_ 0 (some 21) #[true, false, false, false, false, false, false, false, false, false] HT_ rfl rfl ?_
        refine pu_ 5 (some 26) #[true, false, false, false, false, true, false, false, false, false] HT_ rfl rfl ?_
        refine ta_ 1 (some 22) #[true, true, false, false, false, true, false, false, false, false] HT_ HW_ hHeld rfl rfl ?_
        refine ta_ 6 (some 27) #[true, true, false, false, false, true, true, false, false, false] HT_ HW_ hHeld rfl rfl ?_
        refine one_ (i := 2) (N := some 23) #[true, true, true, false, false, true, true, false, false, false] rfl rfl (one_of HT_.out (by kernel_rfl)) (by decide) (fun K hK => ?_)
        refine goes_ Tryz.func73 (by kernel_rfl) rfl #[.int .i64 a0_1] (by rfl) rfl rfl tz_ ?_
        with_reducible refine (spec_l15Step.calls kj1 a0_1 ad _ A11.out).mono ?_
        rintro e db ⟨rfl, hb⟩
        refine ⟨_, rfl, ?_⟩
        replace aa := bb_ aa hb
        replace HB := bs_ HB hb
        (try clear hb)
        (try clear hb2)
        (try clear hk)
        (try clear hi)
        refine hK.out _ _ hh_ (fun hHeld => ?_)
        clear hK K
        refine nr_ 23 ?_
        refine pu_ 3 (some 24) #[true, true, true, true, false, true, true, false, false, false] HT_ rfl rfl ?_
        refine pu_ 4 (some 25) #[true, true, true, true, true, true, true, false, false, false] HT_ rfl rfl ?_
        refine one_ (i := 7) (N := some 28) #[true, true, true, true, true, true, true, true, false, false] rfl rfl (one_of HT_.out (by kernel_rfl)) (by decide) (fun K hK => ?_)
        refine goes_ Tryz.func73 (by kernel_rfl) rfl #[.int .i64 a0_2] (by rfl) rfl rfl tz_ ?_
        with_reducible refine (spec_l15Step.calls kj1 a0_2 al _ A14.out).mono ?_
        rintro e dq ⟨rfl, hb⟩
        refine ⟨_, rfl, ?_⟩
        replace aa := bb_ aa hb
        replace HB := bs_ HB hb
        (try clear hb)
        (try clear hb2)
        (try clear hk)
        (try clear hi)
        refine hK.out _ _ hh_ (fun hHeld => ?_)
        clear hK K
        refine nr_ 28 ?_
        refine pu_ 8 (some 29) #[true, true, true, true, true, true, true, true, true, false] HT_ rfl rfl ?_
        refine pu_ 9 (some 2) #[true, true, true, true, true, true, true, true, true, true] HT_ rfl rfl ?_
        refine done_ (done_of HT_.out (by kernel_rfl)) ?_
        try go_wp2
        go_ret
        exact ⟨tw_, (tb_ HB.out)⟩
       ·
        rw [if_neg c15] at H
        exact absurd H (by simp)
      ·
       rw [if_neg c13] at H
       exact absurd H (by simp)
     ·
      rw [if_neg c12] at H
      exact absurd H (by simp)
    ·
     rw [if_neg c10] at H
     have bb : (a0_0 == 0) = false := by simpa using c10
     (try (have bc : decide (a0_0 = 0) = false := by simpa using c10))
     (try (have bd : (a0_0 == 0) = false := by simpa using c10))
     (try (have cQ : ¬ (a0_0 = 0) := by simpa using c10))
     clear c10
     by_cases c20 : (a0_0 == 1 && (a0_2 == 0)) = true
     ·
      rw [if_pos c20] at H
      have be : (a0_0 == 1 && (a0_2 == 0)) = true := c20
      (try (have bf : decide (a0_0 = 1 && (a0_2 == 0)) = true := by simpa using c20))
      (try (have bg : (a0_0 == 1 && (a0_2 == 0)) = true := by simpa using c20))
      clear c20
      obtain ⟨am, A21, H⟩ := bnd_ H
      try dsimp only at H
      by_cases c22 : 5 + am.size ≤ 9223372036854775807
      ·
       rw [if_pos c22] at H
       have cR := eq_true c22
       have cS : decide (5 + am.size ≤ 9223372036854775807) = true := decide_eq_true c22
       try have cT : (9223372036854775807 < 5 + am.size) = False := eq_false (Nat.not_lt.2 c22)
       obtain rfl := Option.some.inj H
       have aI := cz_ aa 0
       have aJ := cz_ aa 1
       have aK := cz_ aa 2
       have aL := blk_frozen aa.out 0
       have aM := blk_frozen aa.out 1
       have aN := blk_frozen aa.out 2
       go_wp2_with (first | ((with_reducible refine gate_callee (f := 73) rfl ?_); refine gl_ (some 37) Tryz.func73 #[.int .i64 a0_1] ?_; (with_reducible refine (spec_l15Step.calls kj1 a0_1 am _ A21.out).mono ?_); rintro e dg ⟨rfl, hb⟩; refine ⟨_, rfl, ?_⟩; replace aa := bb_ aa hb; replace HB := bs_ HB hb; (try clear hb); (try clear hb2); (try clear hk); (try clear hi)))
       go_ret
       exact ⟨tw_, (tb_ HB.out)⟩
      ·
       rw [if_neg c22] at H
       exact absurd H (by simp)
     ·
      rw [if_neg c20] at H
      have be : (a0_0 == 1 && (a0_2 == 0)) = false := by simpa using c20
      (try (have bf : decide (a0_0 = 1 && (a0_2 == 0)) = false := by simpa using c20))
      (try (have bg : (a0_0 == 1 && (a0_2 == 0)) = false := by simpa using c20))
      (try (have cU : ¬ (a0_0 = 1 && (a0_2 == 0)) := by simpa using c20))
      clear c20
      by_cases c25 : (a0_0 == 2 && (a0_2 == 0)) = true
      ·
       rw [if_pos c25] at H
       have bh : (a0_0 == 2 && (a0_2 == 0)) = true := c25
       (try (have bi : decide (a0_0 = 2 && (a0_2 == 0)) = true := by simpa using c25))
       (try (have bj : (a0_0 == 2 && (a0_2 == 0)) = true := by simpa using c25))
       clear c25
       obtain ⟨an, A26, H⟩ := bnd_ H
       try dsimp only at H
       by_cases c27 : 5 + an.size ≤ 9223372036854775807
       ·
        rw [if_pos c27] at H
        have cV := eq_true c27
        have cW : decide (5 + an.size ≤ 9223372036854775807) = true := decide_eq_true c27
        try have cX : (9223372036854775807 < 5 + an.size) = False := eq_false (Nat.not_lt.2 c27)
        obtain rfl := Option.some.inj H
        have bZ := cz_ aa 0
        have b0 := cz_ aa 1
        have b1 := cz_ aa 2
        have b2 := blk_frozen aa.out 0
        have b3 := blk_frozen aa.out 1
        have b4 := blk_frozen aa.out 2
        go_wp2_with (first | ((with_reducible refine gate_callee (f := 73) rfl ?_); refine gl_ (some 46) Tryz.func73 #[.int .i64 a0_1] ?_; (with_reducible refine (spec_l15Step.calls kj1 a0_1 an _ A26.out).mono ?_); rintro e dr ⟨rfl, hb⟩; refine ⟨_, rfl, ?_⟩; replace aa := bb_ aa hb; replace HB := bs_ HB hb; (try clear hb); (try clear hb2); (try clear hk); (try clear hi)))
        go_ret
        exact ⟨tw_, (tb_ HB.out)⟩
       ·
        rw [if_neg c27] at H
        exact absurd H (by simp)
      ·
       rw [if_neg c25] at H
       have bh : (a0_0 == 2 && (a0_2 == 0)) = false := by simpa using c25
       (try (have bi : decide (a0_0 = 2 && (a0_2 == 0)) = false := by simpa using c25))
       (try (have bj : (a0_0 == 2 && (a0_2 == 0)) = false := by simpa using c25))
       (try (have cY : ¬ (a0_0 = 2 && (a0_2 == 0)) := by simpa using c25))
       clear c25
       by_cases c30 : (a0_0 == 3 && (a0_1 == 0 && (a0_2 == 0))) = true
       ·
        rw [if_pos c30] at H
        have bk : (a0_0 == 3 && (a0_1 == 0 && (a0_2 == 0))) = true := c30
        (try (have bl : decide (a0_0 = 3 && (a0_1 == 0 && (a0_2 == 0))) = true := by simpa using c30))
        (try (have bm : (a0_0 == 3 && (a0_1 == 0 && (a0_2 == 0))) = true := by simpa using c30))
        clear c30
        obtain rfl := Option.some.inj H
        have b5 := cz_ aa 0
        have b6 := cz_ aa 1
        have b7 := cz_ aa 2
        have b8 := blk_frozen aa.out 0
        have b9 := blk_frozen aa.out 1
        have ca := blk_frozen aa.out 2
        go_wp2
        go_ret
        exact ⟨tw_, (tb_ HB.out)⟩
       ·
        rw [if_neg c30] at H
        have bk : (a0_0 == 3 && (a0_1 == 0 && (a0_2 == 0))) = false := by simpa using c30
        (try (have bl : decide (a0_0 = 3 && (a0_1 == 0 && (a0_2 == 0))) = false := by simpa using c30))
        (try (have bm : (a0_0 == 3 && (a0_1 == 0 && (a0_2 == 0))) = false := by simpa using c30))
        (try (have cZ : ¬ (a0_0 = 3 && (a0_1 == 0 && (a0_2 == 0))) := by simpa using c30))
        clear c30
        by_cases c32 : (a0_0 == 4 && (a0_1 == 0 && (a0_2 == 0))) = true
        ·
         rw [if_pos c32] at H
         have bn : (a0_0 == 4 && (a0_1 == 0 && (a0_2 == 0))) = true := c32
         (try (have bo : decide (a0_0 = 4 && (a0_1 == 0 && (a0_2 == 0))) = true := by simpa using c32))
         (try (have bp : (a0_0 == 4 && (a0_1 == 0 && (a0_2 == 0))) = true := by simpa using c32))
         clear c32
         obtain rfl := Option.some.inj H
         have cb := cz_ aa 0
         have cc := cz_ aa 1
         have cd := cz_ aa 2
         have ce := blk_frozen aa.out 0
         have cf := blk_frozen aa.out 1
         have cg := blk_frozen aa.out 2
         go_wp2
         go_ret
         exact ⟨tw_, (tb_ HB.out)⟩
        ·
         rw [if_neg c32] at H
         have bn : (a0_0 == 4 && (a0_1 == 0 && (a0_2 == 0))) = false := by simpa using c32
         (try (have bo : decide (a0_0 = 4 && (a0_1 == 0 && (a0_2 == 0))) = false := by simpa using c32))
         (try (have bp : (a0_0 == 4 && (a0_1 == 0 && (a0_2 == 0))) = false := by simpa using c32))
         (try (have c0 : ¬ (a0_0 = 4 && (a0_1 == 0 && (a0_2 == 0))) := by simpa using c32))
         clear c32
         obtain rfl := Option.some.inj H
         have ch := cz_ aa 0
         have ci := cz_ aa 1
         have cj := cz_ aa 2
         have ck := blk_frozen aa.out 0
         have cl := blk_frozen aa.out 1
         have cm := blk_frozen aa.out 2
         go_wp2
         go_ret
         exact ⟨tw_, (tb_ HB.out)⟩

end Go.Proofs.YtfibbdefcppfcaaGreatDoor.MFnExactStoreMend
