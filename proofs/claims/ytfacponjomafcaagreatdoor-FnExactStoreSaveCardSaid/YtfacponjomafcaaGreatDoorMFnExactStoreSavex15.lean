/- For the law FnExactStoreSave: walks of the functions that it reaches: each call returns what the plain function beside it tells. The conditions stand in each statement. -/
import Derived.Test.YtfacponjomafcaaGreatDoorV
import Derived.Test.YtfacponjomafcaaGreatDoorMFnExactStoreSavex0
import Derived.Test.YtfacponjomafcaaGreatDoorMFnExactStoreSavex5
import Derived.Test.YtfacponjomafcaaGreatDoorMFnExactStoreSavex7
import Derived.Test.YtfacponjomafcaaGreatDoorMFnExactStoreSavex8
import Derived.Test.YtfacponjomafcaaGreatDoorMFnExactStoreSavex9
import Derived.Test.YtfacponjomafcaaGreatDoorMFnExactStoreSavex14
namespace Go.Proofs.YtfacponjomafcaaGreatDoor.MFnExactStoreSave
open Go.RowKit Go.Proofs.YtfacponjomafcaaGreatDoorW.PrintWords Go.Proofs.YtfacponjomafcaaGreatDoorW.PrintLast Go.Proofs.YtfacponjomafcaaGreatDoorW.PrintMore
attribute [local go_sem] max2_int min2_int max_two min_two max_three min_three max_four min_four   -- for this text's walks alone
set_option linter.unusedVariables false
set_option linter.unusedSimpArgs false
set_option maxHeartbeats 8000000
set_option maxRecDepth 100000

/-! ### spec_StoreOpen: function 29 -/
def spec_StoreOpen.f (k : Nat) (a0_0 : ByteArray) (a0_1 : ByteArray) (a0_2 : Int) : Option (List Int × Int × List Int × (List (S25)) × Bool) := (spec_StoreOk.f k a0_0 a0_1 a0_2).bind fun bP => (if bP = true then ((spec_ReadPlace.f k a0_0).bind fun au => ((spec_ReadJournal.f k a0_1).bind fun aX => ((spec_l15Run.f k au.1 au.2.1 au.2.2.1 ([] : List (S25)) aX.1).bind fun an => (some (an.1, an.2.1, an.2.2.1, an.2.2.2.1, true))))) else (some (([] : List Int), 0, ([] : List Int), ([] : List (S25)), false)))
theorem spec_StoreOpen.calls (k : Nat) (a0_0 : ByteArray) (a0_1 : ByteArray) (a0_2 : Int) (r1 : List Int) (r2 : Int) (r3 : List Int) (r4 : List (S25)) (r5 : Bool) (w : World) (h : spec_StoreOpen.f k a0_0 a0_1 a0_2 = some (r1, r2, r3, r4, r5)) :
  Calls Tryz.prog 29 #[.agg #[.string a0_0, .string a0_1, .int .i64 a0_2]] w fun e w' => ∃ v0_ v2_ v3_ : Value, e = .returned (.tuple #[.agg #[v0_, .int .i64 r2, v2_, v3_], .bool r5]) ∧ Kd.R (Kd.int .i64) 3 w' w.heap.size (fun _ => True) v0_ r1 ∧ Kd.R (Kd.int .i64) 3 w' w.heap.size (fun _ => True) v2_ r3 ∧ Kd.Q k25 25 w' w.heap.size (fun _ => True) v3_ r4 ∧ Below w.heap.size w w' := by
 have hu28 := Tryz.underlying28; have hu34 := Tryz.underlying34; have hu25 := Tryz.underlying25; have HB := A_ (Below.refl w.heap.size w); have H : ((spec_StoreOk.f k a0_0 a0_1 a0_2).bind fun bP => (if bP = true then ((spec_ReadPlace.f k a0_0).bind fun au => ((spec_ReadJournal.f k a0_1).bind fun aX => ((spec_l15Run.f k au.1 au.2.1 au.2.2.1 ([] : List (S25)) aX.1).bind fun an => (some (an.1, an.2.1, an.2.2.1, an.2.2.2.1, true))))) else (some (([] : List Int), 0, ([] : List Int), ([] : List (S25)), false)))) = some (r1, r2, r3, r4, r5) := h; clear h; obtain ⟨bP, A2, H⟩ := bnd_ H; (try dsimp only at H); by_cases c3 : bP = true
 ·
  subst c3; replace H : ((spec_ReadPlace.f k a0_0).bind fun au => ((spec_ReadJournal.f k a0_1).bind fun aX => ((spec_l15Run.f k au.1 au.2.1 au.2.2.1 ([] : List (S25)) aX.1).bind fun an => (some (an.1, an.2.1, an.2.2.1, an.2.2.2.1, true))))) = some (r1, r2, r3, r4, r5) := by rw [if_pos rfl] at H; exact H
  obtain ⟨⟨a9, bb, bc, d3⟩, A4, H⟩ := bnd_ H; (try dsimp only at H); obtain ⟨⟨cj, d4⟩, A5, H⟩ := bnd_ H; (try dsimp only at H); obtain ⟨⟨aY, aZ, a3, a4, d5⟩, A6, H⟩ := bnd_ H; (try dsimp only at H); simp only [Option.some.injEq, Prod.mk.injEq] at H; obtain ⟨rfl, rfl, rfl, rfl, rfl⟩ := H; go_enter Tryz.func29, Tryz.ntmps29; go_wp2_with (first | ((with_reducible refine gate_dst (N := 1) rfl ?_); refine be_ 1 #[.string a0_0, .string a0_1, .int .i64 a0_2] 28 ?_; intro cu hg w7 aa hb; have cv := gx_ HB hg; have cw := gx_ HB hg; replace HB := bs_ HB hb; clear hb hg) | ((with_reducible refine gate_dst (N := 2) rfl ?_); refine be_ 2 #[.slice none 0 0, .int .i64 0, .slice none 0 0, .slice none 0 0] 34 ?_; intro am hg w8 ab hb; have cx := gx_ HB hg; have cy := gx_ HB hg; replace HB := bs_ HB hb; have aC := nl_ aa hg; have aD := ng_ aa hg; replace aa := bb_ aa hb; clear hb hg; have fl := aC.out; have fm := aD.out; obtain ⟨bW, bX, bZ, b0, b1, b2⟩ := cf3_ aa) | ((with_reducible refine gate_callee (f := 52) rfl ?_); refine gl_ (some 11) Tryz.func52 #[.agg #[.string a0_0, .string a0_1, .int .i64 a0_2]] ?_; (with_reducible refine (spec_StoreOk.calls k a0_0 a0_1 a0_2 true _ A2.out).mono ?_); rintro e fP ⟨rfl, hb⟩; refine ⟨_, rfl, ?_⟩; replace aa := bb_ aa hb; replace ab := bb_ ab hb; replace HB := bs_ HB hb; (try clear hb); obtain ⟨cO, cP, cQ, cR, cS, cT⟩ := cf3_ aa) | ((with_reducible refine gate_callee (f := 53) rfl ?_); refine gl_ (some 17) Tryz.func53 #[.string a0_0] ?_; (with_reducible refine (spec_ReadPlace.calls k a0_0 a9 bb bc d3 _ A4.out).mono ?_); rintro e fn ⟨fo, fp, rfl, ho0, ho1, hb⟩; refine ⟨_, rfl, ?_⟩; have ao := rx_ ho0 HB; have ap := rx_ ho1 HB; replace aa := bb_ aa hb; replace ab := bb_ ab hb; replace HB := bs_ HB hb; (try clear hb ho0 ho1)) | ((with_reducible refine gate_dst (N := 4) rfl ?_); refine be_ 4 #[.slice none 0 0, .int .i64 0, .slice none 0 0] 25 ?_; intro aL hg fQ ai hb; replace ao := rb_ ao hb; replace ap := rb_ ap hb; have eM := gx_ HB hg; have eN := gx_ HB hg; replace HB := bs_ HB hb; have bq := nl_ aa hg; have br := ng_ aa hg; replace aa := bb_ aa hb; have bs := nl_ ab hg; have bu := ng_ ab hg; replace ab := bb_ ab hb; clear hb hg; obtain ⟨aE, az, ck⟩ := Kd.R_slice ao.out; subst ck; have eO := br.out; have eP := bq.out; have eQ := bu.out; have eR := bs.out; obtain ⟨b3, b4, b5, b6, b7, b8⟩ := cf3_ ai; obtain ⟨bQ, bR, d6⟩ := Kd.R_slice ap.out; subst d6; obtain ⟨cU, cV, cW, cX, cY, cZ⟩ := cf3_ aa) | ((with_reducible refine gate_callee (f := 54) rfl ?_); refine gl_ (some 23) Tryz.func54 #[.string a0_1] ?_; (with_reducible refine (spec_ReadJournal.calls k a0_1 cj d4 _ A5.out).mono ?_); rintro e fR ⟨fq, rfl, ho0, hb⟩; refine ⟨_, rfl, ?_⟩; replace ao := A_ (Kd.R_below (wR_ ao ai) hb); replace ap := A_ (Kd.R_below (wR_ ap ai) hb); have aP := rx_ ho0 HB; replace aa := bb_ aa hb; replace ab := bb_ ab hb; replace ai := bp_ #[.slice aE a9.length az, .int .i64 bb, .slice bQ bc.length bR] ai hb; replace HB := bs_ HB hb; (try clear hb ho0); obtain ⟨b9, ca, cb, cc, cd, ce⟩ := cf3_ ai; obtain ⟨d7, d8, d9⟩ := Kd.R_slice aP.out; subst d9) | ((with_reducible refine gate_callee (f := 55) rfl ?_); refine gl_ (some 30) Tryz.func55 #[.agg #[.slice aE a9.length az, .int .i64 bb, .slice bQ bc.length bR, .slice none 0 0], .slice d7 cj.length d8] ?_; (refine (spec_l15Run.calls k _ _ a9 bb _ _ bc _ _ ([] : List (S25)) _ _ cj aY aZ a3 a4 d5 _ ?s1 ?s2 ?s3 ?s4 ?s5 ?s6 ?s7 ?s8 A6.out).mono ?_); (case s1 => exact rc_ ao); (case s2 => exact (ll_ ao)); (case s3 => exact rc_ ap); (case s4 => exact (ll_ ap)); (case s5 => exact Kd.C_nil _ _); (case s6 => exact Nat.le_refl _); (case s7 => exact rc_ aP); (case s8 => exact (ll_ aP)); rintro e fr ⟨fs, ft, fu, rfl, ho0, ho1, ho2, hb⟩; refine ⟨_, rfl, ?_⟩; replace aP := rb_ aP hb; have bl := rx_ (nR_ (nR_ ho0 (Kd.R_lt (rR_ ao.out))) (Kd.R_lt (rR_ ap.out))) HB; have bm := rx_ (nR_ (nR_ ho1 (Kd.R_lt (rR_ ao.out))) (Kd.R_lt (rR_ ap.out))) HB; have bn := qx_ (Kd.Q_newB (nQ_ (nQ_ ho2 (Kd.R_lt (rR_ ao.out))) (Kd.R_lt (rR_ ap.out))) (g := aL) (o := .cells #[.slice aE a9.length az, .int .i64 bb, .slice bQ bc.length bR] 25 (0, 0)) (tk_ ai.out)) HB; replace ao := eR_ (tR_ (tR_ (Kd.R_old (rR_ ao.out) hb) ho0) ho1); replace ap := eR_ (tR_ (tR_ (Kd.R_old (rR_ ap.out) hb) ho0) ho1); replace aa := bb_ aa hb; replace ab := bb_ ab hb; replace ai := bb_ ai hb; replace HB := bs_ HB hb; (try clear hb ho0 ho1 ho2)) | ((with_reducible refine gate_dst (N := 8) rfl ?_); refine be_ 8 #[.slice none 0 0, .int .i64 0, .slice none 0 0, .slice none 0 0] 34 ?_; intro ar hg fS av hb; replace ao := rb_ ao hb; replace ap := rb_ ap hb; replace aP := rb_ aP hb; replace bl := rb_ bl hb; replace bm := rb_ bm hb; replace bn := A_ (Kd.Q_below (rQ_ bn.out) hb); have eS := gx_ HB hg; have eT := gx_ HB hg; replace HB := bs_ HB hb; have bv := nl_ aa hg; have bw := ng_ aa hg; replace aa := bb_ aa hb; have bx := nl_ ab hg; have bz := ng_ ab hg; replace ab := bb_ ab hb; have bB := nl_ ai hg; have bC := ng_ ai hg; replace ai := bb_ ai hb; clear hb hg; obtain ⟨bd, be, ea⟩ := Kd.R_slice bl.out; subst ea; have cz := bw.out; have cA := bv.out; have eU := bz.out; have eV := bx.out; have eW := bC.out; have eX := bB.out; obtain ⟨da, db, dc, dd, de, df, dg, dh⟩ := cf4_ av; obtain ⟨bf, bg, eb⟩ := Kd.R_slice bm.out; subst eb; obtain ⟨bh, bi, ec, _⟩ := Kd.Q_slice bn.out; subst ec; obtain ⟨di, dj, dk, dl, dm, dn, dp, dq⟩ := cf4_ ab)); refine bodyPost_ret (results_ct rfl _ _ am 34 #[.slice bd aY.length be, .int .i64 aZ, .slice bf a3.length bg, .slice bh a4.length bi] (0, 0) _ rfl (ps_ ab.out) Tryz.underlying34 rfl (by kernel_rfl)) rfl ?_; exact ⟨_, _, _, tw_, Kd.R_mono (zR_ bl av ab) (fun _ hk => trivial), Kd.R_mono (zR_ bm av ab) (fun _ hk => trivial), Kd.Q_mono (zQ_ bn av ab) (fun _ hk => trivial), (tb_ HB.out)⟩
 ·
  replace c3 := Bool.eq_false_iff.mpr c3; subst c3; replace H : (some (([] : List Int), 0, ([] : List Int), ([] : List (S25)), false)) = some (r1, r2, r3, r4, r5) := by rw [if_neg (show ¬ (false = true) by decide)] at H; exact H
  simp only [Option.some.injEq, Prod.mk.injEq] at H; obtain ⟨rfl, rfl, rfl, rfl, rfl⟩ := H; go_enter Tryz.func29, Tryz.ntmps29; go_wp2_with (first | ((with_reducible refine gate_dst (N := 1) rfl ?_); refine be_ 1 #[.string a0_0, .string a0_1, .int .i64 a0_2] 28 ?_; intro cu hg fT aa hb; have cv := gx_ HB hg; have cw := gx_ HB hg; replace HB := bs_ HB hb; clear hb hg) | ((with_reducible refine gate_dst (N := 2) rfl ?_); refine be_ 2 #[.slice none 0 0, .int .i64 0, .slice none 0 0, .slice none 0 0] 34 ?_; intro am hg fU ab hb; have cx := gx_ HB hg; have cy := gx_ HB hg; replace HB := bs_ HB hb; have aC := nl_ aa hg; have aD := ng_ aa hg; replace aa := bb_ aa hb; clear hb hg; have eY := aC.out; have eZ := aD.out; obtain ⟨dr, ds, dt, du, dv, dw⟩ := cf3_ aa) | ((with_reducible refine gate_callee (f := 52) rfl ?_); refine gl_ (some 11) Tryz.func52 #[.agg #[.string a0_0, .string a0_1, .int .i64 a0_2]] ?_; (with_reducible refine (spec_StoreOk.calls k a0_0 a0_1 a0_2 false _ A2.out).mono ?_); rintro e fV ⟨rfl, hb⟩; refine ⟨_, rfl, ?_⟩; replace aa := bb_ aa hb; replace ab := bb_ ab hb; replace HB := bs_ HB hb; (try clear hb); obtain ⟨dx, dy, dz, dA, dB, dC, dD, dE⟩ := cf4_ ab)); refine bodyPost_ret (results_ct rfl _ _ am 34 #[.slice none 0 0, .int .i64 0, .slice none 0 0, .slice none 0 0] (0, 0) _ rfl (ps_ ab.out) Tryz.underlying34 rfl (by kernel_rfl)) rfl ?_; exact ⟨_, _, _, tw_, kn_, kn_, Kd.Q_of_R ((Kd.S_R (by first | exact Kd.S_nil _ _ _ _ _ | exact Kd.N_nil _ _ _ _ _ | exact Kd.V_nil _ _ _ _ _ | exact Kd.Q_nil _ _ _ _ _ | exact Kd.R_nil _ _ _ _ _))), (tb_ HB.out)⟩

/-! ### spec_StoreSave: function 14 -/
def spec_StoreSave.f (k : Nat) (a0_0 : ByteArray) (a0_1 : ByteArray) (a0_2 : Int) : Option (ByteArray × ByteArray × Int × Bool) := (spec_StoreOpen.f k a0_0 a0_1 a0_2).bind fun aA => (if aA.2.2.2.2 = true then ((spec_PlaceText.f k aA.1 aA.2.1 aA.2.2.1).bind fun a5 => (some (a5, (⟨#[]⟩ : ByteArray), 0, true))) else (some ((⟨#[]⟩ : ByteArray), (⟨#[]⟩ : ByteArray), 0, false)))
theorem spec_StoreSave.calls (k : Nat) (a0_0 : ByteArray) (a0_1 : ByteArray) (a0_2 : Int) (r1 : ByteArray) (r2 : ByteArray) (r3 : Int) (r4 : Bool) (w : World) (h : spec_StoreSave.f k a0_0 a0_1 a0_2 = some (r1, r2, r3, r4)) :
  Calls Tryz.prog 14 #[.agg #[.string a0_0, .string a0_1, .int .i64 a0_2]] w fun e w' => e = .returned (.tuple #[.agg #[.string r1, .string r2, .int .i64 r3], .bool r4]) ∧ Below w.heap.size w w' := by
 have hu28 := Tryz.underlying28; have hu34 := Tryz.underlying34; have hu25 := Tryz.underlying25; have HB := A_ (Below.refl w.heap.size w); have H : ((spec_StoreOpen.f k a0_0 a0_1 a0_2).bind fun aA => (if aA.2.2.2.2 = true then ((spec_PlaceText.f k aA.1 aA.2.1 aA.2.2.1).bind fun a5 => (some (a5, (⟨#[]⟩ : ByteArray), 0, true))) else (some ((⟨#[]⟩ : ByteArray), (⟨#[]⟩ : ByteArray), 0, false)))) = some (r1, r2, r3, r4) := h; clear h; obtain ⟨⟨aM, aQ, aN, a6, ed⟩, A2, H⟩ := bnd_ H; (try dsimp only at H); by_cases c3 : ed = true
 ·
  subst c3; replace H : ((spec_PlaceText.f k aM aQ aN).bind fun a5 => (some (a5, (⟨#[]⟩ : ByteArray), 0, true))) = some (r1, r2, r3, r4) := by rw [if_pos rfl] at H; exact H
  obtain ⟨a5, A4, H⟩ := bnd_ H; (try dsimp only at H); simp only [Option.some.injEq, Prod.mk.injEq] at H; obtain ⟨rfl, rfl, rfl, rfl⟩ := H; go_enter Tryz.func14, Tryz.ntmps14; go_wp2_with (first | ((with_reducible refine gate_dst (N := 1) rfl ?_); refine be_ 1 #[.string a0_0, .string a0_1, .int .i64 a0_2] 28 ?_; intro cB hg w5 ac hb; have cC := gx_ HB hg; have cD := gx_ HB hg; replace HB := bs_ HB hb; clear hb hg) | ((with_reducible refine gate_dst (N := 2) rfl ?_); refine be_ 2 #[.string (⟨#[]⟩ : ByteArray), .string (⟨#[]⟩ : ByteArray), .int .i64 0] 28 ?_; intro bS hg w6 ag hb; have cE := gx_ HB hg; have cF := gx_ HB hg; replace HB := bs_ HB hb; have aF := nl_ ac hg; have aG := ng_ ac hg; replace ac := bb_ ac hb; clear hb hg; have fv := aF.out; have fw := aG.out; obtain ⟨ee, ef, eg, eh, ei, ej⟩ := cf3_ ac) | ((with_reducible refine gate_callee (f := 29) rfl ?_); refine gl_ (some 8) Tryz.func29 #[.agg #[.string a0_0, .string a0_1, .int .i64 a0_2]] ?_; (with_reducible refine (spec_StoreOpen.calls k a0_0 a0_1 a0_2 aM aQ aN a6 true _ A2.out).mono ?_); rintro e w9 ⟨ek, el, em, rfl, ho0, ho1, ho2, hb⟩; refine ⟨_, rfl, ?_⟩; have aw := rx_ ho0 HB; have ax := rx_ ho1 HB; have aB := A_ (Kd.Q_lower ho2 (below_size (tb_ HB.out))); replace ac := bb_ ac hb; replace ag := bb_ ag hb; replace HB := bs_ HB hb; (try clear hb ho0 ho1 ho2)) | ((with_reducible refine gate_dst (N := 4) rfl ?_); refine be_ 4 #[.slice none 0 0, .int .i64 0, .slice none 0 0, .slice none 0 0] 34 ?_; intro ak hg fW ah hb; replace aw := rb_ aw hb; replace ax := rb_ ax hb; replace aB := A_ (Kd.Q_below (rQ_ aB.out) hb); have cG := gx_ HB hg; have cH := gx_ HB hg; replace HB := bs_ HB hb; have aH := nl_ ac hg; have aI := ng_ ac hg; replace ac := bb_ ac hb; have aJ := nl_ ag hg; have aK := ng_ ag hg; replace ag := bb_ ag hb; clear hb hg; obtain ⟨bj, a7, en⟩ := Kd.R_slice aw.out; subst en; have e0 := aI.out; have e2 := aH.out; have e3 := aK.out; have e4 := aJ.out; obtain ⟨dF, dG, dH, dI, dJ, dK, dL, dM⟩ := cf4_ ah; obtain ⟨aE, az, ck⟩ := Kd.R_slice ax.out; subst ck; obtain ⟨bD, bE, eo, _⟩ := Kd.Q_slice aB.out; subst eo) | ((with_reducible refine gate_callee (f := 23) rfl ?_); refine gl_ (some 16) Tryz.func23 #[.agg #[.slice bj aM.length a7, .int .i64 aQ, .slice aE aN.length az]] ?_; (with_reducible refine (spec_PlaceText.calls k _ _ aM aQ _ _ aN a5 _ ?s1 ?s2 ?s3 ?s4 A4.out).mono ?_); (case s1 => exact cR_ aw ah); (case s2 => exact (ll_ aw)); (case s3 => exact cR_ ax ah); (case s4 => exact (ll_ ax)); rintro e fX ⟨rfl, hb⟩; refine ⟨_, rfl, ?_⟩; replace aw := A_ (Kd.R_below (wR_ aw ah) hb); replace ax := A_ (Kd.R_below (wR_ ax ah) hb); replace aB := A_ (Kd.Q_below (wQ_ aB ah) hb); replace ac := bb_ ac hb; replace ag := bb_ ag hb; replace ah := bp_ #[.slice bj aM.length a7, .int .i64 aQ, .slice aE aN.length az, .slice bD a6.length bE] ah hb; replace HB := bs_ HB hb; (try clear hb); obtain ⟨b3, b4, b5, b6, b7, b8⟩ := cf3_ ag)); refine bodyPost_ret (results_ct rfl _ _ bS 28 #[.string a5, .string (⟨#[]⟩ : ByteArray), .int .i64 0] (0, 0) _ rfl (ps_ ag.out) Tryz.underlying28 rfl (by kernel_rfl)) rfl ?_; exact ⟨tw_, (tb_ HB.out)⟩
 ·
  replace c3 := Bool.eq_false_iff.mpr c3; subst c3; replace H : (some ((⟨#[]⟩ : ByteArray), (⟨#[]⟩ : ByteArray), 0, false)) = some (r1, r2, r3, r4) := by rw [if_neg (show ¬ (false = true) by decide)] at H; exact H
  simp only [Option.some.injEq, Prod.mk.injEq] at H; obtain ⟨rfl, rfl, rfl, rfl⟩ := H; go_enter Tryz.func14, Tryz.ntmps14; go_wp2_with (first | ((with_reducible refine gate_dst (N := 1) rfl ?_); refine be_ 1 #[.string a0_0, .string a0_1, .int .i64 a0_2] 28 ?_; intro cB hg fY ac hb; have cC := gx_ HB hg; have cD := gx_ HB hg; replace HB := bs_ HB hb; clear hb hg) | ((with_reducible refine gate_dst (N := 2) rfl ?_); refine be_ 2 #[.string (⟨#[]⟩ : ByteArray), .string (⟨#[]⟩ : ByteArray), .int .i64 0] 28 ?_; intro bS hg fZ ag hb; have cE := gx_ HB hg; have cF := gx_ HB hg; replace HB := bs_ HB hb; have aF := nl_ ac hg; have aG := ng_ ac hg; replace ac := bb_ ac hb; clear hb hg; have e5 := aF.out; have e6 := aG.out; obtain ⟨b9, ca, cb, cc, cd, ce⟩ := cf3_ ac) | ((with_reducible refine gate_callee (f := 29) rfl ?_); refine gl_ (some 8) Tryz.func29 #[.agg #[.string a0_0, .string a0_1, .int .i64 a0_2]] ?_; (with_reducible refine (spec_StoreOpen.calls k a0_0 a0_1 a0_2 aM aQ aN a6 false _ A2.out).mono ?_); rintro e f0 ⟨ek, el, em, rfl, ho0, ho1, ho2, hb⟩; refine ⟨_, rfl, ?_⟩; have aw := rx_ ho0 HB; have ax := rx_ ho1 HB; have aB := A_ (Kd.Q_lower ho2 (below_size (tb_ HB.out))); replace ac := bb_ ac hb; replace ag := bb_ ag hb; replace HB := bs_ HB hb; (try clear hb ho0 ho1 ho2)) | ((with_reducible refine gate_dst (N := 4) rfl ?_); refine be_ 4 #[.slice none 0 0, .int .i64 0, .slice none 0 0, .slice none 0 0] 34 ?_; intro ak hg fr ah hb; replace aw := rb_ aw hb; replace ax := rb_ ax hb; replace aB := A_ (Kd.Q_below (rQ_ aB.out) hb); have cG := gx_ HB hg; have cH := gx_ HB hg; replace HB := bs_ HB hb; have aH := nl_ ac hg; have aI := ng_ ac hg; replace ac := bb_ ac hb; have aJ := nl_ ag hg; have aK := ng_ ag hg; replace ag := bb_ ag hb; clear hb hg; obtain ⟨fx, fy, ep⟩ := Kd.R_slice aw.out; subst ep; have e7 := aI.out; have e8 := aH.out; have cz := aK.out; have cA := aJ.out; obtain ⟨dN, dP, dQ, dR, dS, dT, dU, dV⟩ := cf4_ ah; obtain ⟨fz, fA, eq⟩ := Kd.R_slice ax.out; subst eq; obtain ⟨fB, fC, er, _⟩ := Kd.Q_slice aB.out; subst er; obtain ⟨dW, dX, dY, dZ, d0, d1⟩ := cf3_ ag)); refine bodyPost_ret (results_ct rfl _ _ bS 28 #[.string (⟨#[]⟩ : ByteArray), .string (⟨#[]⟩ : ByteArray), .int .i64 0] (0, 0) _ rfl (ps_ ag.out) Tryz.underlying28 rfl (by kernel_rfl)) rfl ?_; exact ⟨tw_, (tb_ HB.out)⟩

/-! ### laws_toStore: function 15 -/
def laws_toStore.f (a0_0 : ByteArray) (a0_1 : ByteArray) (a0_2 : Int) : Option (ByteArray × ByteArray × Int) := some (a0_0, a0_1, a0_2)
theorem laws_toStore.calls (a0_0 : ByteArray) (a0_1 : ByteArray) (a0_2 : Int) (r1 : ByteArray) (r2 : ByteArray) (r3 : Int) (w : World) (h : laws_toStore.f a0_0 a0_1 a0_2 = some (r1, r2, r3)) :
  Calls Tryz.prog 15 #[.agg #[.string a0_0, .string a0_1, .int .i64 a0_2]] w fun e w' => e = .returned (.agg #[.string r1, .string r2, .int .i64 r3]) ∧ Below w.heap.size w w' := by
 have hu41 := Tryz.underlying41; have hu28 := Tryz.underlying28; have HB := A_ (Below.refl w.heap.size w); have H : (some (a0_0, a0_1, a0_2)) = some (r1, r2, r3) := h; clear h; simp only [Option.some.injEq, Prod.mk.injEq] at H; obtain ⟨rfl, rfl, rfl⟩ := H; go_enter Tryz.func15, Tryz.ntmps15; go_wp2_with (first | ((with_reducible refine gate_dst (N := 1) rfl ?_); refine be_ 1 #[.string a0_0, .string a0_1, .int .i64 a0_2] 41 ?_; intro e9 hg w2 aq hb; have fa := gx_ HB hg; have fb := gx_ HB hg; replace HB := bs_ HB hb; clear hb hg) | ((with_reducible refine gate_dst (N := 2) rfl ?_); refine be_ 2 #[.string (⟨#[]⟩ : ByteArray), .string (⟨#[]⟩ : ByteArray), .int .i64 0] 28 ?_; intro cI hg w3 ay hb; have fc := gx_ HB hg; have fd := gx_ HB hg; replace HB := bs_ HB hb; have bF := nl_ aq hg; have bG := ng_ aq hg; replace aq := bb_ aq hb; clear hb hg) | ((with_reducible refine gate_dst (N := 3) rfl ?_); refine be_ 3 #[.string (⟨#[]⟩ : ByteArray), .string (⟨#[]⟩ : ByteArray), .int .i64 0] 28 ?_; intro fe hg w4 aR hb; have ff := gx_ HB hg; have fg := gx_ HB hg; replace HB := bs_ HB hb; have bH := nl_ aq hg; have bI := ng_ aq hg; replace aq := bb_ aq hb; have bJ := nl_ ay hg; have bK := ng_ ay hg; replace ay := bb_ ay hb; clear hb hg; have fD := bF.out; have fE := bG.out; have fF := bH.out; have fG := bI.out; obtain ⟨es, et, eu, ev, ew, ex⟩ := cf3_ aq; have fH := bK.out; have fI := bJ.out; obtain ⟨ey, ez, eA, eB, eC, eD⟩ := cf3_ aR; obtain ⟨bW, bX, bZ, b0, b1, b2⟩ := cf3_ ay)); refine bodyPost_ret (results_cell_row rfl _ _ cI 28 #[.string a0_0, .string a0_1, .int .i64 a0_2] (0, 0) _ rfl (ps_ ay.out) Tryz.underlying28 rfl (by kernel_rfl)) rfl ?_; exact ⟨tw_, (tb_ HB.out)⟩

/-! ### impl_coloursOk: function 45 -/
def impl_coloursOk.f (a0 : Int) : Option (Bool) := if a0 ≥ 1 then (some (decide (a0 ≤ 3))) else (some false)
theorem impl_coloursOk.calls (a0 : Int) (r : Bool) (w : World) (h : impl_coloursOk.f a0 = some r) :
  Calls Tryz.prog 45 #[.int .i64 a0] w fun e w' => e = .returned (.bool r) ∧ Drawn0 w w' := by
 have H : (if a0 ≥ 1 then (some (decide (a0 ≤ 3))) else (some false)) = some r := h; clear h; replace H := ih_ H; rcases H with ⟨bU, H⟩ | ⟨bU, H⟩
 ·
  obtain rfl := Option.some.inj H; go_enter Tryz.func45, Tryz.ntmps45; go_wp2; go_ret; exact ⟨tx_, dz_⟩
 ·
  obtain rfl := Option.some.inj H; go_enter Tryz.func45, Tryz.ntmps45; go_wp2; go_ret; exact ⟨tx_, dz_⟩

/-! ### impl_UrnOk: function 24 -/
def impl_UrnOk.l0 : Nat → List Int → List Int → Int → Int → Option (Bool)
 | 0, _, _, _, _ => none
 | k + 1, x0, x5, x6, x7 => if x7 < x6 then (if 0 ≤ x7 then (if x7 < (x5.length : Int) then (if (rd x5 x7) < 0 then (some false) else (if (rd x5 x7) > 40 then (some false) else (impl_UrnOk.l0 k x0 x5 x6 (wrap64 (x7 + 1))))) else (none)) else (none)) else ((impl_coloursOk.f (x0.length : Int)).bind fun cl => (some cl))
def impl_UrnOk.f (k : Nat) (l0 : List Int) : Option (Bool) := impl_UrnOk.l0 k l0 l0 (l0.length : Int) 0
theorem impl_UrnOk.calls (k : Nat) (A0 : Option Addr) (c0 : Nat) (l0 : List Int) (r : Bool) (w : World) (hr0 : Kd.C (Kd.int .i64) w A0 l0.length l0) (hc0 : l0.length ≤ c0) (h : impl_UrnOk.f k l0 = some r) :
  Calls Tryz.prog 24 #[.slice A0 l0.length c0] w fun e w' => e = .returned (.bool r) ∧ Drawn0 w w' := by
 have HR0 := A_ hr0; have HC0 := A_ hc0; clear hr0 hc0; have H : (impl_UrnOk.l0 k l0 l0 (l0.length : Int) 0) = some r := h; clear h; have H' := A_ H; clear H; go_enter Tryz.func24, Tryz.ntmps24; go_wp2
 go_loopg [7] k (fun kq v7 w' => ∃ (ae : Int), v7 = .int .i64 ae ∧ Aside0 (impl_UrnOk.l0 kq l0 l0 (l0.length : Int) ae = some r) ∧ Aside0 (kq ≤ k) ∧ Drawn0 w w')
 case atStart => exact ⟨(0), tx_, H', ⟨Nat.le_refl _⟩, dz_⟩
 case round =>
  clear H'; obtain ⟨ae, rfl, HA, HK1, ⟨m1, rfl⟩⟩ := hrel
  cases gk with
  | zero => exact absurd HA.out (by simp [impl_UrnOk.l0])
  | succ k1 =>
   have H := HA.out; clear HA; simp only [impl_UrnOk.l0] at H; replace H := it_ H; rcases H with ⟨bU, H⟩ | ⟨bU, H⟩
   ·
    replace H := in_ H; obtain ⟨cm, H⟩ := H; replace H := in_ H; obtain ⟨cJ, H⟩ := H; replace H := it_ H; rcases H with ⟨bL, H⟩ | ⟨bL, H⟩
    ·
     obtain rfl := Option.some.inj H; obtain ⟨p464, q464, ad464, e464, bo⟩ := a2_ (Kd.at_int HR0.out ae); cases e464; go_wp2; go_ret; exact ⟨tx_, dz_⟩
    ·
     replace H := ig_ H; rcases H with ⟨bM, H⟩ | ⟨bM, H⟩
     ·
      obtain rfl := Option.some.inj H; obtain ⟨p464, q464, ad464, e464, bo⟩ := a2_ (Kd.at_int HR0.out ae); cases e464; go_wp2; go_ret; exact ⟨tx_, dz_⟩
     ·
      have H' := A_ H; clear H; obtain ⟨p464, q464, ad464, e464, bo⟩ := a2_ (Kd.at_int HR0.out ae); cases e464; go_wp2
      go_roundg k1
      case measure => have := HK1.out; omega
      case rel => exact ⟨(wrap64 (ae + 1)), tx_, H', ⟨by have := HK1.out; omega⟩, dz_⟩
   ·
    obtain ⟨cl, A7, H⟩ := bnd_ H; (try dsimp only at H); obtain rfl := Option.some.inj H; go_wp2_with (first | ((with_reducible refine gate_callee (f := 45) rfl ?_); refine gl_ (some 20) Tryz.func45 #[.int .i64 (l0.length : Int)] ?_; (with_reducible refine (impl_coloursOk.calls (l0.length : Int) cl _ A7.out).mono ?_); rintro e w' ⟨rfl, ⟨nd, rfl⟩⟩; refine ⟨_, rfl, ?_⟩)); go_ret; exact ⟨tx_, dz_⟩

/-! ### impl_StartOk: function 33 -/
def impl_StartOk.l0 : Nat → List Int → List Int → Int → Int → Option (Bool)
 | 0, _, _, _, _ => none
 | k + 1, x0, x5, x6, x7 => if x7 < x6 then (if 0 ≤ x7 then (if x7 < (x5.length : Int) then (if (rd x5 x7) > 10 then (some false) else (impl_StartOk.l0 k x0 x5 x6 (wrap64 (x7 + 1)))) else (none)) else (none)) else ((impl_UrnOk.f k x0).bind fun cn => (some cn))
def impl_StartOk.f (k : Nat) (l0 : List Int) : Option (Bool) := impl_StartOk.l0 k l0 l0 (l0.length : Int) 0
theorem impl_StartOk.calls (k : Nat) (A0 : Option Addr) (c0 : Nat) (l0 : List Int) (r : Bool) (w : World) (hr0 : Kd.C (Kd.int .i64) w A0 l0.length l0) (hc0 : l0.length ≤ c0) (h : impl_StartOk.f k l0 = some r) :
  Calls Tryz.prog 33 #[.slice A0 l0.length c0] w fun e w' => e = .returned (.bool r) ∧ Drawn0 w w' := by
 have HR0 := A_ hr0; have HC0 := A_ hc0; clear hr0 hc0; have H : (impl_StartOk.l0 k l0 l0 (l0.length : Int) 0) = some r := h; clear h; have H' := A_ H; clear H; go_enter Tryz.func33, Tryz.ntmps33; go_wp2
 go_loopg [7] k (fun kq v7 w' => ∃ (ae : Int), v7 = .int .i64 ae ∧ Aside0 (impl_StartOk.l0 kq l0 l0 (l0.length : Int) ae = some r) ∧ Aside0 (kq ≤ k) ∧ Drawn0 w w')
 case atStart => exact ⟨(0), tx_, H', ⟨Nat.le_refl _⟩, dz_⟩
 case round =>
  clear H'; obtain ⟨ae, rfl, HA, HK1, ⟨m1, rfl⟩⟩ := hrel
  cases gk with
  | zero => exact absurd HA.out (by simp [impl_StartOk.l0])
  | succ k1 =>
   have H := HA.out; clear HA; simp only [impl_StartOk.l0] at H; replace H := it_ H; rcases H with ⟨bU, H⟩ | ⟨bU, H⟩
   ·
    replace H := in_ H; obtain ⟨cm, H⟩ := H; replace H := in_ H; obtain ⟨cJ, H⟩ := H; replace H := ig_ H; rcases H with ⟨bL, H⟩ | ⟨bL, H⟩
    ·
     obtain rfl := Option.some.inj H; obtain ⟨p466, q466, ad466, e466, cf⟩ := a2_ (Kd.at_int HR0.out ae); cases e466; go_wp2; go_ret; exact ⟨tx_, dz_⟩
    ·
     have H' := A_ H; clear H; obtain ⟨p466, q466, ad466, e466, cf⟩ := a2_ (Kd.at_int HR0.out ae); cases e466; go_wp2
     go_roundg k1
     case measure => have := HK1.out; omega
     case rel => exact ⟨(wrap64 (ae + 1)), tx_, H', ⟨by have := HK1.out; omega⟩, dz_⟩
   ·
    obtain ⟨cn, A6, H⟩ := bnd_ H; (try dsimp only at H); obtain rfl := Option.some.inj H; go_wp2_with (first | ((with_reducible refine gate_callee (f := 24) rfl ?_); refine gl_ (some 15) Tryz.func24 #[.slice A0 l0.length c0] ?_; (with_reducible refine (impl_UrnOk.calls k1 _ _ l0 cn _ ?s1 ?s2 A6.out).mono ?_); (case s1 => exact td_); (case s2 => exact HC0.out); rintro e w' ⟨rfl, ⟨nd, rfl⟩⟩; refine ⟨_, rfl, ?_⟩)); go_ret; exact ⟨tx_, dz_⟩

/-! ### impl_WordOk: function 34 -/
def impl_WordOk.l0 : Nat → Int → List Int → List Int → Int → Int → Option (Bool)
 | 0, _, _, _, _, _ => none
 | k + 1, x0, x1, x7, x8, x9 => if x9 < x8 then (if 0 ≤ x9 then (if x9 < (x7.length : Int) then (if (rd x7 x9) < 0 then (some false) else (if (rd x7 x9) ≥ x0 then (some false) else (impl_WordOk.l0 k x0 x1 x7 x8 (wrap64 (x9 + 1))))) else (none)) else (none)) else ((impl_coloursOk.f x0).bind fun co => (if co = true then (some (decide ((x1.length : Int) ≤ 6))) else (some false)))
def impl_WordOk.f (k : Nat) (a0 : Int) (l1 : List Int) : Option (Bool) := impl_WordOk.l0 k a0 l1 l1 (l1.length : Int) 0
theorem impl_WordOk.calls (k : Nat) (a0 : Int) (A1 : Option Addr) (c1 : Nat) (l1 : List Int) (r : Bool) (w : World) (hr1 : Kd.C (Kd.int .i64) w A1 l1.length l1) (hc1 : l1.length ≤ c1) (h : impl_WordOk.f k a0 l1 = some r) :
  Calls Tryz.prog 34 #[.int .i64 a0, .slice A1 l1.length c1] w fun e w' => e = .returned (.bool r) ∧ Drawn0 w w' := by
 have HR1 := A_ hr1; have HC1 := A_ hc1; clear hr1 hc1; have H : (impl_WordOk.l0 k a0 l1 l1 (l1.length : Int) 0) = some r := h; clear h; have H' := A_ H; clear H; go_enter Tryz.func34, Tryz.ntmps34; go_wp2
 go_loopg [9] k (fun kq v9 w' => ∃ (al : Int), v9 = .int .i64 al ∧ Aside0 (impl_WordOk.l0 kq a0 l1 l1 (l1.length : Int) al = some r) ∧ Aside0 (kq ≤ k) ∧ Drawn0 w w')
 case atStart => exact ⟨(0), tx_, H', ⟨Nat.le_refl _⟩, dz_⟩
 case round =>
  clear H'; obtain ⟨al, rfl, HA, HK1, ⟨m1, rfl⟩⟩ := hrel
  cases gk with
  | zero => exact absurd HA.out (by simp [impl_WordOk.l0])
  | succ k1 =>
   have H := HA.out; clear HA; simp only [impl_WordOk.l0] at H; replace H := it_ H; rcases H with ⟨cm, H⟩ | ⟨cm, H⟩
   ·
    replace H := in_ H; obtain ⟨cJ, H⟩ := H; replace H := in_ H; obtain ⟨bL, H⟩ := H; replace H := it_ H; rcases H with ⟨bM, H⟩ | ⟨bM, H⟩
    ·
     obtain rfl := Option.some.inj H; obtain ⟨p468, q468, ad468, e468, bp⟩ := a2_ (Kd.at_int HR1.out al); cases e468; go_wp2; go_ret; exact ⟨tx_, dz_⟩
    ·
     replace H := ih_ H; rcases H with ⟨cp, H⟩ | ⟨cp, H⟩
     ·
      obtain rfl := Option.some.inj H; obtain ⟨p468, q468, ad468, e468, bp⟩ := a2_ (Kd.at_int HR1.out al); cases e468; go_wp2; go_ret; exact ⟨tx_, dz_⟩
     ·
      have H' := A_ H; clear H; obtain ⟨p468, q468, ad468, e468, bp⟩ := a2_ (Kd.at_int HR1.out al); cases e468; go_wp2
      go_roundg k1
      case measure => have := HK1.out; omega
      case rel => exact ⟨(wrap64 (al + 1)), tx_, H', ⟨by have := HK1.out; omega⟩, dz_⟩
   ·
    obtain ⟨co, A8, H⟩ := bnd_ H; (try dsimp only at H); by_cases c9 : co = true
    ·
     subst c9; replace H : (some (decide ((l1.length : Int) ≤ 6))) = some r := by rw [if_pos rfl] at H; exact H
     obtain rfl := Option.some.inj H; go_wp2_with (first | ((with_reducible refine gate_callee (f := 45) rfl ?_); refine gl_ (some 22) Tryz.func45 #[.int .i64 a0] ?_; (with_reducible refine (impl_coloursOk.calls a0 true _ A8.out).mono ?_); rintro e w' ⟨rfl, ⟨nd, rfl⟩⟩; refine ⟨_, rfl, ?_⟩)); go_ret; exact ⟨tx_, dz_⟩
    ·
     replace c9 := Bool.eq_false_iff.mpr c9; subst c9; replace H : (some false) = some r := by rw [if_neg (show ¬ (false = true) by decide)] at H; exact H
     obtain rfl := Option.some.inj H; go_wp2_with (first | ((with_reducible refine gate_callee (f := 45) rfl ?_); refine gl_ (some 22) Tryz.func45 #[.int .i64 a0] ?_; (with_reducible refine (impl_coloursOk.calls a0 false _ A8.out).mono ?_); rintro e w' ⟨rfl, ⟨nd, rfl⟩⟩; refine ⟨_, rfl, ?_⟩)); go_ret; exact ⟨tx_, dz_⟩

/-! ### slices_Clone_int_int: function 48 -/
def slices_Clone_int_int.f (l0 : List Int) : Option (List Int) := if l0.length * 8 ≤ 140737488355328 then some l0 else none
theorem slices_Clone_int_int.calls (A0 : Option Addr) (c0 : Nat) (l0 : List Int) (r : List Int) (w : World) (hr0 : Kd.C (Kd.int .i64) w A0 l0.length l0) (hc0 : l0.length ≤ c0) (h : slices_Clone_int_int.f l0 = some r) :
  Calls Tryz.prog 48 #[.slice A0 l0.length c0] w fun e w' => ∃ v0_ : Value, e = .returned (v0_) ∧ Kd.R (Kd.int .i64) 3 w' w.heap.size (fun _ => True) v0_ r ∧ Below w.heap.size w w' := by
 unfold slices_Clone_int_int.f at h; by_cases hl : l0.length * 8 ≤ 140737488355328
 ·
  rw [if_pos hl] at h; obtain rfl := Option.some.inj h; rcases Nat.eq_zero_or_pos l0.length with h0 | h0
  ·
   obtain rfl : l0 = [] := List.eq_nil_of_length_eq_zero h0
   cases A0 with
   | none => exact (Sh.Tryz.slices_Clone_int_nil 0 c0 w).mono fun e w' ⟨he, hw⟩ => ⟨.slice none 0 0, he, Kd.R_nil _ _ _ _ _, hw ▸ Below.refl _ _⟩
   | some ad => exact (Sh.Tryz.slices_Clone_int_zero ad c0 w).mono fun e w' ⟨v, he, ho, _, hb⟩ => ⟨v, he, Kd.R_of_own (xs := []) ho (fun _ _ => trivial), hb⟩
  ·
   obtain ⟨ad, rfl, hc⟩ := hr0.2.2 h0
   have hcell : ∀ j, j < l0.length → w.cell? (ad.add j) = some (.int .i64 (l0.getD j 0)) := by
    intro j hj; obtain ⟨c, hc1, hc2, hc3⟩ := hc j _ (List.getElem?_eq_getElem hj); have e1 : c = [.int .i64 l0[j]] := hc2; have := hc3 0 _ (by rw [e1]; rfl); rw [List.getD_eq_getElem?_getD, List.getElem?_eq_getElem hj]; simpa [Kd.int, Kd.scalar] using this
   have hs := hcell 0 h0
   have hsp : ad.spot = none := by
    cases hq : ad.spot with
    | none => rfl
    | some q => simp [World.cell?, Addr.add, hq] at hs; split at hs <;> simp at hs
   obtain ⟨b, o, sp⟩ := ad; simp only at hsp; subst hsp; refine (Sh.Tryz.slices_Clone_int b o l0.length c0 l0 w (Nat.le_refl _) hl (fun j hj => by have := hcell j hj; unfold Addr.add at this; split at this <;> simp_all)).mono fun e w' ⟨v, he, ho, _, hb⟩ => ⟨v, he, Kd.R_of_own (by rw [List.take_length] at ho; exact ho) (fun _ _ => trivial), hb⟩
 ·
  rw [if_neg hl] at h; exact absurd h (by simp)

/-! ### impl_added: function 77 -/
def impl_added.l0 : Nat → List Int → List Int → Int → Int → Option (List Int)
 | 0, _, _, _, _ => none
 | k + 1, x5, x10, x11, x12 => if x12 < x11 then (if 0 ≤ x12 then (if x12 < (x10.length : Int) then (if x12 < (x5.length : Int) then (impl_added.l0 k (x5.set (x12 : Int).toNat (wrap64 ((rd x5 x12) + (rd x10 x12)))) x10 x11 (wrap64 (x12 + 1))) else (none)) else (none)) else (none)) else (some x5)
def impl_added.f (k : Nat) (l0 : List Int) (l1 : List Int) : Option (List Int) := (slices_Clone_int_int.f l0).bind fun bN => (impl_added.l0 k bN l1 (l1.length : Int) 0)
theorem impl_added.calls (k : Nat) (A0 : Option Addr) (c0 : Nat) (l0 : List Int) (A1 : Option Addr) (c1 : Nat) (l1 : List Int) (r : List Int) (w : World) (hr0 : Kd.C (Kd.int .i64) w A0 l0.length l0) (hc0 : l0.length ≤ c0) (hr1 : Kd.C (Kd.int .i64) w A1 l1.length l1) (hc1 : l1.length ≤ c1) (h : impl_added.f k l0 l1 = some r) :
  Calls Tryz.prog 77 #[.slice A0 l0.length c0, .slice A1 l1.length c1] w fun e w' => ∃ v0_ : Value, e = .returned (v0_) ∧ Kd.R (Kd.int .i64) 3 w' w.heap.size (fun _ => True) v0_ r ∧ Below w.heap.size w w' := by
 have HR0 := A_ hr0; have HC0 := A_ hc0; clear hr0 hc0; have HR1 := A_ hr1; have HC1 := A_ hc1; clear hr1 hc1; have HB := A_ (Below.refl w.heap.size w); have H : ((slices_Clone_int_int.f l0).bind fun bN => (impl_added.l0 k bN l1 (l1.length : Int) 0)) = some r := h; clear h; obtain ⟨bN, A3, H⟩ := bnd_ H; (try dsimp only at H); have H' := A_ H; clear H; go_enter Tryz.func77, Tryz.ntmps77; go_wp2_with (first | ((with_reducible refine gate_callee (f := 48) rfl ?_); refine gl_ (some 9) Tryz.func48 #[.slice A0 l0.length c0] ?_; (with_reducible refine (slices_Clone_int_int.calls _ _ l0 bN _ ?s1 ?s2 A3.out).mono ?_); (case s1 => exact td_); (case s2 => exact HC0.out); rintro e w4 ⟨eE, rfl, ho0, hb⟩; refine ⟨_, rfl, ?_⟩; have cK := rx_ ho0 HB; replace HB := bs_ HB hb; (try clear hb ho0)))
 go_loopg [12] k (fun kq fJ w' => ∃ (aO : List Int) (af : Int), fJ = .int .i64 af ∧ Aside0 (impl_added.l0 kq aO l1 (l1.length : Int) af = some r) ∧ Aside0 (kq ≤ k) ∧ Aside0 (Kd.R (Kd.int .i64) 3 w' w.heap.size (fun _ => True) eE aO) ∧ Aside0 (Below w.heap.size w w'))
 case atStart => exact ⟨(bN), (0), tx_, H', ⟨Nat.le_refl _⟩, ⟨rR_ cK.out⟩, ⟨(tb_ HB.out)⟩⟩
 case round =>
  clear H'; obtain ⟨aO, af, rfl, HA, HK1, a8, HB⟩ := hrel
  cases gk with
  | zero => exact absurd HA.out (by simp [impl_added.l0])
  | succ k1 =>
   have H := HA.out; clear HA; simp only [impl_added.l0] at H; replace H := it_ H; rcases H with ⟨bL, H⟩ | ⟨bL, H⟩
   ·
    replace H := in_ H; obtain ⟨bM, H⟩ := H; replace H := in_ H; obtain ⟨cp, H⟩ := H; replace H := in_ H; obtain ⟨eF, H⟩ := H; obtain ⟨cq, bV⟩ : ∃ y_ : List Int, y_ = (aO.set (af : Int).toNat (wrap64 ((rd aO af) + (rd l1 af)))) := ⟨_, rfl⟩
    replace H : (impl_added.l0 k1 cq l1 (l1.length : Int) (wrap64 (af + 1))) = some r := yq_ bV H; have cL := A_ bV; clear bV; have H' := A_ H; clear H; obtain ⟨p473, q473, ad473, e473, aU⟩ := a2_ (Kd.at_int HR1.out af); cases e473; replace aU := (HB.out.cell (World.block_lt_of_cell? w _ aU)).trans aU; obtain ⟨fK, eG, eH⟩ := Kd.R_slice a8.out; subst eH; obtain ⟨p474, q474, ad474, e474, cg⟩ := a2_ (Kd.at_int (Kd.R_reads' a8.out).2.2 af); cases e474; have p9 : 0 ≤ (af : Int) := od_; have q9 : (af : Int) < ((aO.length : Int) : Int) := od_; obtain ⟨go9, co9, fh, fi, gl9, cl9, HG9⟩ := Kd.R_form a8.out (by omega); (first | cases fh | (injection fh with ea_ en_ ec_; (first | subst ea_ | (injection ea_ with ea_; subst ea_)); subst ec_; clear en_)); have GB9 := A_ fi; have GG9 := A_ HG9; clear fi gl9 HG9; (first | simp only [add_plain] at cg | skip); obtain ⟨fj, hf9_0⟩ := Kd.R_celln 0 a8.out (af : Int) p9 q9; replace p9 := eq_true p9; replace q9 := eq_true q9; have HP11 := Kd.R_putg a8.out (af : Int) (wrap64 ((rd aO af) + (rd l1 af))); go_wp2_with (first | ((with_reducible refine gate_store (t := 3) (p := 23) rfl ?_); refine store_event (t := 3) (p := 23) (v := ?vo_w12) (w1 := (wr.setCell ⟨go9, (af : Int).toNat, none⟩ (.int .i64 (wrap64 ((rd aO af) + (rd l1 af)))))) ?hg ?ho ?hn ?hr ?_; (case ho => rfl); (case hg => rfl); (case hn => rfl); (case hr => first | (go_simp; done) | (go_simp; rfl)); intro eI hw; have hg : wr.grownBy eI (some go9) := (by rw [hw]; exact HP11.2); have hp_ : Kd.R (Kd.int .i64) 3 eI w.heap.size (fun _ => True) (.slice (some ⟨go9, 0, none⟩) aO.length eG) cq := (by rw [hw, cL.out]; exact HP11.1); clear HP11; replace a8 := A_ (hp_); replace HB := A_ ((by rw [hw]; exact below_set (HB.out) GB9.out : Below w.heap.size w eI)); clear hg hw hp_))
    go_roundg k1
    case measure => have := HK1.out; omega
    case rel => exact ⟨(cq), (wrap64 (af + 1)), tx_, H', ⟨by have := HK1.out; omega⟩, ⟨rR_ a8.out⟩, ⟨(tb_ HB.out)⟩⟩
   ·
    obtain rfl := Option.some.inj H; go_wp2; go_ret; exact ⟨_, tw_, by refine qR_ ?_; exact a8.out, (tb_ HB.out)⟩

/-! ### impl_after: function 56 -/
def impl_after.l0 : Nat → List (List Int) → List Int → List Int → Int → Int → Option (List Int)
 | 0, _, _, _, _, _ => none
 | k + 1, x1, x7, x12, x13, x14 => if x14 < x13 then (if 0 ≤ x14 then (if x14 < (x12.length : Int) then (if 0 ≤ (rd x12 x14) then (if (rd x12 x14) < (x1.length : Int) then ((impl_added.f k x7 (rd_L1 x1 (rd x12 x14))).bind fun ch => (impl_after.l0 k x1 ch x12 x13 (wrap64 (x14 + 1)))) else (none)) else (none)) else (none)) else (none)) else (some x7)
def impl_after.f (k : Nat) (l0 : List Int) (l1 : List (List Int)) (l2 : List Int) : Option (List Int) := (slices_Clone_int_int.f l0).bind fun bO => (impl_after.l0 k l1 bO l2 (l2.length : Int) 0)
theorem impl_after.calls (k : Nat) (A0 : Option Addr) (c0 : Nat) (l0 : List Int) (A1 : Option Addr) (c1 : Nat) (l1 : List (List Int)) (A2 : Option Addr) (c2 : Nat) (l2 : List Int) (r : List Int) (w : World) (hr0 : Kd.C (Kd.int .i64) w A0 l0.length l0) (hc0 : l0.length ≤ c0) (hr1 : Kd.C (Kd.slice 3 (Kd.int .i64)) w A1 l1.length l1) (hc1 : l1.length ≤ c1) (hr2 : Kd.C (Kd.int .i64) w A2 l2.length l2) (hc2 : l2.length ≤ c2) (h : impl_after.f k l0 l1 l2 = some r) :
  Calls Tryz.prog 56 #[.slice A0 l0.length c0, .slice A1 l1.length c1, .slice A2 l2.length c2] w fun e w' => ∃ v0_ : Value, e = .returned (v0_) ∧ Kd.R (Kd.int .i64) 3 w' w.heap.size (fun _ => True) v0_ r ∧ Below w.heap.size w w' := by
 have HR0 := A_ hr0; have HC0 := A_ hc0; clear hr0 hc0; have HR1 := A_ hr1; have HC1 := A_ hc1; clear hr1 hc1; have HR2 := A_ hr2; have HC2 := A_ hc2; clear hr2 hc2; have HB := A_ (Below.refl w.heap.size w); have H : ((slices_Clone_int_int.f l0).bind fun bO => (impl_after.l0 k l1 bO l2 (l2.length : Int) 0)) = some r := h; clear h; obtain ⟨bO, A4, H⟩ := bnd_ H; (try dsimp only at H); have H' := A_ H; clear H; go_enter Tryz.func56, Tryz.ntmps56; go_wp2_with (first | ((with_reducible refine gate_callee (f := 48) rfl ?_); refine gl_ (some 11) Tryz.func48 #[.slice A0 l0.length c0] ?_; (with_reducible refine (slices_Clone_int_int.calls _ _ l0 bO _ ?s1 ?s2 A4.out).mono ?_); (case s1 => exact td_); (case s2 => exact HC0.out); rintro e w5 ⟨fL, rfl, ho0, hb⟩; refine ⟨_, rfl, ?_⟩; have cM := rx_ ho0 HB; replace HB := bs_ HB hb; (try clear hb ho0)))
 go_loopg [7, 14] k (fun kq v7 fM w' => ∃ (ae : List Int) (aj : Int), fM = .int .i64 aj ∧ Aside0 (impl_after.l0 kq l1 ae l2 (l2.length : Int) aj = some r) ∧ Aside0 (kq ≤ k) ∧ Aside0 (Kd.R (Kd.int .i64) 3 w' w.heap.size (fun _ => True) v7 ae) ∧ Aside0 (Below w.heap.size w w'))
 case atStart => exact ⟨(bO), (0), tx_, H', ⟨Nat.le_refl _⟩, ⟨rR_ cM.out⟩, ⟨(tb_ HB.out)⟩⟩
 case round =>
  clear H'; obtain ⟨ae, aj, rfl, HA, HK1, bk, HB⟩ := hrel
  cases gk with
  | zero => exact absurd HA.out (by simp [impl_after.l0])
  | succ k1 =>
   have H := HA.out; clear HA; simp only [impl_after.l0] at H; replace H := it_ H; rcases H with ⟨bM, H⟩ | ⟨bM, H⟩
   ·
    replace H := in_ H; obtain ⟨cp, H⟩ := H; replace H := in_ H; obtain ⟨eF, H⟩ := H; replace H := in_ H; obtain ⟨fN, H⟩ := H; replace H := in_ H; obtain ⟨fk, H⟩ := H; obtain ⟨ch, A11, H⟩ := bnd_ H; (try dsimp only at H); have H' := A_ H; clear H; obtain ⟨p479, q479, ad479, e479, aV⟩ := a2_ (Kd.at_int HR2.out aj); cases e479; replace aV := (HB.out.cell (World.block_lt_of_cell? w _ aV)).trans aV; obtain ⟨p480, q480, ad480, cr, ct, e480, aW, hl480_0, hi480_0⟩ := a2_ (at_L1 HR1.out (rd l2 aj)); cases e480; replace aW := (HB.out.cell (World.block_lt_of_cell? w _ aW)).trans aW; have d2 := A_ hi480_0; have ci := A_ hl480_0; clear hi480_0 hl480_0; obtain ⟨eJ, eK, eL⟩ := Kd.R_slice bk.out; subst eL; go_wp2_with (first | ((with_reducible refine gate_callee (f := 77) rfl ?_); refine gl_ (some 23) Tryz.func77 #[.slice eJ ae.length eK, .slice cr (rd_L1 l1 (rd l2 aj)).length ct] ?_; (with_reducible refine (impl_added.calls k1 _ _ ae _ _ (rd_L1 l1 (rd l2 aj)) ch _ ?s1 ?s2 ?s3 ?s4 A11.out).mono ?_); (case s1 => exact rc_ bk); (case s2 => exact (ll_ bk)); (case s3 => exact tD_); (case s4 => exact ci.out); rintro e fn ⟨fO, rfl, ho0, hb⟩; refine ⟨_, rfl, ?_⟩; have cN := rx_ (nR_ ho0 (Kd.R_lt (rR_ bk.out))) HB; replace bk := A_ (Kd.R_elder' (rR_ bk.out) (Kd.R_base ho0) hb); replace HB := bs_ HB hb; (try clear hb ho0)))
    go_roundg k1
    case measure => have := HK1.out; omega
    case rel => exact ⟨(ch), (wrap64 (aj + 1)), tx_, H', ⟨by have := HK1.out; omega⟩, ⟨by refine qR_ ?_; exact Kd.R_mono cN.out (fun _ hk => trivial)⟩, ⟨(tb_ HB.out)⟩⟩
   ·
    obtain rfl := Option.some.inj H; go_wp2; go_ret; exact ⟨_, tw_, by refine qR_ ?_; exact bk.out, (tb_ HB.out)⟩

end Go.Proofs.YtfacponjomafcaaGreatDoor.MFnExactStoreSave
