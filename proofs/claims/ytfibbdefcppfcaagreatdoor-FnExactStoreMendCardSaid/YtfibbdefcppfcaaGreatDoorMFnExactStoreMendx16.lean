/- For the law FnExactStoreMend: walks of the functions that it reaches: each call returns what the plain function beside it tells. The conditions stand in each statement. -/
import Derived.Test.YtfibbdefcppfcaaGreatDoorV
import Derived.Test.YtfibbdefcppfcaaGreatDoorMFnExactStoreMendx0
import Derived.Test.YtfibbdefcppfcaaGreatDoorMFnExactStoreMendx2
import Derived.Test.YtfibbdefcppfcaaGreatDoorMFnExactStoreMendx10
import Derived.Test.YtfibbdefcppfcaaGreatDoorMFnExactStoreMendx13
import Derived.Test.YtfibbdefcppfcaaGreatDoorMFnExactStoreMendx14
import Derived.Test.YtfibbdefcppfcaaGreatDoorMFnExactStoreMendx15
namespace Go.Proofs.YtfibbdefcppfcaaGreatDoor.MFnExactStoreMend
open Go.RowKit Go.Proofs.YtfibbdefcppfcaaGreatDoorW.PrintWords Go.Proofs.YtfibbdefcppfcaaGreatDoorW.PrintLast Go.Proofs.YtfibbdefcppfcaaGreatDoorW.PrintMore
attribute [local go_sem] max2_int min2_int max_two min_two max_three min_three max_four min_four   -- for this text's walks alone
set_option linter.unusedVariables false
set_option linter.unusedSimpArgs false

/-! ### impl_ReadDeed: function 71 -/
mutual
def impl_ReadDeed.j0 : Nat → ByteArray → List ByteArray → Int → Bool → Option (Int × Int × Int × Bool)
 | 0, _, _, _, _ => none
 | k + 1, x0, x4, x5, x20 => if x20 = true then (some (0, 0, 0, false)) else ((some (([0, 1, 2, 3, 4] : List Int) : List Int)).bind fun am => (if 0 ≤ x5 then (if x5 < (am.length : Int) then (if (x4.length : Int) > 1 then (if 1 < (x4.length : Int) then ((strconv_Atoi.f (rdOf ByteArray.empty x4 1)).bind fun bv => (impl_ReadDeed.j1 k x0 x4 (rd am x5) bv.1 0)) else (none)) else (impl_ReadDeed.j1 k x0 x4 (rd am x5) 0 0)) else (none)) else (none)))
def impl_ReadDeed.j1 : Nat → ByteArray → List ByteArray → Int → Int → Int → Option (Int × Int × Int × Bool)
 | 0, _, _, _, _, _ => none
 | k + 1, x0, x4, a8, a9, bz => if (x4.length : Int) > 2 then (if 2 < (x4.length : Int) then ((strconv_Atoi.f (rdOf ByteArray.empty x4 2)).bind fun c0 => ((impl_DeedText.f k a8 a9 c0.1).bind fun bm => (if bm.toList = x0.toList then (some (a8, a9, c0.1, true)) else (some (0, 0, 0, false))))) else (none)) else ((impl_DeedText.f k a8 a9 bz).bind fun bn => (if bn.toList = x0.toList then (some (a8, a9, bz, true)) else (some (0, 0, 0, false))))
end
def impl_ReadDeed.f (k : Nat) (a0 : ByteArray) : Option (Int × Int × Int × Bool) := (strings_Split.f a0 (⟨#[32]⟩ : ByteArray)).bind fun ae => (if 0 < (ae.length : Int) then ((slices_Index_string_string.f k (([(⟨#[112, 117, 116]⟩ : ByteArray), (⟨#[115, 116, 101, 112]⟩ : ByteArray), (⟨#[100, 114, 97, 119]⟩ : ByteArray), (⟨#[97, 103, 97, 105, 110]⟩ : ByteArray), (⟨#[98, 97, 99, 107]⟩ : ByteArray)] : List ByteArray)) (rdOf ByteArray.empty ae 0)).bind fun ai => (if ai < 0 then (impl_ReadDeed.j0 k a0 ae ai true) else (impl_ReadDeed.j0 k a0 ae ai (decide ((ae.length : Int) > 3))))) else (none))
theorem impl_ReadDeed.mono_l : ∀ k, (∀ y0 y1 y2 y3, LeO (impl_ReadDeed.j0 k y0 y1 y2 y3) (impl_ReadDeed.j0 (k + 1) y0 y1 y2 y3)) ∧ (∀ y0 y1 y2 y3 y4, LeO (impl_ReadDeed.j1 k y0 y1 y2 y3 y4) (impl_ReadDeed.j1 (k + 1) y0 y1 y2 y3 y4))
 | 0 => ⟨fun _ _ _ _ r h => by simp [impl_ReadDeed.j0] at h, fun _ _ _ _ _ r h => by simp [impl_ReadDeed.j1] at h⟩
 | k + 1 => by
  obtain ⟨ih0, ih1⟩ := impl_ReadDeed.mono_l k
  refine ⟨?_, ?_⟩
  ·
   intro y0 y1 y2 y3
   unfold impl_ReadDeed.j0
   repeat' (with_reducible first | exact ih0 _ _ _ _ | exact ih1 _ _ _ _ _ | exact impl_DeedText.mono _ _ _ _ | exact slices_Index_string_string.mono _ _ _ | exact mr_ | exact mn_ | refine mi_ ?_ ?_ | refine mb_ ?_ (fun _ => ?_))
  ·
   intro y0 y1 y2 y3 y4
   unfold impl_ReadDeed.j1
   repeat' (with_reducible first | exact ih0 _ _ _ _ | exact ih1 _ _ _ _ _ | exact impl_DeedText.mono _ _ _ _ | exact slices_Index_string_string.mono _ _ _ | exact mr_ | exact mn_ | refine mi_ ?_ ?_ | refine mb_ ?_ (fun _ => ?_))
theorem impl_ReadDeed.mono : ∀ a0 k, LeO (impl_ReadDeed.f k a0) (impl_ReadDeed.f (k + 1) a0) := by
 intro a0 k
 obtain ⟨ih0, ih1⟩ := impl_ReadDeed.mono_l k
 unfold impl_ReadDeed.f
 repeat' (with_reducible first | exact ih0 _ _ _ _ | exact ih1 _ _ _ _ _ | exact impl_DeedText.mono _ _ _ _ | exact slices_Index_string_string.mono _ _ _ | exact mr_ | exact mn_ | refine mi_ ?_ ?_ | refine mb_ ?_ (fun _ => ?_))
set_option maxHeartbeats 8000000 in
set_option maxRecDepth 100000 in
theorem impl_ReadDeed.calls (k : Nat) (a0 : ByteArray) (r1 : Int) (r2 : Int) (r3 : Int) (r4 : Bool) (w : World) (hG : GWb w) (h : impl_ReadDeed.f k a0 = some (r1, r2, r3, r4)) :
  Calls Tryz.prog 71 #[.string a0] w fun e w' => e = .returned (.tuple #[.agg #[.int .i64 r1, .int .i64 r2, .int .i64 r3], .bool r4]) ∧ Below w.heap.size w w' := by
 have HG := Aside0.mk hG
 clear hG
 have hu34 := Tryz.underlying34
 have HB := Aside0.mk (Below.refl w.heap.size w)
 have H : ((strings_Split.f a0 (⟨#[32]⟩ : ByteArray)).bind fun ae => (if 0 < (ae.length : Int) then ((slices_Index_string_string.f k (([(⟨#[112, 117, 116]⟩ : ByteArray), (⟨#[115, 116, 101, 112]⟩ : ByteArray), (⟨#[100, 114, 97, 119]⟩ : ByteArray), (⟨#[97, 103, 97, 105, 110]⟩ : ByteArray), (⟨#[98, 97, 99, 107]⟩ : ByteArray)] : List ByteArray)) (rdOf ByteArray.empty ae 0)).bind fun ai => (if ai < 0 then (impl_ReadDeed.j0 k a0 ae ai true) else (impl_ReadDeed.j0 k a0 ae ai (decide ((ae.length : Int) > 3))))) else (none))) = some (r1, r2, r3, r4) := h
 clear h
 obtain ⟨ae, A2, H⟩ := bnd_ H
 try dsimp only at H
 obtain ⟨dk, cb⟩ : ∃ y_ : List ByteArray, y_ = (([(⟨#[112, 117, 116]⟩ : ByteArray), (⟨#[115, 116, 101, 112]⟩ : ByteArray), (⟨#[100, 114, 97, 119]⟩ : ByteArray), (⟨#[97, 103, 97, 105, 110]⟩ : ByteArray), (⟨#[98, 97, 99, 107]⟩ : ByteArray)] : List ByteArray)) := ⟨_, rfl⟩
 replace H : (if 0 < (ae.length : Int) then ((slices_Index_string_string.f k dk (rdOf ByteArray.empty ae 0)).bind fun ai => (if ai < 0 then (impl_ReadDeed.j0 k a0 ae ai true) else (impl_ReadDeed.j0 k a0 ae ai (decide ((ae.length : Int) > 3))))) else (none)) = some (r1, r2, r3, r4) := yq_ cb H
 have da := Aside0.mk cb
 clear cb
 by_cases c3 : 0 < (ae.length : Int)
 ·
  rw [if_pos c3] at H
  have b9 : decide (0 < (ae.length : Int)) = true := decide_eq_true c3
  have cu : decide (0 < ae.length) = true := decide_eq_true (by omega)
  clear c3
  obtain ⟨ai, A4, H⟩ := bnd_ H
  try dsimp only at H
  have HC5 := Aside0.mk H
  clear H
  go_enter Tryz.func71, Tryz.ntmps71
  go_upto_region 3 with (first | ((with_reducible refine gate_dst (N := 2) rfl ?_); (try (refine gate_guard (by rfl) ?_; dsimp only)); refine box_event ?hg (N := 2) ?hd (cs := #[.int .i64 0, .int .i64 0, .int .i64 0]) (t := 34) ?hr ?_; (case hd => rfl); (case hg => rfl); (case hr => first | (go_simp; done) | (go_simp; rfl)); intro bc hg w6 hbox hb; have ad := Aside0.mk (hbox); have gO := gx_ HB hg; have gP := gx_ HB hg; replace HB := bs_ HB hb; clear hb hbox hg) | ((with_reducible refine gate_callee (f := 101) rfl ?_); refine gl_ (some 8) Tryz.func101 #[.string a0, .string (⟨#[32]⟩ : ByteArray)] ?_; (with_reducible refine (strings_Split.calls a0 (⟨#[32]⟩ : ByteArray) ae _ ?s1 A2.out).mono ?_); (case s1 => exact GWb.below HG.out (tb_ HB.out)); rintro e w7 ⟨hR, rfl, ho0, hb⟩; refine ⟨_, rfl, ?_⟩; have bd := rx_ ho0 HB; replace ad := bb_ ad hb; replace HB := bs_ HB hb; (try clear hb); (try clear hb2); (try clear hk); (try clear hi); (try clear ho0)) | ((with_reducible refine gate_dst (N := 9) rfl ?_); (try (refine gate_guard (by rfl) ?_; dsimp only)); refine Kd.R_lit Kd.string _ 9 ?hg (N := 9) ?hd (xs := ([(⟨#[112, 117, 116]⟩ : ByteArray), (⟨#[115, 116, 101, 112]⟩ : ByteArray), (⟨#[100, 114, 97, 119]⟩ : ByteArray), (⟨#[97, 103, 97, 105, 110]⟩ : ByteArray), (⟨#[98, 97, 99, 107]⟩ : ByteArray)] : List ByteArray)) (inner := [.string (⟨#[112, 117, 116]⟩ : ByteArray), .string (⟨#[115, 116, 101, 112]⟩ : ByteArray), .string (⟨#[100, 114, 97, 119]⟩ : ByteArray), .string (⟨#[97, 103, 97, 105, 110]⟩ : ByteArray), .string (⟨#[98, 97, 99, 107]⟩ : ByteArray)]) (ok := fun _ => True) (okp := fun _ => True) ?hr ?hp (fun _ hk => hk) trivial (Below.refl _ _) (Nat.le_refl _) (by simp) ?_; (case hd => rfl); (case hg => rfl); (case hr => first | (go_simp; done) | (go_simp; rfl)); (case hp => exact (Reps.one (show Kd.M Kd.string _ _ _ (⟨#[112, 117, 116]⟩ : ByteArray) [.string (⟨#[112, 117, 116]⟩ : ByteArray)] from rfl) (Reps.one (show Kd.M Kd.string _ _ _ (⟨#[115, 116, 101, 112]⟩ : ByteArray) [.string (⟨#[115, 116, 101, 112]⟩ : ByteArray)] from rfl) (Reps.one (show Kd.M Kd.string _ _ _ (⟨#[100, 114, 97, 119]⟩ : ByteArray) [.string (⟨#[100, 114, 97, 119]⟩ : ByteArray)] from rfl) (Reps.one (show Kd.M Kd.string _ _ _ (⟨#[97, 103, 97, 105, 110]⟩ : ByteArray) [.string (⟨#[97, 103, 97, 105, 110]⟩ : ByteArray)] from rfl) (Reps.one (show Kd.M Kd.string _ _ _ (⟨#[98, 97, 99, 107]⟩ : ByteArray) [.string (⟨#[98, 97, 99, 107]⟩ : ByteArray)] from rfl) (Reps.none _ _))))))); intro hS w8 ho9 hb hg_ hnew_; clear hg_ hnew_; (first | rw [← da.out] at ho9 | (simp only [Int.reduceToNat] at ho9; rw [← da.out] at ho9)); have cc := Aside0.mk (Kd.R_lower (Kd.R_new' ho9 (Kd.R_lt (rR_ bd.out))) (below_size (tb_ HB.out))); replace bd := Aside0.mk (Kd.R_elder' (rR_ bd.out) (Kd.R_base ho9) hb); replace ad := bb_ ad hb; replace HB := bs_ HB hb; clear hb ho9; obtain ⟨hT, dr, gp⟩ := Kd.R_slice bd.out; subst gp; have p408 : 0 ≤ (0 : Int) := (by omega); have q408 : 0 < (ae.length : Int) := od_; obtain ⟨ad408, e408, bb⟩ := Kd.at_string (Kd.R_reads' bd.out).2.2 0 p408 q408; cases e408; have gQ : (0 < ae.length) = True := eq_true (by omega); (try rw [show ((0 : Int)).toNat = 0 from rfl] at bb); (try rw [Addr.add_zero'] at bb); replace p408 := eq_true p408; replace q408 := eq_true q408; obtain ⟨gq, gr, gs⟩ := Kd.R_slice cc.out; subst gs) | ((with_reducible refine gate_callee (f := 107) rfl ?_); refine gl_ (some 13) Tryz.func107 #[.slice gq dk.length gr, .string (rdOf ByteArray.empty ae 0)] ?_; (with_reducible refine (slices_Index_string_string.calls k _ _ dk (rdOf ByteArray.empty ae 0) ai _ ?s1 ?s2 A4.out).mono ?_); (case s1 => repeat (first | exact (Kd.R_reads' cc.out).2.2 | (with_reducible refine Kd.C_alloc ?_ _) | (with_reducible refine Kd.C_drewN ?_ _) | (with_reducible refine Kd.C_drew ?_))); (case s2 => exact (Kd.R_reads' cc.out).2.1); rintro e w' ⟨rfl, ⟨nd, rfl⟩⟩; refine ⟨_, rfl, ?_⟩))
  (try simp only [Act.put, sa_, sb_, sc_])
  go_cut [20] (fun hU wc => ∃ (kq : Nat) (bB : Bool), hU = .bool bB ∧ Aside0 (impl_ReadDeed.j0 kq a0 ae ai bB = some (r1, r2, r3, r4)) ∧ Aside0 (kq ≤ k) ∧ Aside0 (Kd.R Kd.string 9 wc w.heap.size (fun _ => True) (.slice (some ad408) ae.length dr) ae) ∧ Aside0 (wc.heap[bc]? = some (.cells #[.int .i64 0, .int .i64 0, .int .i64 0] 34 (0, 0))) ∧ Aside0 (Below w.heap.size w wc))
  case first =>
   have H := HC5.out
   clear HC5
   by_cases c12 : ai < 0
   ·
    rw [if_pos c12] at H
    have be : decide (ai < 0) = true := decide_eq_true c12
    clear c12
    (first | rw [be] | (simp only [i64_w, i32_w]; rw [be]) | skip)
    have H' := Aside0.mk H
    clear H
    go_wp2
    go_meet
    case rel => exact ⟨_, (true), tx_, H', ⟨by first | omega | exact Nat.le_refl _⟩, ⟨by refine qR_ ?_; exact Kd.R_mono bd.out (fun _ hk => trivial)⟩, ⟨tk_ ad.out⟩, ⟨(tb_ HB.out)⟩⟩
   ·
    rw [if_neg c12] at H
    have be : decide (ai < 0) = false := decide_eq_false c12
    clear c12
    (first | rw [be] | (simp only [i64_w, i32_w]; rw [be]) | skip)
    have H' := Aside0.mk H
    clear H
    go_wp2
    go_meet
    case rel => exact ⟨_, (decide ((ae.length : Int) > 3)), tx_, H', ⟨by first | omega | exact Nat.le_refl _⟩, ⟨by refine qR_ ?_; exact Kd.R_mono bd.out (fun _ hk => trivial)⟩, ⟨tk_ ad.out⟩, ⟨(tb_ HB.out)⟩⟩
  case rest =>
   clear HC5
   try clear c1
   try clear p2
   try clear c3
   try clear b9
   try clear cu
   try clear p4
   try clear q4
   try clear hx4
   try clear hV
   try clear c7
   try clear c10
   try clear c12
   try clear be
   try clear bb
   try clear p408
   try clear q408
   obtain ⟨kq, bB, rfl, HA, HJ4, aj, ad, HB⟩ := hcut
   cases kq with
   | zero => exact absurd HA.out (by simp [impl_ReadDeed.j0])
   | succ kj4 =>
    have H := HA.out
    clear HA
    simp only [impl_ReadDeed.j0] at H
    by_cases c13 : bB = true
    ·
     subst c13
     have H1 : (some (0, 0, 0, false)) = some (r1, r2, r3, r4) := by rw [if_pos rfl] at H; exact H
     clear H
     have H := H1
     clear H1
     simp only [Option.some.injEq, Prod.mk.injEq] at H
     obtain ⟨rfl, rfl, rfl, rfl⟩ := H
     have bC := cz_ ad 0
     have bD := cz_ ad 1
     have bE := cz_ ad 2
     have bF := blk_frozen ad.out 0
     have bG := blk_frozen ad.out 1
     have bH := blk_frozen ad.out 2
     go_wp2
     refine bodyPost_ret (results_ct rfl _ _ bc 34 #[.int .i64 0, .int .i64 0, .int .i64 0] (0, 0) _ rfl (ps_ ad.out) Tryz.underlying34 rfl (by kernel_rfl)) rfl ?_
     exact ⟨tw_, (tb_ HB.out)⟩
    ·
     replace c13 := Bool.eq_false_iff.mpr c13
     subst c13
     have H1 : ((some (([0, 1, 2, 3, 4] : List Int) : List Int)).bind fun am => (if 0 ≤ ai then (if ai < (am.length : Int) then (if (ae.length : Int) > 1 then (if 1 < (ae.length : Int) then ((strconv_Atoi.f (rdOf ByteArray.empty ae 1)).bind fun bv => (impl_ReadDeed.j1 kj4 a0 ae (rd am ai) bv.1 0)) else (none)) else (impl_ReadDeed.j1 kj4 a0 ae (rd am ai) 0 0)) else (none)) else (none))) = some (r1, r2, r3, r4) := by rw [if_neg (show ¬ (false = true) by decide)] at H; exact H
     clear H
     have H := H1
     clear H1
     obtain ⟨am, cd⟩ : ∃ y_ : List Int, y_ = (([0, 1, 2, 3, 4] : List Int)) := ⟨_, rfl⟩
     replace H : (if 0 ≤ ai then (if ai < (am.length : Int) then (if (ae.length : Int) > 1 then (if 1 < (ae.length : Int) then ((strconv_Atoi.f (rdOf ByteArray.empty ae 1)).bind fun bv => (impl_ReadDeed.j1 kj4 a0 ae (rd am ai) bv.1 0)) else (none)) else (impl_ReadDeed.j1 kj4 a0 ae (rd am ai) 0 0)) else (none)) else (none)) = some (r1, r2, r3, r4) := yq_ cd H
     have db := Aside0.mk cd
     clear cd
     by_cases c15 : 0 ≤ ai
     ·
      rw [if_pos c15] at H
      have ds : decide (0 ≤ ai) = true := decide_eq_true c15
      clear c15
      by_cases c16 : ai < (am.length : Int)
      ·
       rw [if_pos c16] at H
       have dt : decide (ai < (am.length : Int)) = true := decide_eq_true c16
       clear c16
       have HC17 := Aside0.mk H
       clear H
       go_upto_if 29 with (first | ((with_reducible refine gate_dst (N := 22) rfl ?_); (try (refine gate_guard (by rfl) ?_; dsimp only)); refine Kd.R_lit (Kd.int .i64) _ 3 ?hg (N := 22) ?hd (xs := ([0, 1, 2, 3, 4] : List Int)) (inner := [.int .i64 0, .int .i64 1, .int .i64 2, .int .i64 3, .int .i64 4]) (ok := fun _ => True) (okp := fun _ => True) ?hr ?hp (fun _ hk => hk) trivial (Below.refl _ _) (Nat.le_refl _) (by simp) ?_; (case hd => rfl); (case hg => rfl); (case hr => first | (go_simp; done) | (go_simp; rfl)); (case hp => exact (Reps.one (show Kd.M (Kd.int .i64) _ _ _ 0 [.int .i64 0] from rfl) (Reps.one (show Kd.M (Kd.int .i64) _ _ _ 1 [.int .i64 1] from rfl) (Reps.one (show Kd.M (Kd.int .i64) _ _ _ 2 [.int .i64 2] from rfl) (Reps.one (show Kd.M (Kd.int .i64) _ _ _ 3 [.int .i64 3] from rfl) (Reps.one (show Kd.M (Kd.int .i64) _ _ _ 4 [.int .i64 4] from rfl) (Reps.none _ _))))))); intro hW gu ho19 hb hg_ hnew_; clear hg_ hnew_; (first | rw [← db.out] at ho19 | (simp only [Int.reduceToNat] at ho19; rw [← db.out] at ho19)); replace aj := rb_ aj hb; have bk := rx_ ho19 HB; replace ad := bb_ ad hb; replace HB := bs_ HB hb; clear hb ho19; obtain ⟨hX, hY, gv⟩ := Kd.R_slice bk.out; subst gv; have p413 : 0 ≤ (ai : Int) := od_; have q413 : ai < (am.length : Int) := od_; obtain ⟨ad413, e413, cv⟩ := Kd.at_int (Kd.R_reads' bk.out).2.2 ai p413 q413; cases e413; replace p413 := eq_true p413; replace q413 := eq_true q413) | ((with_reducible refine gate_dst (N := 6) rfl ?_); (try (refine gate_guard (by rfl) ?_; dsimp only)); refine box_event ?hg (N := 6) ?hd (cs := #[.int .i64 0, .int .i64 0, .int .i64 0]) (t := 34) ?hr ?_; (case hd => rfl); (case hg => rfl); (case hr => first | (go_simp; done) | (go_simp; rfl)); intro ao hg gR hbox hb; replace aj := rb_ aj hb; replace bk := rb_ bk hb; have ab := Aside0.mk (hbox); have gS := gx_ HB hg; have gU := gx_ HB hg; replace HB := bs_ HB hb; have aw := nl_ ad hg; have ax := ng_ ad hg; replace ad := bb_ ad hb; clear hb hbox hg; have gV := ax.out; have gW := aw.out; have bI := cz_ ab 0; have bJ := cz_ ab 1; have bK := cz_ ab 2; have bL := blk_frozen ab.out 0; have bM := blk_frozen ab.out 1; have bN := blk_frozen ab.out 2))
       (try simp only [Act.put, sa_, sb_, sc_])
       go_cut [] (fun wc => ∃ (kq : Nat) (ag : Int), Aside0 (impl_ReadDeed.j1 kq a0 ae (rd am ai) ag 0 = some (r1, r2, r3, r4)) ∧ Aside0 (kq ≤ kj4) ∧ Aside0 (Kd.R Kd.string 9 wc w.heap.size (fun _ => True) (.slice (some ad408) ae.length dr) ae) ∧ Aside0 (wc.heap[bc]? = some (.cells #[.int .i64 0, .int .i64 0, .int .i64 0] 34 (0, 0))) ∧ Aside0 (wc.heap[ao]? = some (.cells #[.int .i64 (rd am ai), .int .i64 ag, .int .i64 0] 34 (0, 0))) ∧ Aside0 (Below w.heap.size w wc))
       case first =>
        have H := HC17.out
        clear HC17
        by_cases c24 : (ae.length : Int) > 1
        ·
         rw [if_pos c24] at H
         have bl : decide (1 < (ae.length : Int)) = true := decide_eq_true c24
         have dc : decide (1 < ae.length) = true := decide_eq_true (by omega)
         clear c24
         (first | rw [bl] | (simp only [i64_w, i32_w]; rw [bl]) | skip)
         by_cases c25 : 1 < (ae.length : Int)
         ·
          rw [if_pos c25] at H
          have du : decide (1 < (ae.length : Int)) = true := decide_eq_true c25
          have dv : decide (1 < ae.length) = true := decide_eq_true (by omega)
          clear c25
          obtain ⟨⟨dl, gw⟩, A26, H⟩ := bnd_ H
          try dsimp only at H
          have H' := Aside0.mk H
          clear H
          have p415 : 0 ≤ (1 : Int) := (by omega)
          have q415 : 1 < (ae.length : Int) := od_
          obtain ⟨ad415, e415, av⟩ := Kd.at_string (Kd.R_reads' aj.out).2.2 1 p415 q415
          obtain rfl : ad408 = ad415 := (by injection e415)
          (try simp only [show (1 : Int).toNat = 1 from rfl, Nat.reduceMul, Nat.reduceEqDiff, Go.Addr.add, ↓reduceIte] at av)
          have gX : (1 < ae.length) = True := eq_true (by omega)
          (try rw [show ((1 : Int)).toNat = 1 from rfl] at av)
          have hn415_0 : ad408.block ≠ ao := Kd.own_blk (Kd.R_ne aj.out ab.out (by decide))
          have hn415_1 : ad408.block ≠ ao := Kd.own_blk (Kd.R_ne aj.out ab.out (by decide))
          have hn415_2 : ad408.block ≠ ao := Kd.own_blk (Kd.R_ne aj.out ab.out (by decide))
          replace av := (cell_far (p := ⟨ao, 0, none⟩) (by first | (rw [add_block]; exact hn415_0) | (show (Addr.add _ _).block ≠ _; rw [add_block]; exact hn415_0) | exact hn415_0) (.int .i64 (rd am ai))).trans av
          replace av := (cell_far (p := ⟨ao, 1, none⟩) (by first | (rw [add_block]; exact hn415_1) | (show (Addr.add _ _).block ≠ _; rw [add_block]; exact hn415_1) | exact hn415_1) (.int .i64 0)).trans av
          replace av := (cell_far (p := ⟨ao, 2, none⟩) (by first | (rw [add_block]; exact hn415_2) | (show (Addr.add _ _).block ≠ _; rw [add_block]; exact hn415_2) | exact hn415_2) (.int .i64 0)).trans av
          clear hn415_0
          clear hn415_1
          clear hn415_2
          replace p415 := eq_true p415
          replace q415 := eq_true q415
          go_wp2_with (first | ((with_reducible refine gate_callee (f := 102) rfl ?_); refine gl_ (some 34) Tryz.func102 #[.string (rdOf ByteArray.empty ae 1)] ?_; (with_reducible refine (strconv_Atoi.calls (rdOf ByteArray.empty ae 1) dl gw _ ?s1 A26.out).mono ?_); (case s1 => exact GWb.below HG.out (tb_ HB.out)); rintro e ie ⟨N_, rfl, hb⟩; refine ⟨_, rfl, ?_⟩; replace aj := Aside0.mk (Kd.R_below (by refine qR_ ?_; exact (Kd.R_mono (Kd.R_far (p := ⟨ao, 2, none⟩) (Kd.R_far (p := ⟨ao, 1, none⟩) (Kd.R_far (p := ⟨ao, 0, none⟩) (Kd.R_types aj.out ab.out (by decide)) (fun _ hk => hk.2) (.int .i64 (rd am ai))) (fun _ hk => hk.2) (.int .i64 0)) (fun _ hk => hk.2) (.int .i64 0)) (fun _ h_ => h_.1))) hb); replace bk := Aside0.mk (Kd.R_below (by refine qR_ ?_; exact (Kd.R_mono (Kd.R_far (p := ⟨ao, 2, none⟩) (Kd.R_far (p := ⟨ao, 1, none⟩) (Kd.R_far (p := ⟨ao, 0, none⟩) (Kd.R_types bk.out ab.out (by decide)) (fun _ hk => hk.2) (.int .i64 (rd am ai))) (fun _ hk => hk.2) (.int .i64 0)) (fun _ hk => hk.2) (.int .i64 0)) (fun _ h_ => h_.1))) hb); replace ad := bb_ ad hb; replace ab := Aside0.mk (blk_below (g := ao) (o := .cells #[.int .i64 (rd am ai), .int .i64 0, .int .i64 0] 34 (0, 0)) (ps_ ab.out) hb); replace HB := bs_ HB hb; (try clear hb); (try clear hb2); (try clear hk); (try clear hi); (try simp only [errW_none, errW_some, Option.map_none, Option.map_some]); have dw := ax.out; have dx := aw.out; have bO := cz_ ab 0; have bP := cz_ ab 1; have bQ := cz_ ab 2; have bR := blk_frozen ab.out 0; have bS := blk_frozen ab.out 1; have bU := blk_frozen ab.out 2))
          go_meet
          case rel => exact ⟨_, (dl), H', ⟨by have := HJ4.out; first | omega | exact Nat.le_refl _⟩, ⟨by refine qR_ ?_; exact Kd.R_mono (Kd.R_far (p := ⟨ao, 1, none⟩) (Kd.R_types aj.out ab.out (by decide)) (fun _ hk => hk.2) (.int .i64 dl)) (fun _ hk => trivial)⟩, ⟨tk_ ad.out⟩, ⟨by refine bq_ ?_; refine blk_put (cs := #[.int .i64 (rd am ai), .int .i64 0, .int .i64 0]) ?_ 1 _ rfl; exact tk_ ab.out⟩, ⟨(tb_ HB.out)⟩⟩
         ·
          rw [if_neg c25] at H
          exact absurd H (by simp)
        ·
         rw [if_neg c24] at H
         have bl : decide (1 < (ae.length : Int)) = false := decide_eq_false c24
         have dc : decide (1 < ae.length) = false := decide_eq_false (by omega)
         clear c24
         (first | rw [bl] | (simp only [i64_w, i32_w]; rw [bl]) | skip)
         have H' := Aside0.mk H
         clear H
         go_wp2
         go_meet
         case rel => exact ⟨_, (0), H', ⟨by have := HJ4.out; first | omega | exact Nat.le_refl _⟩, ⟨by refine qR_ ?_; exact Kd.R_mono (Kd.R_far (p := ⟨ao, 2, none⟩) (Kd.R_far (p := ⟨ao, 1, none⟩) (Kd.R_far (p := ⟨ao, 0, none⟩) (Kd.R_types aj.out ab.out (by decide)) (fun _ hk => hk.2) (.int .i64 (rd am ai))) (fun _ hk => hk.2) (.int .i64 0)) (fun _ hk => hk.2) (.int .i64 0)) (fun _ hk => trivial)⟩, ⟨tk_ ad.out⟩, ⟨by refine bq_ ?_; refine blk_put (cs := #[.int .i64 (rd am ai), .int .i64 0, .int .i64 0]) ?_ 2 _ rfl; refine bq_ ?_; refine blk_put (cs := #[.int .i64 (rd am ai), .int .i64 0, .int .i64 0]) ?_ 1 _ rfl; refine bq_ ?_; refine blk_put (cs := #[.int .i64 0, .int .i64 0, .int .i64 0]) ?_ 0 _ rfl; exact tk_ ab.out⟩, ⟨(tb_ HB.out)⟩⟩
       case rest =>
        clear HC17
        try clear c1
        try clear c2
        try clear p2
        try clear c3
        try clear b9
        try clear cu
        try clear p4
        try clear q4
        try clear hx4
        try clear hV
        try clear c7
        try clear c10
        try clear c12
        try clear be
        try clear c13
        try clear c15
        try clear ds
        try clear c16
        try clear dt
        try clear c22
        try clear c24
        try clear bl
        try clear dc
        try clear c25
        try clear du
        try clear dv
        try clear c28
        try clear bC
        try clear bD
        try clear bE
        try clear bI
        try clear bJ
        try clear bK
        try clear bO
        try clear bP
        try clear bQ
        try clear bF
        try clear bG
        try clear bH
        try clear bL
        try clear bM
        try clear bN
        try clear bR
        try clear bS
        try clear bU
        try clear bb
        try clear cv
        try clear av
        try clear p2
        try clear p4
        try clear p408
        try clear p413
        try clear p415
        try clear q4
        try clear q408
        try clear q413
        try clear q415
        obtain ⟨kq, ag, HA, HJ16, aj, ad, ab, HB⟩ := hcut
        cases kq with
        | zero => exact absurd HA.out (by simp [impl_ReadDeed.j1])
        | succ kj16 =>
         have H := HA.out
         clear HA
         simp only [impl_ReadDeed.j1] at H
         by_cases c30 : (ae.length : Int) > 2
         ·
          rw [if_pos c30] at H
          have dy : decide (2 < (ae.length : Int)) = true := decide_eq_true c30
          have dz : decide (2 < ae.length) = true := decide_eq_true (by omega)
          clear c30
          by_cases c31 : 2 < (ae.length : Int)
          ·
           rw [if_pos c31] at H
           have gY : decide (2 < (ae.length : Int)) = true := decide_eq_true c31
           have gZ : decide (2 < ae.length) = true := decide_eq_true (by omega)
           clear c31
           obtain ⟨⟨bf, dA⟩, A32, H⟩ := bnd_ H
           try dsimp only at H
           obtain ⟨bm, A33, H⟩ := bnd_ H
           try dsimp only at H
           by_cases c34 : bm.toList = a0.toList
           ·
            rw [if_pos c34] at H
            have dB : (bm.toList == a0.toList) = true := beq_iff_eq.mpr c34
            have dC : (bm.toList != a0.toList) = false := bne_eq_false_iff_eq.mpr c34
            clear c34
            simp only [Option.some.injEq, Prod.mk.injEq] at H
            obtain ⟨rfl, rfl, rfl, rfl⟩ := H
            have p418 : 0 ≤ (2 : Int) := (by omega)
            have q418 : 2 < (ae.length : Int) := od_
            obtain ⟨ad418, e418, aJ⟩ := Kd.at_string (Kd.R_reads' aj.out).2.2 2 p418 q418
            obtain rfl : ad408 = ad418 := (by injection e418)
            (try simp only [show (2 : Int).toNat = 2 from rfl, Nat.reduceMul, Nat.reduceEqDiff, Go.Addr.add, ↓reduceIte] at aJ)
            have dD : (2 < ae.length) = True := eq_true (by omega)
            (try rw [show ((2 : Int)).toNat = 2 from rfl] at aJ)
            replace p418 := eq_true p418
            replace q418 := eq_true q418
            go_wp2_with (first | ((with_reducible refine gate_callee (f := 102) rfl ?_); refine gl_ (some 45) Tryz.func102 #[.string (rdOf ByteArray.empty ae 2)] ?_; (with_reducible refine (strconv_Atoi.calls (rdOf ByteArray.empty ae 2) bf dA _ ?s1 A32.out).mono ?_); (case s1 => exact GWb.below HG.out (tb_ HB.out)); rintro e ig ⟨N_, rfl, hb⟩; refine ⟨_, rfl, ?_⟩; replace aj := rb_ aj hb; replace ad := bb_ ad hb; replace ab := bb_ ab hb; replace HB := bs_ HB hb; (try clear hb); (try clear hb2); (try clear hk); (try clear hi); (try simp only [errW_none, errW_some, Option.map_none, Option.map_some]); have g0 := ax.out; have g1 := aw.out; have dX := cz_ ab 0; have dY := cz_ ab 1; have dZ := cz_ ab 2; have d0 := blk_frozen ab.out 0; have d1 := blk_frozen ab.out 1; have d2 := blk_frozen ab.out 2) | ((with_reducible refine gate_callee (f := 49) rfl ?_); refine gl_ (some 50) Tryz.func49 #[.agg #[.int .i64 (rd am ai), .int .i64 ag, .int .i64 bf]] ?_; (with_reducible refine (impl_DeedText.calls kj16 (rd am ai) ag bf bm _ ?s1 A33.out).mono ?_); (case s1 => exact GWb.below HG.out (tb_ HB.out)); rintro e hZ ⟨rfl, hb⟩; refine ⟨_, rfl, ?_⟩; replace aj := Aside0.mk (Kd.R_below (by refine qR_ ?_; exact (Kd.R_mono (Kd.R_far (p := ⟨ao, 2, none⟩) (Kd.R_types aj.out ab.out (by decide)) (fun _ hk => hk.2) (.int .i64 bf)) (fun _ h_ => h_.1))) hb); replace ad := bb_ ad hb; replace ab := Aside0.mk (blk_below (g := ao) (o := .cells #[.int .i64 (rd am ai), .int .i64 ag, .int .i64 bf] 34 (0, 0)) (ps_ ab.out) hb); replace HB := bs_ HB hb; (try clear hb); (try clear hb2); (try clear hk); (try clear hi); have d3 := cz_ ab 0; have d4 := cz_ ab 1; have d5 := cz_ ab 2; have d6 := blk_frozen ab.out 0; have d7 := blk_frozen ab.out 1; have d8 := blk_frozen ab.out 2; have cw := cz_ ad 0; have cx := cz_ ad 1; have cy := cz_ ad 2; have cz := blk_frozen ad.out 0; have cA := blk_frozen ad.out 1; have cB := blk_frozen ad.out 2))
            refine bodyPost_ret (results_ct rfl _ _ bc 34 #[.int .i64 (rd am ai), .int .i64 ag, .int .i64 bf] (0, 0) _ rfl (ps_ ad.out) Tryz.underlying34 rfl (by kernel_rfl)) rfl ?_
            exact ⟨tw_, (tb_ HB.out)⟩
           ·
            rw [if_neg c34] at H
            have dB : (bm.toList == a0.toList) = false := beq_eq_false_iff_ne.mpr c34
            have dC : (bm.toList != a0.toList) = true := bne_iff_ne.mpr c34
            simp only [Option.some.injEq, Prod.mk.injEq] at H
            obtain ⟨rfl, rfl, rfl, rfl⟩ := H
            have p418 : 0 ≤ (2 : Int) := (by omega)
            have q418 : 2 < (ae.length : Int) := od_
            obtain ⟨ad418, e418, aJ⟩ := Kd.at_string (Kd.R_reads' aj.out).2.2 2 p418 q418
            obtain rfl : ad408 = ad418 := (by injection e418)
            (try simp only [show (2 : Int).toNat = 2 from rfl, Nat.reduceMul, Nat.reduceEqDiff, Go.Addr.add, ↓reduceIte] at aJ)
            have dD : (2 < ae.length) = True := eq_true (by omega)
            (try rw [show ((2 : Int)).toNat = 2 from rfl] at aJ)
            replace p418 := eq_true p418
            replace q418 := eq_true q418
            go_wp2_with (first | ((with_reducible refine gate_callee (f := 102) rfl ?_); refine gl_ (some 45) Tryz.func102 #[.string (rdOf ByteArray.empty ae 2)] ?_; (with_reducible refine (strconv_Atoi.calls (rdOf ByteArray.empty ae 2) bf dA _ ?s1 A32.out).mono ?_); (case s1 => exact GWb.below HG.out (tb_ HB.out)); rintro e ii ⟨N_, rfl, hb⟩; refine ⟨_, rfl, ?_⟩; replace aj := rb_ aj hb; replace ad := bb_ ad hb; replace ab := bb_ ab hb; replace HB := bs_ HB hb; (try clear hb); (try clear hb2); (try clear hk); (try clear hi); (try simp only [errW_none, errW_some, Option.map_none, Option.map_some]); have g2 := ax.out; have g3 := aw.out; have d9 := cz_ ab 0; have ea := cz_ ab 1; have eb := cz_ ab 2; have ec := blk_frozen ab.out 0; have ed := blk_frozen ab.out 1; have ee := blk_frozen ab.out 2) | ((with_reducible refine gate_callee (f := 49) rfl ?_); refine gl_ (some 50) Tryz.func49 #[.agg #[.int .i64 (rd am ai), .int .i64 ag, .int .i64 bf]] ?_; (with_reducible refine (impl_DeedText.calls kj16 (rd am ai) ag bf bm _ ?s1 A33.out).mono ?_); (case s1 => exact GWb.below HG.out (tb_ HB.out)); rintro e h0 ⟨rfl, hb⟩; refine ⟨_, rfl, ?_⟩; replace aj := Aside0.mk (Kd.R_below (by refine qR_ ?_; exact (Kd.R_mono (Kd.R_far (p := ⟨ao, 2, none⟩) (Kd.R_types aj.out ab.out (by decide)) (fun _ hk => hk.2) (.int .i64 bf)) (fun _ h_ => h_.1))) hb); replace ad := bb_ ad hb; replace ab := Aside0.mk (blk_below (g := ao) (o := .cells #[.int .i64 (rd am ai), .int .i64 ag, .int .i64 bf] 34 (0, 0)) (ps_ ab.out) hb); replace HB := bs_ HB hb; (try clear hb); (try clear hb2); (try clear hk); (try clear hi); have ef := cz_ ad 0; have eg := cz_ ad 1; have eh := cz_ ad 2; have ei := blk_frozen ad.out 0; have ej := blk_frozen ad.out 1; have ek := blk_frozen ad.out 2))
            refine bodyPost_ret (results_ct rfl _ _ bc 34 #[.int .i64 0, .int .i64 0, .int .i64 0] (0, 0) _ rfl (ps_ ad.out) Tryz.underlying34 rfl (by kernel_rfl)) rfl ?_
            exact ⟨tw_, (tb_ HB.out)⟩
          ·
           rw [if_neg c31] at H
           exact absurd H (by simp)
         ·
          rw [if_neg c30] at H
          have dy : decide (2 < (ae.length : Int)) = false := decide_eq_false c30
          have dz : decide (2 < ae.length) = false := decide_eq_false (by omega)
          clear c30
          obtain ⟨bn, A46, H⟩ := bnd_ H
          try dsimp only at H
          by_cases c47 : bn.toList = a0.toList
          ·
           rw [if_pos c47] at H
           have dE : (bn.toList == a0.toList) = true := beq_iff_eq.mpr c47
           have dF : (bn.toList != a0.toList) = false := bne_eq_false_iff_eq.mpr c47
           clear c47
           simp only [Option.some.injEq, Prod.mk.injEq] at H
           obtain ⟨rfl, rfl, rfl, rfl⟩ := H
           have g4 := ax.out
           have g5 := aw.out
           have el := cz_ ab 0
           have em := cz_ ab 1
           have en := cz_ ab 2
           have eo := blk_frozen ab.out 0
           have ep := blk_frozen ab.out 1
           have eq := blk_frozen ab.out 2
           go_wp2_with (first | ((with_reducible refine gate_callee (f := 49) rfl ?_); refine gl_ (some 50) Tryz.func49 #[.agg #[.int .i64 (rd am ai), .int .i64 ag, .int .i64 0]] ?_; (with_reducible refine (impl_DeedText.calls kj16 (rd am ai) ag 0 bn _ ?s1 A46.out).mono ?_); (case s1 => exact GWb.below HG.out (tb_ HB.out)); rintro e h1 ⟨rfl, hb⟩; refine ⟨_, rfl, ?_⟩; replace aj := rb_ aj hb; replace ad := bb_ ad hb; replace ab := bb_ ab hb; replace HB := bs_ HB hb; (try clear hb); (try clear hb2); (try clear hk); (try clear hi); have cC := cz_ ab 0; have cD := cz_ ab 1; have cE := cz_ ab 2; have cF := blk_frozen ab.out 0; have cG := blk_frozen ab.out 1; have cH := blk_frozen ab.out 2; have er := cz_ ad 0; have es := cz_ ad 1; have et := cz_ ad 2; have eu := blk_frozen ad.out 0; have ev := blk_frozen ad.out 1; have ew := blk_frozen ad.out 2))
           refine bodyPost_ret (results_ct rfl _ _ bc 34 #[.int .i64 (rd am ai), .int .i64 ag, .int .i64 0] (0, 0) _ rfl (ps_ ad.out) Tryz.underlying34 rfl (by kernel_rfl)) rfl ?_
           exact ⟨tw_, (tb_ HB.out)⟩
          ·
           rw [if_neg c47] at H
           have dE : (bn.toList == a0.toList) = false := beq_eq_false_iff_ne.mpr c47
           have dF : (bn.toList != a0.toList) = true := bne_iff_ne.mpr c47
           simp only [Option.some.injEq, Prod.mk.injEq] at H
           obtain ⟨rfl, rfl, rfl, rfl⟩ := H
           have g6 := ax.out
           have g7 := aw.out
           have ex := cz_ ab 0
           have ey := cz_ ab 1
           have ez := cz_ ab 2
           have eA := blk_frozen ab.out 0
           have eB := blk_frozen ab.out 1
           have eC := blk_frozen ab.out 2
           go_wp2_with (first | ((with_reducible refine gate_callee (f := 49) rfl ?_); refine gl_ (some 50) Tryz.func49 #[.agg #[.int .i64 (rd am ai), .int .i64 ag, .int .i64 0]] ?_; (with_reducible refine (impl_DeedText.calls kj16 (rd am ai) ag 0 bn _ ?s1 A46.out).mono ?_); (case s1 => exact GWb.below HG.out (tb_ HB.out)); rintro e h2 ⟨rfl, hb⟩; refine ⟨_, rfl, ?_⟩; replace aj := rb_ aj hb; replace ad := bb_ ad hb; replace ab := bb_ ab hb; replace HB := bs_ HB hb; (try clear hb); (try clear hb2); (try clear hk); (try clear hi); have eD := cz_ ad 0; have eE := cz_ ad 1; have eF := cz_ ad 2; have eG := blk_frozen ad.out 0; have eH := blk_frozen ad.out 1; have eI := blk_frozen ad.out 2))
           refine bodyPost_ret (results_ct rfl _ _ bc 34 #[.int .i64 0, .int .i64 0, .int .i64 0] (0, 0) _ rfl (ps_ ad.out) Tryz.underlying34 rfl (by kernel_rfl)) rfl ?_
           exact ⟨tw_, (tb_ HB.out)⟩
      ·
       rw [if_neg c16] at H
       exact absurd H (by simp)
     ·
      rw [if_neg c15] at H
      exact absurd H (by simp)
 ·
  rw [if_neg c3] at H
  exact absurd H (by simp)

/-! ### impl_ReadJournal: function 42 -/
def impl_ReadJournal.l0 : Nat → ByteArray → List (S34) → Int → Option ((List (S34)) × Int)
 | 0, _, _, _ => none
 | k + 1, x0, x4, x5 => if 0 ≤ x5 then (if x5 ≤ (x0.size : Int) then ((strings_Cut.f (x0.extract (x5 : Int).toNat x0.size) (⟨#[10]⟩ : ByteArray)).bind fun ce => ((impl_ReadDeed.f k ce.1).bind fun bV => (if ce.2.2 = true then (if bV.2.2.2 = true then (if x4.length < 5864062014805 then (impl_ReadJournal.l0 k x0 (x4 ++ [(⟨bV.1, bV.2.1, bV.2.2.1⟩ : S34)]) (wrap64 (x5 + (wrap64 ((ce.1.size : Int) + 1))))) else (none)) else (some (x4, x5))) else (some (x4, x5))))) else (none)) else (none)
def impl_ReadJournal.f (k : Nat) (a0 : ByteArray) : Option ((List (S34)) × Int) := impl_ReadJournal.l0 k a0 (([] : List (S34))) 0
theorem impl_ReadJournal.mono_l : ∀ k, (∀ y0 y1 y2, LeO (impl_ReadJournal.l0 k y0 y1 y2) (impl_ReadJournal.l0 (k + 1) y0 y1 y2))
 | 0 => fun _ _ _ r h => by simp [impl_ReadJournal.l0] at h
 | k + 1 => by
  have ih0 := impl_ReadJournal.mono_l k
  ·
   intro y0 y1 y2
   unfold impl_ReadJournal.l0
   repeat' (with_reducible first | exact ih0 _ _ _ | exact impl_ReadDeed.mono _ _ | exact mr_ | exact mn_ | refine mi_ ?_ ?_ | refine mb_ ?_ (fun _ => ?_))
theorem impl_ReadJournal.mono : ∀ a0 k, LeO (impl_ReadJournal.f k a0) (impl_ReadJournal.f (k + 1) a0) := by
 intro a0 k
 have ih0 := impl_ReadJournal.mono_l k
 unfold impl_ReadJournal.f
 repeat' (with_reducible first | exact ih0 _ _ _ | exact impl_ReadDeed.mono _ _ | exact mr_ | exact mn_ | refine mi_ ?_ ?_ | refine mb_ ?_ (fun _ => ?_))
set_option maxHeartbeats 8000000 in
set_option maxRecDepth 100000 in
theorem impl_ReadJournal.calls (k : Nat) (a0 : ByteArray) (r1 : List (S34)) (r2 : Int) (w : World) (hG : GWb w) (h : impl_ReadJournal.f k a0 = some (r1, r2)) :
  Calls Tryz.prog 42 #[.string a0] w fun e w' => ∃ v0_ : Value, e = .returned (.tuple #[v0_, .int .i64 r2]) ∧ Kd.R k34 34 w' w.heap.size (fun _ => True) v0_ r1 ∧ Below w.heap.size w w' := by
 have HG := Aside0.mk hG
 clear hG
 have hu34 := Tryz.underlying34
 have HB := Aside0.mk (Below.refl w.heap.size w)
 have H : (impl_ReadJournal.l0 k a0 (([] : List (S34))) 0) = some (r1, r2) := h
 clear h
 obtain ⟨dG, cf⟩ : ∃ y_ : List (S34), y_ = (([] : List (S34))) := ⟨_, rfl⟩
 replace H : (impl_ReadJournal.l0 k a0 dG 0) = some (r1, r2) := yq_ cf H
 have dd := Aside0.mk cf
 clear cf
 have H' := Aside0.mk H
 clear H
 go_enter Tryz.func42, Tryz.ntmps42
 go_wp2_with (first | ((with_reducible refine gate_dst (N := 11) rfl ?_); refine Kd.R_lit k34 _ 34 ?hg (N := 11) ?hd (xs := ([] : List (S34))) (inner := []) (ok := fun _ => True) (okp := fun _ => True) ?hr ?hp (fun _ hk => hk) trivial (Below.refl _ _) (Nat.le_refl _) (by simp) ?_; (case hd => rfl); (case hg => rfl); (case hr => first | (go_simp; done) | (go_simp; rfl)); (case hp => exact (Reps.none _ _)); intro h3 w2 ho3 hb hg_ hnew_; clear hg_ hnew_; (first | rw [← dd.out] at ho3 | (simp only [Int.reduceToNat] at ho3; rw [← dd.out] at ho3)); have dH := rx_ ho3 HB; replace HB := bs_ HB hb; clear hb ho3))
 go_loopg [4, 5] k (fun kq v4 v5 w' => ∃ (aI : List (S34)) (az : Int), v5 = .int .i64 az ∧ Aside0 (impl_ReadJournal.l0 kq a0 aI az = some (r1, r2)) ∧ Aside0 (kq ≤ k) ∧ Aside0 (Kd.R k34 34 w' w.heap.size (fun _ => True) v4 aI) ∧ Aside0 (Below w.heap.size w w'))
 case atStart => exact ⟨(dG), (0), tx_, H', ⟨Nat.le_refl _⟩, ⟨rR_ dH.out⟩, ⟨(tb_ HB.out)⟩⟩
 case round =>
  clear H'
  try clear p2
  obtain ⟨aI, az, rfl, HA, HK1, aj, HB⟩ := hrel
  cases gk with
  | zero => exact absurd HA.out (by simp [impl_ReadJournal.l0])
  | succ k1 =>
   have H := HA.out
   clear HA
   simp only [impl_ReadJournal.l0] at H
   by_cases c4 : 0 ≤ az
   ·
    rw [if_pos c4] at H
    have dI := eq_true c4
    have dJ : decide (0 ≤ az) = true := decide_eq_true c4
    clear c4
    by_cases c5 : az ≤ (a0.size : Int)
    ·
     rw [if_pos c5] at H
     have dm := eq_true c5
     have dn : decide (az ≤ (a0.size : Int)) = true := decide_eq_true c5
     clear c5
     obtain ⟨⟨aU, dp, gx⟩, A6, H⟩ := bnd_ H
     try dsimp only at H
     obtain ⟨⟨aK, aM, aN, dq⟩, A7, H⟩ := bnd_ H
     try dsimp only at H
     by_cases c8 : gx = true
     ·
      subst c8
      have H1 : (if dq = true then (if aI.length < 5864062014805 then (impl_ReadJournal.l0 k1 a0 (aI ++ [(⟨aK, aM, aN⟩ : S34)]) (wrap64 (az + (wrap64 ((aU.size : Int) + 1))))) else (none)) else (some (aI, az))) = some (r1, r2) := by rw [if_pos rfl] at H; exact H
      clear H
      have H := H1
      clear H1
      by_cases c9 : dq = true
      ·
       subst c9
       have H1 : (if aI.length < 5864062014805 then (impl_ReadJournal.l0 k1 a0 (aI ++ [(⟨aK, aM, aN⟩ : S34)]) (wrap64 (az + (wrap64 ((aU.size : Int) + 1))))) else (none)) = some (r1, r2) := by rw [if_pos rfl] at H; exact H
       clear H
       have H := H1
       clear H1
       by_cases c10 : aI.length < 5864062014805
       ·
        rw [if_pos c10] at H
        have dK := Aside0.mk c10
        clear c10
        obtain ⟨dL, cg⟩ : ∃ y_ : List (S34), y_ = (aI ++ [(⟨aK, aM, aN⟩ : S34)]) := ⟨_, rfl⟩
        replace H : (impl_ReadJournal.l0 k1 a0 dL (wrap64 (az + (wrap64 ((aU.size : Int) + 1))))) = some (r1, r2) := yq_ cg H
        have dM := Aside0.mk cg
        clear cg
        have H' := Aside0.mk H
        clear H
        go_wp2_with (first | ((with_reducible refine gate_callee (f := 70) rfl ?_); refine gl_ (some 16) Tryz.func70 #[.string (a0.extract (az : Int).toNat a0.size), .string (⟨#[10]⟩ : ByteArray)] ?_; (with_reducible refine (strings_Cut.calls (a0.extract (az : Int).toNat a0.size) (⟨#[10]⟩ : ByteArray) aU dp true _ ?s1 A6.out).mono ?_); (case s1 => exact GWb.below HG.out (tb_ HB.out)); rintro e w' ⟨rfl, ⟨nd, rfl⟩⟩; refine ⟨_, rfl, ?_⟩; (try (rw [drewN_self wr]; generalize hq_ : World.drewN wr _ = wr; have n0_ : Aside0 (Kd.R k34 34 wr w.heap.size (fun _ => True) u4 aI) := ⟨by rw [← hq_]; exact (rR_ aj.out)⟩; have n1_ : Aside0 (Below w.heap.size w wr) := ⟨by rw [← hq_]; exact (tb_ HB.out)⟩; clear aj HB hq_; have aj := n0_; have HB := n1_; clear n0_ n1_))) | ((with_reducible refine gate_callee (f := 71) rfl ?_); refine gl_ (some 22) Tryz.func71 #[.string aU] ?_; (with_reducible refine (impl_ReadDeed.calls k1 aU aK aM aN true _ ?s1 A7.out).mono ?_); (case s1 => exact GWb.below HG.out (tb_ HB.out)); rintro e h4 ⟨rfl, hb⟩; refine ⟨_, rfl, ?_⟩; replace aj := rb_ aj hb; replace HB := bs_ HB hb; (try clear hb); (try clear hb2); (try clear hk); (try clear hi)) | ((with_reducible refine gate_dst (N := 9) rfl ?_); refine box_event ?hg (N := 9) ?hd (cs := #[.int .i64 0, .int .i64 0, .int .i64 0]) (t := 34) ?hr ?_; (case hd => rfl); (case hg => rfl); (case hr => first | (go_simp; done) | (go_simp; rfl)); intro aq hg g8 hbox hb; replace aj := Aside0.mk (Kd.R_below (Kd.R_elderB (rR_ aj.out) aq (Nat.le_of_eq hg.symm)) hb); have an := Aside0.mk (hbox); have de := gx_ HB hg; have df := gx_ HB hg; replace HB := bs_ HB hb; clear hb hbox hg; have cI := cz_ an 0; have cJ := cz_ an 1; have cK := cz_ an 2; have cL := blk_frozen an.out 0; have cM := blk_frozen an.out 1; have cN := blk_frozen an.out 2) | ((with_reducible refine gate_builtin (b := .append) (xs := #[.tmp 33, .tmp 35]) rfl ?_); at_builtin; refine Kd.R_append k34 (w0 := w) w.heap.size rfl (.tmp 33) (.tmp 35) 58 34 (.agg #[(.int .i64 0), (.int .i64 0), (.int .i64 0)]) 24 rfl Tryz.underlying58 info34 rfl (by decide) (by omega) u4 aI (⟨aK, aM, aN⟩ : S34) [.int .i64 aK, .int .i64 aM, .int .i64 aN] (fun k_ => k_ ≠ aq) (fun _ => False) rfl (by first | (go_simp; done) | (go_simp; rfl)) ?aP (fun _ hk => hk.elim) ?aF ?aO ?aB ?aS ?aL ?_; (case aP => exact k34_mkM _ _ _ (⟨aK, aM, aN⟩ : S34)); (case aB => exact (tb_ HB.out)); (case aF => exact (fun k_ hk => Kd.freshB (g := aq) (o := .cells #[.int .i64 aK, .int .i64 aM, .int .i64 aN] 34 (0, 0)) (ps_ an.out) k_ hk)); (case aO => exact (by refine qR_ ?_; exact Kd.R_mono (Kd.R_far (p := ⟨aq, 2, none⟩) (Kd.R_far (p := ⟨aq, 1, none⟩) (Kd.R_far (p := ⟨aq, 0, none⟩) (Kd.R_mono aj.out (fun k_ hk => (⟨hk, hk.2⟩ : _ ∧ k_ ≠ aq))) (fun _ hk => hk.2) (.int .i64 aK)) (fun _ hk => hk.2) (.int .i64 aM)) (fun _ hk => hk.2) (.int .i64 aN)) (fun _ hk => hk.1.2))); (case aS => exact (below_size (tb_ HB.out))); (case aL => have := dK.out; omega); intro h5 g9 ho hb hg hat; rw [← dM.out] at ho; replace an := Aside0.mk (blk_grown (g := aq) (o := .cells #[.int .i64 aK, .int .i64 aM, .int .i64 aN] 34 (0, 0)) (ps_ an.out) hg (Kd.R_away aj.out (fun _ hk => hk.2))); replace HB := Aside0.mk (hb); have dN := Aside0.mk (ho); clear aj ho hb hg hat))
        go_roundg k1
        case measure => have := HK1.out; omega
        case rel => exact ⟨(dL), (wrap64 (az + (wrap64 ((aU.size : Int) + 1)))), tx_, H', ⟨by have := HK1.out; omega⟩, ⟨by refine qR_ ?_; exact Kd.R_mono dN.out (fun _ hk => trivial)⟩, ⟨(tb_ HB.out)⟩⟩
       ·
        rw [if_neg c10] at H
        exact absurd H (by simp)
      ·
       replace c9 := Bool.eq_false_iff.mpr c9
       subst c9
       have H1 : (some (aI, az)) = some (r1, r2) := by rw [if_neg (show ¬ (false = true) by decide)] at H; exact H
       clear H
       have H := H1
       clear H1
       simp only [Option.some.injEq, Prod.mk.injEq] at H
       obtain ⟨rfl, rfl⟩ := H
       go_wp2_with (first | ((with_reducible refine gate_callee (f := 70) rfl ?_); refine gl_ (some 16) Tryz.func70 #[.string (a0.extract (az : Int).toNat a0.size), .string (⟨#[10]⟩ : ByteArray)] ?_; (with_reducible refine (strings_Cut.calls (a0.extract (az : Int).toNat a0.size) (⟨#[10]⟩ : ByteArray) aU dp true _ ?s1 A6.out).mono ?_); (case s1 => exact GWb.below HG.out (tb_ HB.out)); rintro e w' ⟨rfl, ⟨nd, rfl⟩⟩; refine ⟨_, rfl, ?_⟩; (try (rw [drewN_self wr]; generalize hq_ : World.drewN wr _ = wr; have n0_ : Aside0 (Kd.R k34 34 wr w.heap.size (fun _ => True) u4 aI) := ⟨by rw [← hq_]; exact (rR_ aj.out)⟩; have n1_ : Aside0 (Below w.heap.size w wr) := ⟨by rw [← hq_]; exact (tb_ HB.out)⟩; clear aj HB hq_; have aj := n0_; have HB := n1_; clear n0_ n1_))) | ((with_reducible refine gate_callee (f := 71) rfl ?_); refine gl_ (some 22) Tryz.func71 #[.string aU] ?_; (with_reducible refine (impl_ReadDeed.calls k1 aU aK aM aN false _ ?s1 A7.out).mono ?_); (case s1 => exact GWb.below HG.out (tb_ HB.out)); rintro e ij ⟨rfl, hb⟩; refine ⟨_, rfl, ?_⟩; replace aj := rb_ aj hb; replace HB := bs_ HB hb; (try clear hb); (try clear hb2); (try clear hk); (try clear hi)) | ((with_reducible refine gate_dst (N := 9) rfl ?_); refine box_event ?hg (N := 9) ?hd (cs := #[.int .i64 0, .int .i64 0, .int .i64 0]) (t := 34) ?hr ?_; (case hd => rfl); (case hg => rfl); (case hr => first | (go_simp; done) | (go_simp; rfl)); intro aq hg ha hbox hb; replace aj := Aside0.mk (Kd.R_below (Kd.R_elderB (rR_ aj.out) aq (Nat.le_of_eq hg.symm)) hb); have an := Aside0.mk (hbox); have de := gx_ HB hg; have df := gx_ HB hg; replace HB := bs_ HB hb; clear hb hbox hg; have cO := cz_ an 0; have cP := cz_ an 1; have cQ := cz_ an 2; have cR := blk_frozen an.out 0; have cS := blk_frozen an.out 1; have cT := blk_frozen an.out 2))
       go_ret2
       exact ⟨_, tw_, by refine qR_ ?_; exact Kd.R_mono (Kd.R_far (p := ⟨aq, 2, none⟩) (Kd.R_far (p := ⟨aq, 1, none⟩) (Kd.R_far (p := ⟨aq, 0, none⟩) (Kd.R_mono aj.out (fun k_ hk => (⟨hk, hk.2⟩ : _ ∧ k_ ≠ aq))) (fun _ hk => hk.2) (.int .i64 aK)) (fun _ hk => hk.2) (.int .i64 aM)) (fun _ hk => hk.2) (.int .i64 aN)) (fun _ hk => trivial), (tb_ HB.out)⟩
     ·
      replace c8 := Bool.eq_false_iff.mpr c8
      subst c8
      have H1 : (some (aI, az)) = some (r1, r2) := by rw [if_neg (show ¬ (false = true) by decide)] at H; exact H
      clear H
      have H := H1
      clear H1
      simp only [Option.some.injEq, Prod.mk.injEq] at H
      obtain ⟨rfl, rfl⟩ := H
      go_wp2_with (first | ((with_reducible refine gate_callee (f := 70) rfl ?_); refine gl_ (some 16) Tryz.func70 #[.string (a0.extract (az : Int).toNat a0.size), .string (⟨#[10]⟩ : ByteArray)] ?_; (with_reducible refine (strings_Cut.calls (a0.extract (az : Int).toNat a0.size) (⟨#[10]⟩ : ByteArray) aU dp false _ ?s1 A6.out).mono ?_); (case s1 => exact GWb.below HG.out (tb_ HB.out)); rintro e w' ⟨rfl, ⟨nd, rfl⟩⟩; refine ⟨_, rfl, ?_⟩; (try (rw [drewN_self wr]; generalize hq_ : World.drewN wr _ = wr; have n0_ : Aside0 (Kd.R k34 34 wr w.heap.size (fun _ => True) u4 aI) := ⟨by rw [← hq_]; exact (rR_ aj.out)⟩; have n1_ : Aside0 (Below w.heap.size w wr) := ⟨by rw [← hq_]; exact (tb_ HB.out)⟩; clear aj HB hq_; have aj := n0_; have HB := n1_; clear n0_ n1_))) | ((with_reducible refine gate_callee (f := 71) rfl ?_); refine gl_ (some 22) Tryz.func71 #[.string aU] ?_; (with_reducible refine (impl_ReadDeed.calls k1 aU aK aM aN dq _ ?s1 A7.out).mono ?_); (case s1 => exact GWb.below HG.out (tb_ HB.out)); rintro e gu ⟨rfl, hb⟩; refine ⟨_, rfl, ?_⟩; replace aj := rb_ aj hb; replace HB := bs_ HB hb; (try clear hb); (try clear hb2); (try clear hk); (try clear hi)) | ((with_reducible refine gate_dst (N := 9) rfl ?_); refine box_event ?hg (N := 9) ?hd (cs := #[.int .i64 0, .int .i64 0, .int .i64 0]) (t := 34) ?hr ?_; (case hd => rfl); (case hg => rfl); (case hr => first | (go_simp; done) | (go_simp; rfl)); intro aq hg h6 hbox hb; replace aj := Aside0.mk (Kd.R_below (Kd.R_elderB (rR_ aj.out) aq (Nat.le_of_eq hg.symm)) hb); have an := Aside0.mk (hbox); have de := gx_ HB hg; have df := gx_ HB hg; replace HB := bs_ HB hb; clear hb hbox hg; have bW := cz_ an 0; have bX := cz_ an 1; have bZ := cz_ an 2; have b0 := blk_frozen an.out 0; have b1 := blk_frozen an.out 1; have b2 := blk_frozen an.out 2))
      go_ret2
      exact ⟨_, tw_, by refine qR_ ?_; exact Kd.R_mono (Kd.R_far (p := ⟨aq, 2, none⟩) (Kd.R_far (p := ⟨aq, 1, none⟩) (Kd.R_far (p := ⟨aq, 0, none⟩) (Kd.R_mono aj.out (fun k_ hk => (⟨hk, hk.2⟩ : _ ∧ k_ ≠ aq))) (fun _ hk => hk.2) (.int .i64 aK)) (fun _ hk => hk.2) (.int .i64 aM)) (fun _ hk => hk.2) (.int .i64 aN)) (fun _ hk => trivial), (tb_ HB.out)⟩
    ·
     rw [if_neg c5] at H
     exact absurd H (by simp)
   ·
    rw [if_neg c4] at H
    exact absurd H (by simp)

/-! ### impl_StoreMend: function 14 -/
def impl_StoreMend.f (k : Nat) (a0_0 : ByteArray) (a0_1 : ByteArray) (a0_2 : Int) : Option (ByteArray × ByteArray × Int × Bool) := (impl_StoreOk.f k a0_0 a0_1 a0_2).bind fun ch => (if ch = true then ((impl_ReadJournal.f k a0_1).bind fun ay => (if 0 ≤ ay.2 then (if ay.2 ≤ (a0_1.size : Int) then (some (a0_0, a0_1.extract 0 (ay.2 : Int).toNat, mn a0_2 ay.2, true)) else (none)) else (none))) else (some ((⟨#[]⟩ : ByteArray), (⟨#[]⟩ : ByteArray), 0, false)))
theorem impl_StoreMend.mono : ∀ a0 a1 a2 k, LeO (impl_StoreMend.f k a0 a1 a2) (impl_StoreMend.f (k + 1) a0 a1 a2) := by
 intro a0 a1 a2 k
 unfold impl_StoreMend.f
 repeat' (with_reducible first | exact impl_ReadJournal.mono _ _ | exact impl_StoreOk.mono _ _ _ _ | exact mr_ | exact mn_ | refine mi_ ?_ ?_ | refine mb_ ?_ (fun _ => ?_))
set_option maxHeartbeats 8000000 in
set_option maxRecDepth 100000 in
theorem impl_StoreMend.calls (k : Nat) (a0_0 : ByteArray) (a0_1 : ByteArray) (a0_2 : Int) (r1 : ByteArray) (r2 : ByteArray) (r3 : Int) (r4 : Bool) (w : World) (hG : GWb w) (h : impl_StoreMend.f k a0_0 a0_1 a0_2 = some (r1, r2, r3, r4)) :
  Calls Tryz.prog 14 #[.agg #[.string a0_0, .string a0_1, .int .i64 a0_2]] w fun e w' => e = .returned (.tuple #[.agg #[.string r1, .string r2, .int .i64 r3], .bool r4]) ∧ Below w.heap.size w w' := by
 have HG := Aside0.mk hG
 clear hG
 have hu25 := Tryz.underlying25
 have HB := Aside0.mk (Below.refl w.heap.size w)
 have H : ((impl_StoreOk.f k a0_0 a0_1 a0_2).bind fun ch => (if ch = true then ((impl_ReadJournal.f k a0_1).bind fun ay => (if 0 ≤ ay.2 then (if ay.2 ≤ (a0_1.size : Int) then (some (a0_0, a0_1.extract 0 (ay.2 : Int).toNat, mn a0_2 ay.2, true)) else (none)) else (none))) else (some ((⟨#[]⟩ : ByteArray), (⟨#[]⟩ : ByteArray), 0, false)))) = some (r1, r2, r3, r4) := h
 clear h
 obtain ⟨ch, A2, H⟩ := bnd_ H
 try dsimp only at H
 by_cases c3 : ch = true
 ·
  subst c3
  have H1 : ((impl_ReadJournal.f k a0_1).bind fun ay => (if 0 ≤ ay.2 then (if ay.2 ≤ (a0_1.size : Int) then (some (a0_0, a0_1.extract 0 (ay.2 : Int).toNat, mn a0_2 ay.2, true)) else (none)) else (none))) = some (r1, r2, r3, r4) := by rw [if_pos rfl] at H; exact H
  clear H
  have H := H1
  clear H1
  obtain ⟨⟨gy, bj⟩, A4, H⟩ := bnd_ H
  try dsimp only at H
  by_cases c5 : 0 ≤ bj
  ·
   rw [if_pos c5] at H
   have dm := eq_true c5
   have dn : decide (0 ≤ bj) = true := decide_eq_true c5
   clear c5
   by_cases c6 : bj ≤ (a0_1.size : Int)
   ·
    rw [if_pos c6] at H
    have h7 := eq_true c6
    have h8 : decide (bj ≤ (a0_1.size : Int)) = true := decide_eq_true c6
    clear c6
    obtain ⟨gz, ca⟩ : ∃ j_ : Int, (mn a0_2 bj) = j_ := ⟨_, rfl⟩
    replace H : (some (a0_0, a0_1.extract 0 (bj : Int).toNat, gz, true)) = some (r1, r2, r3, r4) := by first | (rw [ca] at H; exact H) | (simp only [ca] at H ⊢; exact H)
    (try rw [ca] at A2)
    (try rw [ca] at A4)
    have hji7_ : (if bj < a0_2 then bj else a0_2) = gz := ca
    simp only [Option.some.injEq, Prod.mk.injEq] at H
    obtain ⟨rfl, rfl, rfl, rfl⟩ := H
    go_enter Tryz.func14, Tryz.ntmps14
    go_wp2_with (first | ((with_reducible refine gate_dst (N := 1) rfl ?_); refine box_event ?hg (N := 1) ?hd (cs := #[.string a0_0, .string a0_1, .int .i64 a0_2]) (t := 25) ?hr ?_; (case hd => rfl); (case hg => rfl); (case hr => first | (go_simp; done) | (go_simp; rfl)); intro dP hg w8 hbox hb; have ah := Aside0.mk (hbox); have dQ := gx_ HB hg; have dR := gx_ HB hg; replace HB := bs_ HB hb; clear hb hbox hg) | ((with_reducible refine gate_dst (N := 2) rfl ?_); refine box_event ?hg (N := 2) ?hd (cs := #[.string (⟨#[]⟩ : ByteArray), .string (⟨#[]⟩ : ByteArray), .int .i64 0]) (t := 25) ?hr ?_; (case hd => rfl); (case hg => rfl); (case hr => first | (go_simp; done) | (go_simp; rfl)); intro ci hg w9 hbox hb; have ap := Aside0.mk (hbox); have dS := gx_ HB hg; have dT := gx_ HB hg; replace HB := bs_ HB hb; have aV := nl_ ah hg; have aW := ng_ ah hg; replace ah := bb_ ah hb; clear hb hbox hg; have hc := aV.out; have hf := aW.out; have eJ := cz_ ah 0; have eK := cz_ ah 1; have eL := cz_ ah 2; have eM := blk_frozen ah.out 0; have eN := blk_frozen ah.out 1; have eO := blk_frozen ah.out 2) | ((with_reducible refine gate_callee (f := 31) rfl ?_); refine gl_ (some 7) Tryz.func31 #[.agg #[.string a0_0, .string a0_1, .int .i64 a0_2]] ?_; (with_reducible refine (impl_StoreOk.calls k a0_0 a0_1 a0_2 true _ ?s1 A2.out).mono ?_); (case s1 => exact GWb.below HG.out (tb_ HB.out)); rintro e g8 ⟨rfl, hb⟩; refine ⟨_, rfl, ?_⟩; replace ah := bb_ ah hb; replace ap := bb_ ap hb; replace HB := bs_ HB hb; (try clear hb); (try clear hb2); (try clear hk); (try clear hi); have cI := cz_ ah 0; have cJ := cz_ ah 1; have cK := cz_ ah 2; have cL := blk_frozen ah.out 0; have cM := blk_frozen ah.out 1; have cN := blk_frozen ah.out 2) | ((with_reducible refine gate_callee (f := 42) rfl ?_); refine gl_ (some 13) Tryz.func42 #[.string a0_1] ?_; (with_reducible refine (impl_ReadJournal.calls k a0_1 gy bj _ ?s1 A4.out).mono ?_); (case s1 => exact GWb.below HG.out (tb_ HB.out)); rintro e g9 ⟨h9, rfl, ho0, hb⟩; refine ⟨_, rfl, ?_⟩; have hh := rx_ ho0 HB; replace ah := bb_ ah hb; replace ap := bb_ ap hb; replace HB := bs_ HB hb; (try clear hb); (try clear hb2); (try clear hk); (try clear hi); (try clear ho0); have b3 := cz_ ah 0; have b4 := cz_ ah 1; have b5 := cz_ ah 2; have b6 := blk_frozen ah.out 0; have b7 := blk_frozen ah.out 1; have b8 := blk_frozen ah.out 2; have eP := cz_ ap 0; have eQ := cz_ ap 1; have eR := cz_ ap 2; have eS := blk_frozen ap.out 0; have eT := blk_frozen ap.out 1; have eU := blk_frozen ap.out 2))
    refine bodyPost_ret (results_ct rfl _ _ ci 25 #[.string a0_0, .string (a0_1.extract 0 (bj : Int).toNat), .int .i64 gz] (0, 0) _ rfl (ps_ ap.out) Tryz.underlying25 rfl (by kernel_rfl)) rfl ?_
    exact ⟨by first | rfl | (simp [errW_none, errW_some, Option.map_none, Option.map_some] <;> rfl) | (simp only [← ca]; first | rfl | (simp [errW_none, errW_some, Option.map_none, Option.map_some] <;> rfl)) | (simp [*, errW_none, errW_some] <;> rfl), (tb_ HB.out)⟩
   ·
    rw [if_neg c6] at H
    exact absurd H (by simp)
  ·
   rw [if_neg c5] at H
   exact absurd H (by simp)
 ·
  replace c3 := Bool.eq_false_iff.mpr c3
  subst c3
  have H1 : (some ((⟨#[]⟩ : ByteArray), (⟨#[]⟩ : ByteArray), 0, false)) = some (r1, r2, r3, r4) := by rw [if_neg (show ¬ (false = true) by decide)] at H; exact H
  clear H
  have H := H1
  clear H1
  simp only [Option.some.injEq, Prod.mk.injEq] at H
  obtain ⟨rfl, rfl, rfl, rfl⟩ := H
  go_enter Tryz.func14, Tryz.ntmps14
  go_wp2_with (first | ((with_reducible refine gate_dst (N := 1) rfl ?_); refine box_event ?hg (N := 1) ?hd (cs := #[.string a0_0, .string a0_1, .int .i64 a0_2]) (t := 25) ?hr ?_; (case hd => rfl); (case hg => rfl); (case hr => first | (go_simp; done) | (go_simp; rfl)); intro dP hg ia hbox hb; have ah := Aside0.mk (hbox); have dQ := gx_ HB hg; have dR := gx_ HB hg; replace HB := bs_ HB hb; clear hb hbox hg) | ((with_reducible refine gate_dst (N := 2) rfl ?_); refine box_event ?hg (N := 2) ?hd (cs := #[.string (⟨#[]⟩ : ByteArray), .string (⟨#[]⟩ : ByteArray), .int .i64 0]) (t := 25) ?hr ?_; (case hd => rfl); (case hg => rfl); (case hr => first | (go_simp; done) | (go_simp; rfl)); intro ci hg gu hbox hb; have ap := Aside0.mk (hbox); have dS := gx_ HB hg; have dT := gx_ HB hg; replace HB := bs_ HB hb; have aV := nl_ ah hg; have aW := ng_ ah hg; replace ah := bb_ ah hb; clear hb hbox hg; have hj := aV.out; have hl := aW.out; have bW := cz_ ah 0; have bX := cz_ ah 1; have bZ := cz_ ah 2; have b0 := blk_frozen ah.out 0; have b1 := blk_frozen ah.out 1; have b2 := blk_frozen ah.out 2) | ((with_reducible refine gate_callee (f := 31) rfl ?_); refine gl_ (some 7) Tryz.func31 #[.agg #[.string a0_0, .string a0_1, .int .i64 a0_2]] ?_; (with_reducible refine (impl_StoreOk.calls k a0_0 a0_1 a0_2 false _ ?s1 A2.out).mono ?_); (case s1 => exact GWb.below HG.out (tb_ HB.out)); rintro e gR ⟨rfl, hb⟩; refine ⟨_, rfl, ?_⟩; replace ah := bb_ ah hb; replace ap := bb_ ap hb; replace HB := bs_ HB hb; (try clear hb); (try clear hb2); (try clear hk); (try clear hi); have cU := cz_ ap 0; have cV := cz_ ap 1; have cW := cz_ ap 2; have cX := blk_frozen ap.out 0; have cY := blk_frozen ap.out 1; have cZ := blk_frozen ap.out 2))
  refine bodyPost_ret (results_ct rfl _ _ ci 25 #[.string (⟨#[]⟩ : ByteArray), .string (⟨#[]⟩ : ByteArray), .int .i64 0] (0, 0) _ rfl (ps_ ap.out) Tryz.underlying25 rfl (by kernel_rfl)) rfl ?_
  exact ⟨tw_, (tb_ HB.out)⟩

/-! ### laws_eqStore: function 15 -/
def laws_eqStore.f (a0_0 : ByteArray) (a0_1 : ByteArray) (a0_2 : Int) (a1_0 : ByteArray) (a1_1 : ByteArray) (a1_2 : Int) : Option (Bool) := if a0_0.toList = a1_0.toList then (if a0_1.toList = a1_1.toList then (if a0_2 = a1_2 then (some true) else (some false)) else (some false)) else (some false)
set_option maxHeartbeats 8000000 in
set_option maxRecDepth 100000 in
theorem laws_eqStore.calls (a0_0 : ByteArray) (a0_1 : ByteArray) (a0_2 : Int) (a1_0 : ByteArray) (a1_1 : ByteArray) (a1_2 : Int) (r : Bool) (w : World) (h : laws_eqStore.f a0_0 a0_1 a0_2 a1_0 a1_1 a1_2 = some r) :
  Calls Tryz.prog 15 #[.agg #[.string a0_0, .string a0_1, .int .i64 a0_2], .agg #[.string a1_0, .string a1_1, .int .i64 a1_2]] w fun e w' => e = .returned (.bool r) ∧ Below w.heap.size w w' := by
 have hu25 := Tryz.underlying25
 have HB := Aside0.mk (Below.refl w.heap.size w)
 have H : (if a0_0.toList = a1_0.toList then (if a0_1.toList = a1_1.toList then (if a0_2 = a1_2 then (some true) else (some false)) else (some false)) else (some false)) = some r := h
 clear h
 by_cases c3 : a0_0.toList = a1_0.toList
 ·
  rw [if_pos c3] at H
  have b9 : (a0_0.toList == a1_0.toList) = true := beq_iff_eq.mpr c3
  have cu : (a0_0.toList != a1_0.toList) = false := bne_eq_false_iff_eq.mpr c3
  clear c3
  by_cases c4 : a0_1.toList = a1_1.toList
  ·
   rw [if_pos c4] at H
   have dI : (a0_1.toList == a1_1.toList) = true := beq_iff_eq.mpr c4
   have dJ : (a0_1.toList != a1_1.toList) = false := bne_eq_false_iff_eq.mpr c4
   clear c4
   by_cases c5 : a0_2 = a1_2
   ·
    rw [if_pos c5] at H
    have dm : (a0_2 == a1_2) = true := beq_iff_eq.mpr c5
    have dn : (a0_2 != a1_2) = false := bne_eq_false_iff_eq.mpr c5
    clear c5
    obtain rfl := Option.some.inj H
    go_enter Tryz.func15, Tryz.ntmps15
    go_wp2_with (first | ((with_reducible refine gate_dst (N := 2) rfl ?_); refine box_event ?hg (N := 2) ?hd (cs := #[.string a0_0, .string a0_1, .int .i64 a0_2]) (t := 25) ?hr ?_; (case hd => rfl); (case hg => rfl); (case hr => first | (go_simp; done) | (go_simp; rfl)); intro cj hg w6 hbox hb; have af := Aside0.mk (hbox); have ck := gx_ HB hg; have cl := gx_ HB hg; replace HB := bs_ HB hb; clear hb hbox hg) | ((with_reducible refine gate_dst (N := 3) rfl ?_); refine box_event ?hg (N := 3) ?hd (cs := #[.string a1_0, .string a1_1, .int .i64 a1_2]) (t := 25) ?hr ?_; (case hd => rfl); (case hg => rfl); (case hr => first | (go_simp; done) | (go_simp; rfl)); intro cm hg w7 hbox hb; have ak := Aside0.mk (hbox); have cn := gx_ HB hg; have co := gx_ HB hg; replace HB := bs_ HB hb; have ar := nl_ af hg; have au := ng_ af hg; replace af := bb_ af hb; clear hb hbox hg; have ib := ar.out; have ic := au.out; have gA := cz_ af 0; have gB := cz_ af 1; have gC := cz_ af 2; have gD := blk_frozen af.out 0; have gF := blk_frozen af.out 1; have gG := blk_frozen af.out 2; have eV := cz_ ak 0; have eW := cz_ ak 1; have eX := cz_ ak 2; have eY := blk_frozen ak.out 0; have eZ := blk_frozen ak.out 1; have e0 := blk_frozen ak.out 2))
    go_ret
    exact ⟨tw_, (tb_ HB.out)⟩
   ·
    rw [if_neg c5] at H
    have dm : (a0_2 == a1_2) = false := beq_eq_false_iff_ne.mpr c5
    have dn : (a0_2 != a1_2) = true := bne_iff_ne.mpr c5
    obtain rfl := Option.some.inj H
    go_enter Tryz.func15, Tryz.ntmps15
    go_wp2_with (first | ((with_reducible refine gate_dst (N := 2) rfl ?_); refine box_event ?hg (N := 2) ?hd (cs := #[.string a0_0, .string a0_1, .int .i64 a0_2]) (t := 25) ?hr ?_; (case hd => rfl); (case hg => rfl); (case hr => first | (go_simp; done) | (go_simp; rfl)); intro cj hg h4 hbox hb; have af := Aside0.mk (hbox); have ck := gx_ HB hg; have cl := gx_ HB hg; replace HB := bs_ HB hb; clear hb hbox hg) | ((with_reducible refine gate_dst (N := 3) rfl ?_); refine box_event ?hg (N := 3) ?hd (cs := #[.string a1_0, .string a1_1, .int .i64 a1_2]) (t := 25) ?hr ?_; (case hd => rfl); (case hg => rfl); (case hr => first | (go_simp; done) | (go_simp; rfl)); intro cm hg g8 hbox hb; have ak := Aside0.mk (hbox); have cn := gx_ HB hg; have co := gx_ HB hg; replace HB := bs_ HB hb; have ar := nl_ af hg; have au := ng_ af hg; replace af := bb_ af hb; clear hb hbox hg; have hm := ar.out; have hn := au.out; have bC := cz_ af 0; have bD := cz_ af 1; have bE := cz_ af 2; have bF := blk_frozen af.out 0; have bG := blk_frozen af.out 1; have bH := blk_frozen af.out 2; have b3 := cz_ ak 0; have b4 := cz_ ak 1; have b5 := cz_ ak 2; have b6 := blk_frozen ak.out 0; have b7 := blk_frozen ak.out 1; have b8 := blk_frozen ak.out 2))
    go_ret
    exact ⟨tw_, (tb_ HB.out)⟩
  ·
   rw [if_neg c4] at H
   have dI : (a0_1.toList == a1_1.toList) = false := beq_eq_false_iff_ne.mpr c4
   have dJ : (a0_1.toList != a1_1.toList) = true := bne_iff_ne.mpr c4
   obtain rfl := Option.some.inj H
   go_enter Tryz.func15, Tryz.ntmps15
   go_wp2_with (first | ((with_reducible refine gate_dst (N := 2) rfl ?_); refine box_event ?hg (N := 2) ?hd (cs := #[.string a0_0, .string a0_1, .int .i64 a0_2]) (t := 25) ?hr ?_; (case hd => rfl); (case hg => rfl); (case hr => first | (go_simp; done) | (go_simp; rfl)); intro cj hg ha hbox hb; have af := Aside0.mk (hbox); have ck := gx_ HB hg; have cl := gx_ HB hg; replace HB := bs_ HB hb; clear hb hbox hg) | ((with_reducible refine gate_dst (N := 3) rfl ?_); refine box_event ?hg (N := 3) ?hd (cs := #[.string a1_0, .string a1_1, .int .i64 a1_2]) (t := 25) ?hr ?_; (case hd => rfl); (case hg => rfl); (case hr => first | (go_simp; done) | (go_simp; rfl)); intro cm hg ia hbox hb; have ak := Aside0.mk (hbox); have cn := gx_ HB hg; have co := gx_ HB hg; replace HB := bs_ HB hb; have ar := nl_ af hg; have au := ng_ af hg; replace af := bb_ af hb; clear hb hbox hg; have hq := ar.out; have hs := au.out; have e1 := cz_ af 0; have e2 := cz_ af 1; have e3 := cz_ af 2; have e4 := blk_frozen af.out 0; have e5 := blk_frozen af.out 1; have e6 := blk_frozen af.out 2; have bW := cz_ ak 0; have bX := cz_ ak 1; have bZ := cz_ ak 2; have b0 := blk_frozen ak.out 0; have b1 := blk_frozen ak.out 1; have b2 := blk_frozen ak.out 2))
   go_ret
   exact ⟨tw_, (tb_ HB.out)⟩
 ·
  rw [if_neg c3] at H
  have b9 : (a0_0.toList == a1_0.toList) = false := beq_eq_false_iff_ne.mpr c3
  have cu : (a0_0.toList != a1_0.toList) = true := bne_iff_ne.mpr c3
  obtain rfl := Option.some.inj H
  go_enter Tryz.func15, Tryz.ntmps15
  go_wp2_with (first | ((with_reducible refine gate_dst (N := 2) rfl ?_); refine box_event ?hg (N := 2) ?hd (cs := #[.string a0_0, .string a0_1, .int .i64 a0_2]) (t := 25) ?hr ?_; (case hd => rfl); (case hg => rfl); (case hr => first | (go_simp; done) | (go_simp; rfl)); intro cj hg gR hbox hb; have af := Aside0.mk (hbox); have ck := gx_ HB hg; have cl := gx_ HB hg; replace HB := bs_ HB hb; clear hb hbox hg) | ((with_reducible refine gate_dst (N := 3) rfl ?_); refine box_event ?hg (N := 3) ?hd (cs := #[.string a1_0, .string a1_1, .int .i64 a1_2]) (t := 25) ?hr ?_; (case hd => rfl); (case hg => rfl); (case hr => first | (go_simp; done) | (go_simp; rfl)); intro cm hg ik hbox hb; have ak := Aside0.mk (hbox); have cn := gx_ HB hg; have co := gx_ HB hg; replace HB := bs_ HB hb; have ar := nl_ af hg; have au := ng_ af hg; replace af := bb_ af hb; clear hb hbox hg; have ht := ar.out; have hu := au.out; have e7 := cz_ af 0; have e8 := cz_ af 1; have e9 := cz_ af 2; have fa := blk_frozen af.out 0; have fb := blk_frozen af.out 1; have fc := blk_frozen af.out 2; have fd := cz_ ak 0; have fe := cz_ ak 1; have ff := cz_ ak 2; have fg := blk_frozen ak.out 0; have fh := blk_frozen ak.out 1; have fi := blk_frozen ak.out 2))
  go_ret
  exact ⟨tw_, (tb_ HB.out)⟩

/-! ### laws_FnExactStoreMend: function 3 -/
def laws_FnExactStoreMend.f (k : Nat) (a0_0 : ByteArray) (a0_1 : ByteArray) (a0_2 : Int) : Option (Bool) := (laws_szStore.f a0_0 a0_1 a0_2 1048576).bind fun bg => (if bg < 0 then (some true) else ((laws_toStore.f a0_0 a0_1 a0_2).bind fun bh => ((spec_StoreMend.f k bh.1 bh.2.1 bh.2.2).bind fun aQ => ((laws_toStore.f a0_0 a0_1 a0_2).bind fun bi => ((impl_StoreMend.f k bi.1 bi.2.1 bi.2.2).bind fun aR => ((laws_eqStore.f aR.1 aR.2.1 aR.2.2.1 aQ.1 aQ.2.1 aQ.2.2.1).bind fun cp => (if cp = true then (if (aR.2.2.2 != aQ.2.2.2) = true then (some false) else (some true)) else (some false))))))))
theorem laws_FnExactStoreMend.mono : ∀ a0 a1 a2 k, LeO (laws_FnExactStoreMend.f k a0 a1 a2) (laws_FnExactStoreMend.f (k + 1) a0 a1 a2) := by
 intro a0 a1 a2 k
 unfold laws_FnExactStoreMend.f
 repeat' (with_reducible first | exact impl_StoreMend.mono _ _ _ _ | exact spec_StoreMend.mono _ _ _ _ | exact mr_ | exact mn_ | refine mi_ ?_ ?_ | refine mb_ ?_ (fun _ => ?_))
set_option maxHeartbeats 8000000 in
set_option maxRecDepth 100000 in
theorem laws_FnExactStoreMend.calls (k : Nat) (a0_0 : ByteArray) (a0_1 : ByteArray) (a0_2 : Int) (r : Bool) (w : World) (hG : GWb w) (h : laws_FnExactStoreMend.f k a0_0 a0_1 a0_2 = some r) :
  Calls Tryz.prog 3 #[.agg #[.string a0_0, .string a0_1, .int .i64 a0_2]] w fun e w' => e = .returned (.bool r) ∧ Below w.heap.size w w' := by
 have HG := Aside0.mk hG
 clear hG
 have hu23 := Tryz.underlying23
 have hu25 := Tryz.underlying25
 have HB := Aside0.mk (Below.refl w.heap.size w)
 have H : ((laws_szStore.f a0_0 a0_1 a0_2 1048576).bind fun bg => (if bg < 0 then (some true) else ((laws_toStore.f a0_0 a0_1 a0_2).bind fun bh => ((spec_StoreMend.f k bh.1 bh.2.1 bh.2.2).bind fun aQ => ((laws_toStore.f a0_0 a0_1 a0_2).bind fun bi => ((impl_StoreMend.f k bi.1 bi.2.1 bi.2.2).bind fun aR => ((laws_eqStore.f aR.1 aR.2.1 aR.2.2.1 aQ.1 aQ.2.1 aQ.2.2.1).bind fun cp => (if cp = true then (if (aR.2.2.2 != aQ.2.2.2) = true then (some false) else (some true)) else (some false))))))))) = some r := h
 clear h
 obtain ⟨bg, A2, H⟩ := bnd_ H
 try dsimp only at H
 by_cases c3 : bg < 0
 ·
  rw [if_pos c3] at H
  have b9 : decide (bg < 0) = true := decide_eq_true c3
  clear c3
  obtain rfl := Option.some.inj H
  go_enter Tryz.func3, Tryz.ntmps3
  go_wp2_with (first | ((with_reducible refine gate_dst (N := 1) rfl ?_); refine box_event ?hg (N := 1) ?hd (cs := #[.string a0_0, .string a0_1, .int .i64 a0_2]) (t := 23) ?hr ?_; (case hd => rfl); (case hg => rfl); (case hr => first | (go_simp; done) | (go_simp; rfl)); intro cq hg w4 hbox hb; have aa := Aside0.mk (hbox); have cr := gx_ HB hg; have ct := gx_ HB hg; replace HB := bs_ HB hb; clear hb hbox hg; have gH := cz_ aa 0; have gI := cz_ aa 1; have gJ := cz_ aa 2; have gL := blk_frozen aa.out 0; have gM := blk_frozen aa.out 1; have gN := blk_frozen aa.out 2) | ((with_reducible refine gate_callee (f := 11) rfl ?_); refine gl_ (some 10) Tryz.func11 #[.agg #[.string a0_0, .string a0_1, .int .i64 a0_2], .int .i64 1048576] ?_; (with_reducible refine (laws_szStore.calls a0_0 a0_1 a0_2 1048576 bg _ A2.out).mono ?_); rintro e w6 ⟨rfl, hb⟩; refine ⟨_, rfl, ?_⟩; replace aa := bb_ aa hb; replace HB := bs_ HB hb; (try clear hb); (try clear hb2); (try clear hk); (try clear hi)))
  go_ret
  exact ⟨tw_, (tb_ HB.out)⟩
 ·
  rw [if_neg c3] at H
  have b9 : decide (bg < 0) = false := decide_eq_false c3
  clear c3
  obtain ⟨⟨bo, bp, bq⟩, A7, H⟩ := bnd_ H
  try dsimp only at H
  obtain ⟨⟨aX, aY, aZ, a3⟩, A8, H⟩ := bnd_ H
  try dsimp only at H
  obtain ⟨⟨br, bs, bu⟩, A9, H⟩ := bnd_ H
  try dsimp only at H
  obtain ⟨⟨a4, a5, a6, a7⟩, A10, H⟩ := bnd_ H
  try dsimp only at H
  obtain ⟨cp, A11, H⟩ := bnd_ H
  try dsimp only at H
  by_cases c12 : cp = true
  ·
   subst c12
   have H1 : (if (a7 != a3) = true then (some false) else (some true)) = some r := by rw [if_pos rfl] at H; exact H
   clear H
   have H := H1
   clear H1
   by_cases c13 : (a7 != a3) = true
   ·
    rw [if_pos c13] at H
    have dU : (a7 != a3) = true := c13
    (try (have dV : decide (a7 = a3) = false := by simpa using c13))
    (try (have dW : (a7 == a3) = false := by simpa using c13))
    (try (have hv : ¬ (a7 = a3) := by simpa using c13))
    clear c13
    obtain rfl := Option.some.inj H
    go_enter Tryz.func3, Tryz.ntmps3
    go_wp2_with (first | ((with_reducible refine gate_dst (N := 1) rfl ?_); refine box_event ?hg (N := 1) ?hd (cs := #[.string a0_0, .string a0_1, .int .i64 a0_2]) (t := 23) ?hr ?_; (case hd => rfl); (case hg => rfl); (case hr => first | (go_simp; done) | (go_simp; rfl)); intro cq hg g9 hbox hb; have aa := Aside0.mk (hbox); have cr := gx_ HB hg; have ct := gx_ HB hg; replace HB := bs_ HB hb; clear hb hbox hg; have b3 := cz_ aa 0; have b4 := cz_ aa 1; have b5 := cz_ aa 2; have b6 := blk_frozen aa.out 0; have b7 := blk_frozen aa.out 1; have b8 := blk_frozen aa.out 2) | ((with_reducible refine gate_callee (f := 11) rfl ?_); refine gl_ (some 10) Tryz.func11 #[.agg #[.string a0_0, .string a0_1, .int .i64 a0_2], .int .i64 1048576] ?_; (with_reducible refine (laws_szStore.calls a0_0 a0_1 a0_2 1048576 bg _ A2.out).mono ?_); rintro e ha ⟨rfl, hb⟩; refine ⟨_, rfl, ?_⟩; replace aa := bb_ aa hb; replace HB := bs_ HB hb; (try clear hb); (try clear hb2); (try clear hk); (try clear hi); have cO := cz_ aa 0; have cP := cz_ aa 1; have cQ := cz_ aa 2; have cR := blk_frozen aa.out 0; have cS := blk_frozen aa.out 1; have cT := blk_frozen aa.out 2) | ((with_reducible refine gate_callee (f := 13) rfl ?_); refine gl_ (some 15) Tryz.func13 #[.agg #[.string a0_0, .string a0_1, .int .i64 a0_2]] ?_; (with_reducible refine (laws_toStore.calls a0_0 a0_1 a0_2 bo bp bq _ A7.out).mono ?_); rintro e gu ⟨rfl, hb⟩; refine ⟨_, rfl, ?_⟩; replace aa := bb_ aa hb; replace HB := bs_ HB hb; (try clear hb); (try clear hb2); (try clear hk); (try clear hi)) | ((with_reducible refine gate_callee (f := 12) rfl ?_); refine gl_ (some 16) Tryz.func12 #[.agg #[.string bo, .string bp, .int .i64 bq]] ?_; (with_reducible refine (spec_StoreMend.calls k bo bp bq aX aY aZ a3 _ A8.out).mono ?_); rintro e h6 ⟨rfl, hb⟩; refine ⟨_, rfl, ?_⟩; replace aa := bb_ aa hb; replace HB := bs_ HB hb; (try clear hb); (try clear hb2); (try clear hk); (try clear hi)) | ((with_reducible refine gate_dst (N := 4) rfl ?_); refine box_event ?hg (N := 4) ?hd (cs := #[.string (⟨#[]⟩ : ByteArray), .string (⟨#[]⟩ : ByteArray), .int .i64 0]) (t := 25) ?hr ?_; (case hd => rfl); (case hg => rfl); (case hr => first | (go_simp; done) | (go_simp; rfl)); intro bw hg il hbox hb; have ac := Aside0.mk (hbox); have dg := gx_ HB hg; have dh := gx_ HB hg; replace HB := bs_ HB hb; have aA := nl_ aa hg; have aC := ng_ aa hg; replace aa := bb_ aa hb; clear hb hbox hg; have hw := aC.out; have hx := aA.out; have cU := cz_ ac 0; have cV := cz_ ac 1; have cW := cz_ ac 2; have cX := blk_frozen ac.out 0; have cY := blk_frozen ac.out 1; have cZ := blk_frozen ac.out 2; have bI := cz_ aa 0; have bJ := cz_ aa 1; have bK := cz_ aa 2; have bL := blk_frozen aa.out 0; have bM := blk_frozen aa.out 1; have bN := blk_frozen aa.out 2) | ((with_reducible refine gate_callee (f := 13) rfl ?_); refine gl_ (some 21) Tryz.func13 #[.agg #[.string a0_0, .string a0_1, .int .i64 a0_2]] ?_; (with_reducible refine (laws_toStore.calls a0_0 a0_1 a0_2 br bs bu _ A9.out).mono ?_); rintro e im ⟨rfl, hb⟩; refine ⟨_, rfl, ?_⟩; replace aa := bb_ aa hb; replace ac := Aside0.mk (blk_below (g := bw) (o := .cells #[.string aX, .string aY, .int .i64 aZ] 25 (0, 0)) (ps_ ac.out) hb); replace HB := bs_ HB hb; (try clear hb); (try clear hb2); (try clear hk); (try clear hi)) | ((with_reducible refine gate_callee (f := 14) rfl ?_); refine gl_ (some 22) Tryz.func14 #[.agg #[.string br, .string bs, .int .i64 bu]] ?_; (with_reducible refine (impl_StoreMend.calls k br bs bu a4 a5 a6 a7 _ ?s1 A10.out).mono ?_); (case s1 => exact GWb.below HG.out (tb_ HB.out)); rintro e io ⟨rfl, hb⟩; refine ⟨_, rfl, ?_⟩; replace aa := bb_ aa hb; replace ac := bb_ ac hb; replace HB := bs_ HB hb; (try clear hb); (try clear hb2); (try clear hk); (try clear hi)) | ((with_reducible refine gate_dst (N := 6) rfl ?_); refine box_event ?hg (N := 6) ?hd (cs := #[.string (⟨#[]⟩ : ByteArray), .string (⟨#[]⟩ : ByteArray), .int .i64 0]) (t := 25) ?hr ?_; (case hd => rfl); (case hg => rfl); (case hr => first | (go_simp; done) | (go_simp; rfl)); intro bx hg ip hbox hb; have al := Aside0.mk (hbox); have di := gx_ HB hg; have dj := gx_ HB hg; replace HB := bs_ HB hb; have aD := nl_ aa hg; have aE := ng_ aa hg; replace aa := bb_ aa hb; have aG := nl_ ac hg; have aH := ng_ ac hg; replace ac := bb_ ac hb; clear hb hbox hg; have hy := aE.out; have hz := aD.out; have dw := aH.out; have dx := aG.out; have bO := cz_ al 0; have bP := cz_ al 1; have bQ := cz_ al 2; have bR := blk_frozen al.out 0; have bS := blk_frozen al.out 1; have bU := blk_frozen al.out 2; have fj := cz_ ac 0; have fk := cz_ ac 1; have fl := cz_ ac 2; have fm := blk_frozen ac.out 0; have fn := blk_frozen ac.out 1; have fo := blk_frozen ac.out 2) | ((with_reducible refine gate_callee (f := 15) rfl ?_); refine gl_ (some 27) Tryz.func15 #[.agg #[.string a4, .string a5, .int .i64 a6], .agg #[.string aX, .string aY, .int .i64 aZ]] ?_; (with_reducible refine (laws_eqStore.calls a4 a5 a6 aX aY aZ true _ A11.out).mono ?_); rintro e iq ⟨rfl, hb⟩; refine ⟨_, rfl, ?_⟩; replace aa := bb_ aa hb; replace ac := bb_ ac hb; replace al := Aside0.mk (blk_below (g := bx) (o := .cells #[.string a4, .string a5, .int .i64 a6] 25 (0, 0)) (ps_ al.out) hb); replace HB := bs_ HB hb; (try clear hb); (try clear hb2); (try clear hk); (try clear hi)))
    go_ret
    exact ⟨tw_, (tb_ HB.out)⟩
   ·
    rw [if_neg c13] at H
    have dU : (a7 != a3) = false := by simpa using c13
    (try (have dV : decide (a7 = a3) = true := by simpa using c13))
    (try (have dW : (a7 == a3) = true := by simpa using c13))
    clear c13
    obtain rfl := Option.some.inj H
    go_enter Tryz.func3, Tryz.ntmps3
    go_wp2_with (first | ((with_reducible refine gate_dst (N := 1) rfl ?_); refine box_event ?hg (N := 1) ?hd (cs := #[.string a0_0, .string a0_1, .int .i64 a0_2]) (t := 23) ?hr ?_; (case hd => rfl); (case hg => rfl); (case hr => first | (go_simp; done) | (go_simp; rfl)); intro cq hg ir hbox hb; have aa := Aside0.mk (hbox); have cr := gx_ HB hg; have ct := gx_ HB hg; replace HB := bs_ HB hb; clear hb hbox hg; have fp := cz_ aa 0; have fq := cz_ aa 1; have fr := cz_ aa 2; have fs := blk_frozen aa.out 0; have ft := blk_frozen aa.out 1; have fu := blk_frozen aa.out 2) | ((with_reducible refine gate_callee (f := 11) rfl ?_); refine gl_ (some 10) Tryz.func11 #[.agg #[.string a0_0, .string a0_1, .int .i64 a0_2], .int .i64 1048576] ?_; (with_reducible refine (laws_szStore.calls a0_0 a0_1 a0_2 1048576 bg _ A2.out).mono ?_); rintro e iu ⟨rfl, hb⟩; refine ⟨_, rfl, ?_⟩; replace aa := bb_ aa hb; replace HB := bs_ HB hb; (try clear hb); (try clear hb2); (try clear hk); (try clear hi); have fv := cz_ aa 0; have fw := cz_ aa 1; have fx := cz_ aa 2; have fy := blk_frozen aa.out 0; have fz := blk_frozen aa.out 1; have fA := blk_frozen aa.out 2) | ((with_reducible refine gate_callee (f := 13) rfl ?_); refine gl_ (some 15) Tryz.func13 #[.agg #[.string a0_0, .string a0_1, .int .i64 a0_2]] ?_; (with_reducible refine (laws_toStore.calls a0_0 a0_1 a0_2 bo bp bq _ A7.out).mono ?_); rintro e iv ⟨rfl, hb⟩; refine ⟨_, rfl, ?_⟩; replace aa := bb_ aa hb; replace HB := bs_ HB hb; (try clear hb); (try clear hb2); (try clear hk); (try clear hi)) | ((with_reducible refine gate_callee (f := 12) rfl ?_); refine gl_ (some 16) Tryz.func12 #[.agg #[.string bo, .string bp, .int .i64 bq]] ?_; (with_reducible refine (spec_StoreMend.calls k bo bp bq aX aY aZ a3 _ A8.out).mono ?_); rintro e iw ⟨rfl, hb⟩; refine ⟨_, rfl, ?_⟩; replace aa := bb_ aa hb; replace HB := bs_ HB hb; (try clear hb); (try clear hb2); (try clear hk); (try clear hi)) | ((with_reducible refine gate_dst (N := 4) rfl ?_); refine box_event ?hg (N := 4) ?hd (cs := #[.string (⟨#[]⟩ : ByteArray), .string (⟨#[]⟩ : ByteArray), .int .i64 0]) (t := 25) ?hr ?_; (case hd => rfl); (case hg => rfl); (case hr => first | (go_simp; done) | (go_simp; rfl)); intro bw hg hZ hbox hb; have ac := Aside0.mk (hbox); have dg := gx_ HB hg; have dh := gx_ HB hg; replace HB := bs_ HB hb; have aA := nl_ aa hg; have aC := ng_ aa hg; replace aa := bb_ aa hb; clear hb hbox hg; have hA := aC.out; have hC := aA.out; have cw := cz_ ac 0; have cx := cz_ ac 1; have cy := cz_ ac 2; have cz := blk_frozen ac.out 0; have cA := blk_frozen ac.out 1; have cB := blk_frozen ac.out 2; have fB := cz_ aa 0; have fC := cz_ aa 1; have fD := cz_ aa 2; have fE := blk_frozen aa.out 0; have fF := blk_frozen aa.out 1; have fG := blk_frozen aa.out 2) | ((with_reducible refine gate_callee (f := 13) rfl ?_); refine gl_ (some 21) Tryz.func13 #[.agg #[.string a0_0, .string a0_1, .int .i64 a0_2]] ?_; (with_reducible refine (laws_toStore.calls a0_0 a0_1 a0_2 br bs bu _ A9.out).mono ?_); rintro e ix ⟨rfl, hb⟩; refine ⟨_, rfl, ?_⟩; replace aa := bb_ aa hb; replace ac := Aside0.mk (blk_below (g := bw) (o := .cells #[.string aX, .string aY, .int .i64 aZ] 25 (0, 0)) (ps_ ac.out) hb); replace HB := bs_ HB hb; (try clear hb); (try clear hb2); (try clear hk); (try clear hi)) | ((with_reducible refine gate_callee (f := 14) rfl ?_); refine gl_ (some 22) Tryz.func14 #[.agg #[.string br, .string bs, .int .i64 bu]] ?_; (with_reducible refine (impl_StoreMend.calls k br bs bu a4 a5 a6 a7 _ ?s1 A10.out).mono ?_); (case s1 => exact GWb.below HG.out (tb_ HB.out)); rintro e iy ⟨rfl, hb⟩; refine ⟨_, rfl, ?_⟩; replace aa := bb_ aa hb; replace ac := bb_ ac hb; replace HB := bs_ HB hb; (try clear hb); (try clear hb2); (try clear hk); (try clear hi)) | ((with_reducible refine gate_dst (N := 6) rfl ?_); refine box_event ?hg (N := 6) ?hd (cs := #[.string (⟨#[]⟩ : ByteArray), .string (⟨#[]⟩ : ByteArray), .int .i64 0]) (t := 25) ?hr ?_; (case hd => rfl); (case hg => rfl); (case hr => first | (go_simp; done) | (go_simp; rfl)); intro bx hg h0 hbox hb; have al := Aside0.mk (hbox); have di := gx_ HB hg; have dj := gx_ HB hg; replace HB := bs_ HB hb; have aD := nl_ aa hg; have aE := ng_ aa hg; replace aa := bb_ aa hb; have aG := nl_ ac hg; have aH := ng_ ac hg; replace ac := bb_ ac hb; clear hb hbox hg; have hD := aE.out; have hF := aD.out; have hH := aH.out; have hJ := aG.out; have fH := cz_ al 0; have fI := cz_ al 1; have fJ := cz_ al 2; have fK := blk_frozen al.out 0; have fL := blk_frozen al.out 1; have fM := blk_frozen al.out 2; have fN := cz_ ac 0; have fO := cz_ ac 1; have fP := cz_ ac 2; have fQ := blk_frozen ac.out 0; have fR := blk_frozen ac.out 1; have fS := blk_frozen ac.out 2) | ((with_reducible refine gate_callee (f := 15) rfl ?_); refine gl_ (some 27) Tryz.func15 #[.agg #[.string a4, .string a5, .int .i64 a6], .agg #[.string aX, .string aY, .int .i64 aZ]] ?_; (with_reducible refine (laws_eqStore.calls a4 a5 a6 aX aY aZ true _ A11.out).mono ?_); rintro e iz ⟨rfl, hb⟩; refine ⟨_, rfl, ?_⟩; replace aa := bb_ aa hb; replace ac := bb_ ac hb; replace al := Aside0.mk (blk_below (g := bx) (o := .cells #[.string a4, .string a5, .int .i64 a6] 25 (0, 0)) (ps_ al.out) hb); replace HB := bs_ HB hb; (try clear hb); (try clear hb2); (try clear hk); (try clear hi)))
    go_ret
    exact ⟨tw_, (tb_ HB.out)⟩
  ·
   replace c12 := Bool.eq_false_iff.mpr c12
   subst c12
   have H1 : (some false) = some r := by rw [if_neg (show ¬ (false = true) by decide)] at H; exact H
   clear H
   have H := H1
   clear H1
   obtain rfl := Option.some.inj H
   go_enter Tryz.func3, Tryz.ntmps3
   go_wp2_with (first | ((with_reducible refine gate_dst (N := 1) rfl ?_); refine box_event ?hg (N := 1) ?hd (cs := #[.string a0_0, .string a0_1, .int .i64 a0_2]) (t := 23) ?hr ?_; (case hd => rfl); (case hg => rfl); (case hr => first | (go_simp; done) | (go_simp; rfl)); intro cq hg h1 hbox hb; have aa := Aside0.mk (hbox); have cr := gx_ HB hg; have ct := gx_ HB hg; replace HB := bs_ HB hb; clear hb hbox hg; have cC := cz_ aa 0; have cD := cz_ aa 1; have cE := cz_ aa 2; have cF := blk_frozen aa.out 0; have cG := blk_frozen aa.out 1; have cH := blk_frozen aa.out 2) | ((with_reducible refine gate_callee (f := 11) rfl ?_); refine gl_ (some 10) Tryz.func11 #[.agg #[.string a0_0, .string a0_1, .int .i64 a0_2], .int .i64 1048576] ?_; (with_reducible refine (laws_szStore.calls a0_0 a0_1 a0_2 1048576 bg _ A2.out).mono ?_); rintro e iA ⟨rfl, hb⟩; refine ⟨_, rfl, ?_⟩; replace aa := bb_ aa hb; replace HB := bs_ HB hb; (try clear hb); (try clear hb2); (try clear hk); (try clear hi); have fT := cz_ aa 0; have fU := cz_ aa 1; have fV := cz_ aa 2; have fW := blk_frozen aa.out 0; have fX := blk_frozen aa.out 1; have fY := blk_frozen aa.out 2) | ((with_reducible refine gate_callee (f := 13) rfl ?_); refine gl_ (some 15) Tryz.func13 #[.agg #[.string a0_0, .string a0_1, .int .i64 a0_2]] ?_; (with_reducible refine (laws_toStore.calls a0_0 a0_1 a0_2 bo bp bq _ A7.out).mono ?_); rintro e iB ⟨rfl, hb⟩; refine ⟨_, rfl, ?_⟩; replace aa := bb_ aa hb; replace HB := bs_ HB hb; (try clear hb); (try clear hb2); (try clear hk); (try clear hi)) | ((with_reducible refine gate_callee (f := 12) rfl ?_); refine gl_ (some 16) Tryz.func12 #[.agg #[.string bo, .string bp, .int .i64 bq]] ?_; (with_reducible refine (spec_StoreMend.calls k bo bp bq aX aY aZ a3 _ A8.out).mono ?_); rintro e h2 ⟨rfl, hb⟩; refine ⟨_, rfl, ?_⟩; replace aa := bb_ aa hb; replace HB := bs_ HB hb; (try clear hb); (try clear hb2); (try clear hk); (try clear hi)) | ((with_reducible refine gate_dst (N := 4) rfl ?_); refine box_event ?hg (N := 4) ?hd (cs := #[.string (⟨#[]⟩ : ByteArray), .string (⟨#[]⟩ : ByteArray), .int .i64 0]) (t := 25) ?hr ?_; (case hd => rfl); (case hg => rfl); (case hr => first | (go_simp; done) | (go_simp; rfl)); intro bw hg iC hbox hb; have ac := Aside0.mk (hbox); have dg := gx_ HB hg; have dh := gx_ HB hg; replace HB := bs_ HB hb; have aA := nl_ aa hg; have aC := ng_ aa hg; replace aa := bb_ aa hb; clear hb hbox hg; have hL := aC.out; have hM := aA.out; have fZ := cz_ ac 0; have f0 := cz_ ac 1; have f1 := cz_ ac 2; have f2 := blk_frozen ac.out 0; have f3 := blk_frozen ac.out 1; have f4 := blk_frozen ac.out 2; have f5 := cz_ aa 0; have f6 := cz_ aa 1; have f7 := cz_ aa 2; have f8 := blk_frozen aa.out 0; have f9 := blk_frozen aa.out 1; have ga := blk_frozen aa.out 2) | ((with_reducible refine gate_callee (f := 13) rfl ?_); refine gl_ (some 21) Tryz.func13 #[.agg #[.string a0_0, .string a0_1, .int .i64 a0_2]] ?_; (with_reducible refine (laws_toStore.calls a0_0 a0_1 a0_2 br bs bu _ A9.out).mono ?_); rintro e iE ⟨rfl, hb⟩; refine ⟨_, rfl, ?_⟩; replace aa := bb_ aa hb; replace ac := Aside0.mk (blk_below (g := bw) (o := .cells #[.string aX, .string aY, .int .i64 aZ] 25 (0, 0)) (ps_ ac.out) hb); replace HB := bs_ HB hb; (try clear hb); (try clear hb2); (try clear hk); (try clear hi)) | ((with_reducible refine gate_callee (f := 14) rfl ?_); refine gl_ (some 22) Tryz.func14 #[.agg #[.string br, .string bs, .int .i64 bu]] ?_; (with_reducible refine (impl_StoreMend.calls k br bs bu a4 a5 a6 a7 _ ?s1 A10.out).mono ?_); (case s1 => exact GWb.below HG.out (tb_ HB.out)); rintro e iG ⟨rfl, hb⟩; refine ⟨_, rfl, ?_⟩; replace aa := bb_ aa hb; replace ac := bb_ ac hb; replace HB := bs_ HB hb; (try clear hb); (try clear hb2); (try clear hk); (try clear hi)) | ((with_reducible refine gate_dst (N := 6) rfl ?_); refine box_event ?hg (N := 6) ?hd (cs := #[.string (⟨#[]⟩ : ByteArray), .string (⟨#[]⟩ : ByteArray), .int .i64 0]) (t := 25) ?hr ?_; (case hd => rfl); (case hg => rfl); (case hr => first | (go_simp; done) | (go_simp; rfl)); intro bx hg iI hbox hb; have al := Aside0.mk (hbox); have di := gx_ HB hg; have dj := gx_ HB hg; replace HB := bs_ HB hb; have aD := nl_ aa hg; have aE := ng_ aa hg; replace aa := bb_ aa hb; have aG := nl_ ac hg; have aH := ng_ ac hg; replace ac := bb_ ac hb; clear hb hbox hg; have hN := aE.out; have hO := aD.out; have hP := aH.out; have hQ := aG.out; have gb := cz_ al 0; have gc := cz_ al 1; have gd := cz_ al 2; have gf := blk_frozen al.out 0; have gg := blk_frozen al.out 1; have gh := blk_frozen al.out 2; have gi := cz_ ac 0; have gj := cz_ ac 1; have gl := cz_ ac 2; have gm := blk_frozen ac.out 0; have gn := blk_frozen ac.out 1; have go := blk_frozen ac.out 2) | ((with_reducible refine gate_callee (f := 15) rfl ?_); refine gl_ (some 27) Tryz.func15 #[.agg #[.string a4, .string a5, .int .i64 a6], .agg #[.string aX, .string aY, .int .i64 aZ]] ?_; (with_reducible refine (laws_eqStore.calls a4 a5 a6 aX aY aZ false _ A11.out).mono ?_); rintro e iJ ⟨rfl, hb⟩; refine ⟨_, rfl, ?_⟩; replace aa := bb_ aa hb; replace ac := bb_ ac hb; replace al := Aside0.mk (blk_below (g := bx) (o := .cells #[.string a4, .string a5, .int .i64 a6] 25 (0, 0)) (ps_ al.out) hb); replace HB := bs_ HB hb; (try clear hb); (try clear hb2); (try clear hk); (try clear hi)))
   go_ret
   exact ⟨tw_, (tb_ HB.out)⟩

end Go.Proofs.YtfibbdefcppfcaaGreatDoor.MFnExactStoreMend
