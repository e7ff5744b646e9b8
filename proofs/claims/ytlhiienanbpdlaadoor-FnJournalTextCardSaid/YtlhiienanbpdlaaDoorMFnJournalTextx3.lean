/- For the law FnJournalText: walks of the functions that it reaches: each call returns what the plain function beside it tells. The conditions stand in each statement. -/
import Derived.Test.YtlhiienanbpdlaaDoorV
import Derived.Test.YtlhiienanbpdlaaDoorMFnJournalTextx0
import Derived.Test.YtlhiienanbpdlaaDoorMFnJournalTextx2
namespace Go.Proofs.YtlhiienanbpdlaaDoor.MFnJournalText
open Go.RowKit Go.Proofs.YtlhiienanbpdlaaDoorW.PrintWords Go.Proofs.YtlhiienanbpdlaaDoorW.PrintLast Go.Proofs.YtlhiienanbpdlaaDoorW.PrintMore
attribute [local go_sem] max2_int min2_int max_two min_two max_three min_three max_four min_four   -- for this text's walks alone
set_option linter.unusedVariables false
set_option linter.unusedSimpArgs false

/-! ### impl_ReadDeed: function 40 -/
mutual
def impl_ReadDeed.j0 : Nat → ByteArray → List ByteArray → Int → Bool → Option (Int × Int × Int × Bool)
 | 0, _, _, _, _ => none
 | k + 1, x0, x4, x5, x20 => if x20 = true then (some (0, 0, 0, false)) else ((some (([0, 1, 2, 3, 4] : List Int) : List Int)).bind fun ag => (if 0 ≤ x5 then (if x5 < (ag.length : Int) then (if (x4.length : Int) > 1 then (if 1 < (x4.length : Int) then ((strconv_Atoi.f (rdOf ByteArray.empty x4 1)).bind fun aJ => (impl_ReadDeed.j1 k x0 x4 (rd ag x5) aJ.1 0)) else (none)) else (impl_ReadDeed.j1 k x0 x4 (rd ag x5) 0 0)) else (none)) else (none)))
def impl_ReadDeed.j1 : Nat → ByteArray → List ByteArray → Int → Int → Int → Option (Int × Int × Int × Bool)
 | 0, _, _, _, _, _ => none
 | k + 1, x0, x4, aw, ax, aK => if (x4.length : Int) > 2 then (if 2 < (x4.length : Int) then ((strconv_Atoi.f (rdOf ByteArray.empty x4 2)).bind fun bm => ((impl_DeedText.f k aw ax bm.1).bind fun aH => (if aH.toList = x0.toList then (some (aw, ax, bm.1, true)) else (some (0, 0, 0, false))))) else (none)) else ((impl_DeedText.f k aw ax aK).bind fun aI => (if aI.toList = x0.toList then (some (aw, ax, aK, true)) else (some (0, 0, 0, false))))
end
def impl_ReadDeed.f (k : Nat) (a0 : ByteArray) : Option (Int × Int × Int × Bool) := (strings_Split.f a0 (⟨#[32]⟩ : ByteArray)).bind fun ac => (if 0 < (ac.length : Int) then ((slices_Index_string_string.f k (([(⟨#[112, 117, 116]⟩ : ByteArray), (⟨#[115, 116, 101, 112]⟩ : ByteArray), (⟨#[100, 114, 97, 119]⟩ : ByteArray), (⟨#[97, 103, 97, 105, 110]⟩ : ByteArray), (⟨#[98, 97, 99, 107]⟩ : ByteArray)] : List ByteArray)) (rdOf ByteArray.empty ac 0)).bind fun ae => (if ae < 0 then (impl_ReadDeed.j0 k a0 ac ae true) else (impl_ReadDeed.j0 k a0 ac ae (decide ((ac.length : Int) > 3))))) else (none))
theorem impl_ReadDeed.mono_l : ∀ k, (∀ y0 y1 y2 y3, LeO (impl_ReadDeed.j0 k y0 y1 y2 y3) (impl_ReadDeed.j0 (k + 1) y0 y1 y2 y3)) ∧ (∀ y0 y1 y2 y3 y4, LeO (impl_ReadDeed.j1 k y0 y1 y2 y3 y4) (impl_ReadDeed.j1 (k + 1) y0 y1 y2 y3 y4))
 | 0 => ⟨fun _ _ _ _ r h => by simp [impl_ReadDeed.j0] at h, fun _ _ _ _ _ r h => by simp [impl_ReadDeed.j1] at h⟩
 | k + 1 => by
  obtain ⟨ih0, ih1⟩ := impl_ReadDeed.mono_l k
  refine ⟨?_, ?_⟩
  ·
   intro y0 y1 y2 y3
   unfold impl_ReadDeed.j0
   repeat' (with_reducible first | exact ih0 _ _ _ _ | exact ih1 _ _ _ _ _ | exact impl_DeedText.mono _ _ _ _ | exact slices_Index_string_string.mono _ _ _ | exact mr_ | exact mn_ | refine mi_ ?_ ?_ | refine mb_ ?_ (fun _ => ?_))
  ·
   intro y0 y1 y2 y3 y4
   unfold impl_ReadDeed.j1
   repeat' (with_reducible first | exact ih0 _ _ _ _ | exact ih1 _ _ _ _ _ | exact impl_DeedText.mono _ _ _ _ | exact slices_Index_string_string.mono _ _ _ | exact mr_ | exact mn_ | refine mi_ ?_ ?_ | refine mb_ ?_ (fun _ => ?_))
theorem impl_ReadDeed.mono : ∀ a0 k, LeO (impl_ReadDeed.f k a0) (impl_ReadDeed.f (k + 1) a0) := by
 intro a0 k
 obtain ⟨ih0, ih1⟩ := impl_ReadDeed.mono_l k
 unfold impl_ReadDeed.f
 repeat' (with_reducible first | exact ih0 _ _ _ _ | exact ih1 _ _ _ _ _ | exact impl_DeedText.mono _ _ _ _ | exact slices_Index_string_string.mono _ _ _ | exact mr_ | exact mn_ | refine mi_ ?_ ?_ | refine mb_ ?_ (fun _ => ?_))
set_option maxHeartbeats 8000000 in
set_option maxRecDepth 100000 in
theorem impl_ReadDeed.calls (k : Nat) (a0 : ByteArray) (r1 : Int) (r2 : Int) (r3 : Int) (r4 : Bool) (w : World) (hG : GWb w) (h : impl_ReadDeed.f k a0 = some (r1, r2, r3, r4)) :
  Calls Tryd.prog 40 #[.string a0] w fun e w' => e = .returned (.tuple #[.agg #[.int .i64 r1, .int .i64 r2, .int .i64 r3], .bool r4]) ∧ Below w.heap.size w w' := by
 have HG := Aside0.mk hG
 clear hG
 have hu30 := Tryd.underlying30
 have HB := Aside0.mk (Below.refl w.heap.size w)
 have H : ((strings_Split.f a0 (⟨#[32]⟩ : ByteArray)).bind fun ac => (if 0 < (ac.length : Int) then ((slices_Index_string_string.f k (([(⟨#[112, 117, 116]⟩ : ByteArray), (⟨#[115, 116, 101, 112]⟩ : ByteArray), (⟨#[100, 114, 97, 119]⟩ : ByteArray), (⟨#[97, 103, 97, 105, 110]⟩ : ByteArray), (⟨#[98, 97, 99, 107]⟩ : ByteArray)] : List ByteArray)) (rdOf ByteArray.empty ac 0)).bind fun ae => (if ae < 0 then (impl_ReadDeed.j0 k a0 ac ae true) else (impl_ReadDeed.j0 k a0 ac ae (decide ((ac.length : Int) > 3))))) else (none))) = some (r1, r2, r3, r4) := h
 clear h
 obtain ⟨ac, A2, H⟩ := bnd_ H
 try dsimp only at H
 obtain ⟨bu, aU⟩ : ∃ y_ : List ByteArray, y_ = (([(⟨#[112, 117, 116]⟩ : ByteArray), (⟨#[115, 116, 101, 112]⟩ : ByteArray), (⟨#[100, 114, 97, 119]⟩ : ByteArray), (⟨#[97, 103, 97, 105, 110]⟩ : ByteArray), (⟨#[98, 97, 99, 107]⟩ : ByteArray)] : List ByteArray)) := ⟨_, rfl⟩
 replace H : (if 0 < (ac.length : Int) then ((slices_Index_string_string.f k bu (rdOf ByteArray.empty ac 0)).bind fun ae => (if ae < 0 then (impl_ReadDeed.j0 k a0 ac ae true) else (impl_ReadDeed.j0 k a0 ac ae (decide ((ac.length : Int) > 3))))) else (none)) = some (r1, r2, r3, r4) := yq_ aU H
 have bn := Aside0.mk aU
 clear aU
 by_cases c3 : 0 < (ac.length : Int)
 ·
  rw [if_pos c3] at H
  have bv : decide (0 < (ac.length : Int)) = true := decide_eq_true c3
  have bw : decide (0 < ac.length) = true := decide_eq_true (by omega)
  clear c3
  obtain ⟨ae, A4, H⟩ := bnd_ H
  try dsimp only at H
  have HC5 := Aside0.mk H
  clear H
  go_enter Tryd.func40, Tryd.ntmps40
  go_upto_region 3 with (first | ((with_reducible refine gate_dst (N := 2) rfl ?_); (try (refine gate_guard (by rfl) ?_; dsimp only)); refine box_event ?hg (N := 2) ?hd (cs := #[.int .i64 0, .int .i64 0, .int .i64 0]) (t := 30) ?hr ?_; (case hd => rfl); (case hg => rfl); (case hr => first | (go_simp; done) | (go_simp; rfl)); intro az hg w6 hbox hb; have ab := Aside0.mk (hbox); have dD := gx_ HB hg; have dE := gx_ HB hg; replace HB := bs_ HB hb; clear hb hbox hg) | ((with_reducible refine gate_callee (f := 93) rfl ?_); refine gl_ (some 8) Tryd.func93 #[.string a0, .string (⟨#[32]⟩ : ByteArray)] ?_; (with_reducible refine (strings_Split.calls a0 (⟨#[32]⟩ : ByteArray) ac _ ?s1 A2.out).mono ?_); (case s1 => exact GWb.below HG.out (tb_ HB.out)); rintro e w7 ⟨dY, rfl, ho0, hb⟩; refine ⟨_, rfl, ?_⟩; have aA := rx_ ho0 HB; replace ab := bb_ ab hb; replace HB := bs_ HB hb; (try clear hb); (try clear hb2); (try clear hk); (try clear hi); (try clear ho0)) | ((with_reducible refine gate_dst (N := 9) rfl ?_); (try (refine gate_guard (by rfl) ?_; dsimp only)); refine Kd.R_lit Kd.string _ 9 ?hg (N := 9) ?hd (xs := ([(⟨#[112, 117, 116]⟩ : ByteArray), (⟨#[115, 116, 101, 112]⟩ : ByteArray), (⟨#[100, 114, 97, 119]⟩ : ByteArray), (⟨#[97, 103, 97, 105, 110]⟩ : ByteArray), (⟨#[98, 97, 99, 107]⟩ : ByteArray)] : List ByteArray)) (inner := [.string (⟨#[112, 117, 116]⟩ : ByteArray), .string (⟨#[115, 116, 101, 112]⟩ : ByteArray), .string (⟨#[100, 114, 97, 119]⟩ : ByteArray), .string (⟨#[97, 103, 97, 105, 110]⟩ : ByteArray), .string (⟨#[98, 97, 99, 107]⟩ : ByteArray)]) (ok := fun _ => True) (okp := fun _ => True) ?hr ?hp (fun _ hk => hk) trivial (Below.refl _ _) (Nat.le_refl _) (by simp) ?_; (case hd => rfl); (case hg => rfl); (case hr => first | (go_simp; done) | (go_simp; rfl)); (case hp => exact (Reps.one (show Kd.M Kd.string _ _ _ (⟨#[112, 117, 116]⟩ : ByteArray) [.string (⟨#[112, 117, 116]⟩ : ByteArray)] from rfl) (Reps.one (show Kd.M Kd.string _ _ _ (⟨#[115, 116, 101, 112]⟩ : ByteArray) [.string (⟨#[115, 116, 101, 112]⟩ : ByteArray)] from rfl) (Reps.one (show Kd.M Kd.string _ _ _ (⟨#[100, 114, 97, 119]⟩ : ByteArray) [.string (⟨#[100, 114, 97, 119]⟩ : ByteArray)] from rfl) (Reps.one (show Kd.M Kd.string _ _ _ (⟨#[97, 103, 97, 105, 110]⟩ : ByteArray) [.string (⟨#[97, 103, 97, 105, 110]⟩ : ByteArray)] from rfl) (Reps.one (show Kd.M Kd.string _ _ _ (⟨#[98, 97, 99, 107]⟩ : ByteArray) [.string (⟨#[98, 97, 99, 107]⟩ : ByteArray)] from rfl) (Reps.none _ _))))))); intro dZ w8 ho9 hb hg_ hnew_; clear hg_ hnew_; (first | rw [← bn.out] at ho9 | (simp only [Int.reduceToNat] at ho9; rw [← bn.out] at ho9)); have aV := Aside0.mk (Kd.R_lower (Kd.R_new' ho9 (Kd.R_lt (rR_ aA.out))) (below_size (tb_ HB.out))); replace aA := Aside0.mk (Kd.R_elder' (rR_ aA.out) (Kd.R_base ho9) hb); replace ab := bb_ ab hb; replace HB := bs_ HB hb; clear hb ho9; obtain ⟨d0, bC, dt⟩ := Kd.R_slice aA.out; subst dt; have p122 : 0 ≤ (0 : Int) := (by omega); have q122 : 0 < (ac.length : Int) := od_; obtain ⟨ad122, e122, ay⟩ := Kd.at_string (Kd.R_reads' aA.out).2.2 0 p122 q122; cases e122; have dF : (0 < ac.length) = True := eq_true (by omega); (try rw [show ((0 : Int)).toNat = 0 from rfl] at ay); (try rw [Addr.add_zero'] at ay); replace p122 := eq_true p122; replace q122 := eq_true q122; obtain ⟨du, dv, dw⟩ := Kd.R_slice aV.out; subst dw) | ((with_reducible refine gate_callee (f := 94) rfl ?_); refine gl_ (some 13) Tryd.func94 #[.slice du bu.length dv, .string (rdOf ByteArray.empty ac 0)] ?_; (with_reducible refine (slices_Index_string_string.calls k _ _ bu (rdOf ByteArray.empty ac 0) ae _ ?s1 ?s2 A4.out).mono ?_); (case s1 => repeat (first | exact (Kd.R_reads' aV.out).2.2 | (with_reducible refine Kd.C_alloc ?_ _) | (with_reducible refine Kd.C_drewN ?_ _) | (with_reducible refine Kd.C_drew ?_))); (case s2 => exact (Kd.R_reads' aV.out).2.1); rintro e w' ⟨rfl, ⟨nd, rfl⟩⟩; refine ⟨_, rfl, ?_⟩))
  (try simp only [Act.put, sa_, sb_, sc_])
  go_cut [20] (fun d1 wc => ∃ (kq : Nat) (aM : Bool), d1 = .bool aM ∧ Aside0 (impl_ReadDeed.j0 kq a0 ac ae aM = some (r1, r2, r3, r4)) ∧ Aside0 (kq ≤ k) ∧ Aside0 (Kd.R Kd.string 9 wc w.heap.size (fun _ => True) (.slice (some ad122) ac.length bC) ac) ∧ Aside0 (wc.heap[az]? = some (.cells #[.int .i64 0, .int .i64 0, .int .i64 0] 30 (0, 0))) ∧ Aside0 (Below w.heap.size w wc))
  case first =>
   have H := HC5.out
   clear HC5
   by_cases c12 : ae < 0
   ·
    rw [if_pos c12] at H
    have aC : decide (ae < 0) = true := decide_eq_true c12
    clear c12
    (first | rw [aC] | (simp only [i64_w, i32_w]; rw [aC]) | skip)
    have H' := Aside0.mk H
    clear H
    go_wp2
    go_meet
    case rel => exact ⟨_, (true), tx_, H', ⟨by first | omega | exact Nat.le_refl _⟩, ⟨by refine qR_ ?_; exact Kd.R_mono aA.out (fun _ hk => trivial)⟩, ⟨tk_ ab.out⟩, ⟨(tb_ HB.out)⟩⟩
   ·
    rw [if_neg c12] at H
    have aC : decide (ae < 0) = false := decide_eq_false c12
    clear c12
    (first | rw [aC] | (simp only [i64_w, i32_w]; rw [aC]) | skip)
    have H' := Aside0.mk H
    clear H
    go_wp2
    go_meet
    case rel => exact ⟨_, (decide ((ac.length : Int) > 3)), tx_, H', ⟨by first | omega | exact Nat.le_refl _⟩, ⟨by refine qR_ ?_; exact Kd.R_mono aA.out (fun _ hk => trivial)⟩, ⟨tk_ ab.out⟩, ⟨(tb_ HB.out)⟩⟩
  case rest =>
   clear HC5
   try clear c1
   try clear p1
   try clear q1
   try clear hx1
   try clear d2
   try clear p2
   try clear c3
   try clear bv
   try clear bw
   try clear c4
   try clear c9
   try clear c12
   try clear aC
   try clear p12
   try clear q12
   try clear hx12
   try clear dx
   try clear ay
   try clear p122
   try clear q122
   obtain ⟨kq, aM, rfl, HA, HJ4, af, ab, HB⟩ := hcut
   cases kq with
   | zero => exact absurd HA.out (by simp [impl_ReadDeed.j0])
   | succ kj4 =>
    have H := HA.out
    clear HA
    simp only [impl_ReadDeed.j0] at H
    by_cases c13 : aM = true
    ·
     subst c13
     have H1 : (some (0, 0, 0, false)) = some (r1, r2, r3, r4) := by rw [if_pos rfl] at H; exact H
     clear H
     have H := H1
     clear H1
     simp only [Option.some.injEq, Prod.mk.injEq] at H
     obtain ⟨rfl, rfl, rfl, rfl⟩ := H
     have a2 := cz_ ab 0
     have a3 := cz_ ab 1
     have a4 := cz_ ab 2
     have a5 := blk_frozen ab.out 0
     have a6 := blk_frozen ab.out 1
     have a7 := blk_frozen ab.out 2
     go_wp2
     refine bodyPost_ret (results_ct rfl _ _ az 30 #[.int .i64 0, .int .i64 0, .int .i64 0] (0, 0) _ rfl (ps_ ab.out) Tryd.underlying30 rfl (by kernel_rfl)) rfl ?_
     exact ⟨tw_, (tb_ HB.out)⟩
    ·
     replace c13 := Bool.eq_false_iff.mpr c13
     subst c13
     have H1 : ((some (([0, 1, 2, 3, 4] : List Int) : List Int)).bind fun ag => (if 0 ≤ ae then (if ae < (ag.length : Int) then (if (ac.length : Int) > 1 then (if 1 < (ac.length : Int) then ((strconv_Atoi.f (rdOf ByteArray.empty ac 1)).bind fun aJ => (impl_ReadDeed.j1 kj4 a0 ac (rd ag ae) aJ.1 0)) else (none)) else (impl_ReadDeed.j1 kj4 a0 ac (rd ag ae) 0 0)) else (none)) else (none))) = some (r1, r2, r3, r4) := by rw [if_neg (show ¬ (false = true) by decide)] at H; exact H
     clear H
     have H := H1
     clear H1
     obtain ⟨ag, aW⟩ : ∃ y_ : List Int, y_ = (([0, 1, 2, 3, 4] : List Int)) := ⟨_, rfl⟩
     replace H : (if 0 ≤ ae then (if ae < (ag.length : Int) then (if (ac.length : Int) > 1 then (if 1 < (ac.length : Int) then ((strconv_Atoi.f (rdOf ByteArray.empty ac 1)).bind fun aJ => (impl_ReadDeed.j1 kj4 a0 ac (rd ag ae) aJ.1 0)) else (none)) else (impl_ReadDeed.j1 kj4 a0 ac (rd ag ae) 0 0)) else (none)) else (none)) = some (r1, r2, r3, r4) := yq_ aW H
     have bo := Aside0.mk aW
     clear aW
     by_cases c15 : 0 ≤ ae
     ·
      rw [if_pos c15] at H
      have bD : decide (0 ≤ ae) = true := decide_eq_true c15
      clear c15
      by_cases c16 : ae < (ag.length : Int)
      ·
       rw [if_pos c16] at H
       have bE : decide (ae < (ag.length : Int)) = true := decide_eq_true c16
       clear c16
       have HC17 := Aside0.mk H
       clear H
       go_upto_if 29 with (first | ((with_reducible refine gate_dst (N := 22) rfl ?_); (try (refine gate_guard (by rfl) ?_; dsimp only)); refine Kd.R_lit (Kd.int .i64) _ 3 ?hg (N := 22) ?hd (xs := ([0, 1, 2, 3, 4] : List Int)) (inner := [.int .i64 0, .int .i64 1, .int .i64 2, .int .i64 3, .int .i64 4]) (ok := fun _ => True) (okp := fun _ => True) ?hr ?hp (fun _ hk => hk) trivial (Below.refl _ _) (Nat.le_refl _) (by simp) ?_; (case hd => rfl); (case hg => rfl); (case hr => first | (go_simp; done) | (go_simp; rfl)); (case hp => exact (Reps.one (show Kd.M (Kd.int .i64) _ _ _ 0 [.int .i64 0] from rfl) (Reps.one (show Kd.M (Kd.int .i64) _ _ _ 1 [.int .i64 1] from rfl) (Reps.one (show Kd.M (Kd.int .i64) _ _ _ 2 [.int .i64 2] from rfl) (Reps.one (show Kd.M (Kd.int .i64) _ _ _ 3 [.int .i64 3] from rfl) (Reps.one (show Kd.M (Kd.int .i64) _ _ _ 4 [.int .i64 4] from rfl) (Reps.none _ _))))))); intro d3 d4 ho19 hb hg_ hnew_; clear hg_ hnew_; (first | rw [← bo.out] at ho19 | (simp only [Int.reduceToNat] at ho19; rw [← bo.out] at ho19)); replace af := rb_ af hb; have aE := rx_ ho19 HB; replace ab := bb_ ab hb; replace HB := bs_ HB hb; clear hb ho19; obtain ⟨d5, d6, dy⟩ := Kd.R_slice aE.out; subst dy; have p127 : 0 ≤ (ae : Int) := od_; have q127 : ae < (ag.length : Int) := od_; obtain ⟨ad127, e127, a8⟩ := Kd.at_int (Kd.R_reads' aE.out).2.2 ae p127 q127; cases e127; replace p127 := eq_true p127; replace q127 := eq_true q127) | ((with_reducible refine gate_dst (N := 6) rfl ?_); (try (refine gate_guard (by rfl) ?_; dsimp only)); refine box_event ?hg (N := 6) ?hd (cs := #[.int .i64 0, .int .i64 0, .int .i64 0]) (t := 30) ?hr ?_; (case hd => rfl); (case hg => rfl); (case hr => first | (go_simp; done) | (go_simp; rfl)); intro ai hg ed hbox hb; replace af := rb_ af hb; replace aE := rb_ aE hb; have aa := Aside0.mk (hbox); have dG := gx_ HB hg; have dH := gx_ HB hg; replace HB := bs_ HB hb; have al := nl_ ab hg; have am := ng_ ab hg; replace ab := bb_ ab hb; clear hb hbox hg; have dI := am.out; have dJ := al.out; have a9 := cz_ aa 0; have bb := cz_ aa 1; have bc := cz_ aa 2; have bd := blk_frozen aa.out 0; have be := blk_frozen aa.out 1; have bf := blk_frozen aa.out 2))
       (try simp only [Act.put, sa_, sb_, sc_])
       go_cut [] (fun wc => ∃ (kq : Nat) (ad : Int), Aside0 (impl_ReadDeed.j1 kq a0 ac (rd ag ae) ad 0 = some (r1, r2, r3, r4)) ∧ Aside0 (kq ≤ kj4) ∧ Aside0 (Kd.R Kd.string 9 wc w.heap.size (fun _ => True) (.slice (some ad122) ac.length bC) ac) ∧ Aside0 (wc.heap[az]? = some (.cells #[.int .i64 0, .int .i64 0, .int .i64 0] 30 (0, 0))) ∧ Aside0 (wc.heap[ai]? = some (.cells #[.int .i64 (rd ag ae), .int .i64 ad, .int .i64 0] 30 (0, 0))) ∧ Aside0 (Below w.heap.size w wc))
       case first =>
        have H := HC17.out
        clear HC17
        by_cases c24 : (ac.length : Int) > 1
        ·
         rw [if_pos c24] at H
         have aG : decide (1 < (ac.length : Int)) = true := decide_eq_true c24
         have bp : decide (1 < ac.length) = true := decide_eq_true (by omega)
         clear c24
         (first | rw [aG] | (simp only [i64_w, i32_w]; rw [aG]) | skip)
         by_cases c25 : 1 < (ac.length : Int)
         ·
          rw [if_pos c25] at H
          have bF : decide (1 < (ac.length : Int)) = true := decide_eq_true c25
          have bG : decide (1 < ac.length) = true := decide_eq_true (by omega)
          clear c25
          obtain ⟨⟨bx, dz⟩, A26, H⟩ := bnd_ H
          try dsimp only at H
          have H' := Aside0.mk H
          clear H
          have p129 : 0 ≤ (1 : Int) := (by omega)
          have q129 : 1 < (ac.length : Int) := od_
          obtain ⟨ad129, e129, ak⟩ := Kd.at_string (Kd.R_reads' af.out).2.2 1 p129 q129
          obtain rfl : ad122 = ad129 := (by injection e129)
          (try simp only [show (1 : Int).toNat = 1 from rfl, Nat.reduceMul, Nat.reduceEqDiff, Go.Addr.add, ↓reduceIte] at ak)
          have dK : (1 < ac.length) = True := eq_true (by omega)
          (try rw [show ((1 : Int)).toNat = 1 from rfl] at ak)
          have hn129_0 : ad122.block ≠ ai := Kd.own_blk (Kd.R_ne af.out aa.out (by decide))
          have hn129_1 : ad122.block ≠ ai := Kd.own_blk (Kd.R_ne af.out aa.out (by decide))
          have hn129_2 : ad122.block ≠ ai := Kd.own_blk (Kd.R_ne af.out aa.out (by decide))
          replace ak := (cell_far (p := ⟨ai, 0, none⟩) (by first | (rw [add_block]; exact hn129_0) | (show (Addr.add _ _).block ≠ _; rw [add_block]; exact hn129_0) | exact hn129_0) (.int .i64 (rd ag ae))).trans ak
          replace ak := (cell_far (p := ⟨ai, 1, none⟩) (by first | (rw [add_block]; exact hn129_1) | (show (Addr.add _ _).block ≠ _; rw [add_block]; exact hn129_1) | exact hn129_1) (.int .i64 0)).trans ak
          replace ak := (cell_far (p := ⟨ai, 2, none⟩) (by first | (rw [add_block]; exact hn129_2) | (show (Addr.add _ _).block ≠ _; rw [add_block]; exact hn129_2) | exact hn129_2) (.int .i64 0)).trans ak
          clear hn129_0
          clear hn129_1
          clear hn129_2
          replace p129 := eq_true p129
          replace q129 := eq_true q129
          go_wp2_with (first | ((with_reducible refine gate_callee (f := 95) rfl ?_); refine gl_ (some 34) Tryd.func95 #[.string (rdOf ByteArray.empty ac 1)] ?_; (with_reducible refine (strconv_Atoi.calls (rdOf ByteArray.empty ac 1) bx dz _ ?s1 A26.out).mono ?_); (case s1 => exact GWb.below HG.out (tb_ HB.out)); rintro e ee ⟨N_, rfl, hb⟩; refine ⟨_, rfl, ?_⟩; replace af := Aside0.mk (Kd.R_below (by refine qR_ ?_; exact (Kd.R_mono (Kd.R_far (p := ⟨ai, 2, none⟩) (Kd.R_far (p := ⟨ai, 1, none⟩) (Kd.R_far (p := ⟨ai, 0, none⟩) (Kd.R_types af.out aa.out (by decide)) (fun _ hk => hk.2) (.int .i64 (rd ag ae))) (fun _ hk => hk.2) (.int .i64 0)) (fun _ hk => hk.2) (.int .i64 0)) (fun _ h_ => h_.1))) hb); replace aE := Aside0.mk (Kd.R_below (by refine qR_ ?_; exact (Kd.R_mono (Kd.R_far (p := ⟨ai, 2, none⟩) (Kd.R_far (p := ⟨ai, 1, none⟩) (Kd.R_far (p := ⟨ai, 0, none⟩) (Kd.R_types aE.out aa.out (by decide)) (fun _ hk => hk.2) (.int .i64 (rd ag ae))) (fun _ hk => hk.2) (.int .i64 0)) (fun _ hk => hk.2) (.int .i64 0)) (fun _ h_ => h_.1))) hb); replace ab := bb_ ab hb; replace aa := Aside0.mk (blk_below (g := ai) (o := .cells #[.int .i64 (rd ag ae), .int .i64 0, .int .i64 0] 30 (0, 0)) (ps_ aa.out) hb); replace HB := bs_ HB hb; (try clear hb); (try clear hb2); (try clear hk); (try clear hi); (try simp only [errW_none, errW_some, Option.map_none, Option.map_some]); have dL := am.out; have dM := al.out; have bg := cz_ aa 0; have bh := cz_ aa 1; have bi := cz_ aa 2; have bj := blk_frozen aa.out 0; have bk := blk_frozen aa.out 1; have bl := blk_frozen aa.out 2))
          go_meet
          case rel => exact ⟨_, (bx), H', ⟨by have := HJ4.out; first | omega | exact Nat.le_refl _⟩, ⟨by refine qR_ ?_; exact Kd.R_mono (Kd.R_far (p := ⟨ai, 1, none⟩) (Kd.R_types af.out aa.out (by decide)) (fun _ hk => hk.2) (.int .i64 bx)) (fun _ hk => trivial)⟩, ⟨tk_ ab.out⟩, ⟨by refine bq_ ?_; refine blk_put (cs := #[.int .i64 (rd ag ae), .int .i64 0, .int .i64 0]) ?_ 1 _ rfl; exact tk_ aa.out⟩, ⟨(tb_ HB.out)⟩⟩
         ·
          rw [if_neg c25] at H
          exact absurd H (by simp)
        ·
         rw [if_neg c24] at H
         have aG : decide (1 < (ac.length : Int)) = false := decide_eq_false c24
         have bp : decide (1 < ac.length) = false := decide_eq_false (by omega)
         clear c24
         (first | rw [aG] | (simp only [i64_w, i32_w]; rw [aG]) | skip)
         have H' := Aside0.mk H
         clear H
         go_wp2
         go_meet
         case rel => exact ⟨_, (0), H', ⟨by have := HJ4.out; first | omega | exact Nat.le_refl _⟩, ⟨by refine qR_ ?_; exact Kd.R_mono (Kd.R_far (p := ⟨ai, 2, none⟩) (Kd.R_far (p := ⟨ai, 1, none⟩) (Kd.R_far (p := ⟨ai, 0, none⟩) (Kd.R_types af.out aa.out (by decide)) (fun _ hk => hk.2) (.int .i64 (rd ag ae))) (fun _ hk => hk.2) (.int .i64 0)) (fun _ hk => hk.2) (.int .i64 0)) (fun _ hk => trivial)⟩, ⟨tk_ ab.out⟩, ⟨by refine bq_ ?_; refine blk_put (cs := #[.int .i64 (rd ag ae), .int .i64 0, .int .i64 0]) ?_ 2 _ rfl; refine bq_ ?_; refine blk_put (cs := #[.int .i64 (rd ag ae), .int .i64 0, .int .i64 0]) ?_ 1 _ rfl; refine bq_ ?_; refine blk_put (cs := #[.int .i64 0, .int .i64 0, .int .i64 0]) ?_ 0 _ rfl; exact tk_ aa.out⟩, ⟨(tb_ HB.out)⟩⟩
       case rest =>
        clear HC17
        try clear c1
        try clear p1
        try clear q1
        try clear hx1
        try clear d2
        try clear c2
        try clear p2
        try clear c3
        try clear bv
        try clear bw
        try clear c4
        try clear c9
        try clear c12
        try clear aC
        try clear p12
        try clear q12
        try clear hx12
        try clear dx
        try clear c13
        try clear c15
        try clear bD
        try clear c16
        try clear bE
        try clear c22
        try clear c24
        try clear aG
        try clear bp
        try clear c25
        try clear bF
        try clear bG
        try clear c28
        try clear a2
        try clear a3
        try clear a4
        try clear a9
        try clear bb
        try clear bc
        try clear bg
        try clear bh
        try clear bi
        try clear a5
        try clear a6
        try clear a7
        try clear bd
        try clear be
        try clear bf
        try clear bj
        try clear bk
        try clear bl
        try clear ay
        try clear a8
        try clear ak
        try clear p1
        try clear p12
        try clear p122
        try clear p127
        try clear p129
        try clear p2
        try clear q1
        try clear q12
        try clear q122
        try clear q127
        try clear q129
        obtain ⟨kq, ad, HA, HJ16, af, ab, aa, HB⟩ := hcut
        cases kq with
        | zero => exact absurd HA.out (by simp [impl_ReadDeed.j1])
        | succ kj16 =>
         have H := HA.out
         clear HA
         simp only [impl_ReadDeed.j1] at H
         by_cases c30 : (ac.length : Int) > 2
         ·
          rw [if_pos c30] at H
          have bH : decide (2 < (ac.length : Int)) = true := decide_eq_true c30
          have bI : decide (2 < ac.length) = true := decide_eq_true (by omega)
          clear c30
          by_cases c31 : 2 < (ac.length : Int)
          ·
           rw [if_pos c31] at H
           have dN : decide (2 < (ac.length : Int)) = true := decide_eq_true c31
           have dP : decide (2 < ac.length) = true := decide_eq_true (by omega)
           clear c31
           obtain ⟨⟨aD, bJ⟩, A32, H⟩ := bnd_ H
           try dsimp only at H
           obtain ⟨aH, A33, H⟩ := bnd_ H
           try dsimp only at H
           by_cases c34 : aH.toList = a0.toList
           ·
            rw [if_pos c34] at H
            have bK : (aH.toList == a0.toList) = true := beq_iff_eq.mpr c34
            have bL : (aH.toList != a0.toList) = false := bne_eq_false_iff_eq.mpr c34
            clear c34
            simp only [Option.some.injEq, Prod.mk.injEq] at H
            obtain ⟨rfl, rfl, rfl, rfl⟩ := H
            have p132 : 0 ≤ (2 : Int) := (by omega)
            have q132 : 2 < (ac.length : Int) := od_
            obtain ⟨ad132, e132, ap⟩ := Kd.at_string (Kd.R_reads' af.out).2.2 2 p132 q132
            obtain rfl : ad122 = ad132 := (by injection e132)
            (try simp only [show (2 : Int).toNat = 2 from rfl, Nat.reduceMul, Nat.reduceEqDiff, Go.Addr.add, ↓reduceIte] at ap)
            have bM : (2 < ac.length) = True := eq_true (by omega)
            (try rw [show ((2 : Int)).toNat = 2 from rfl] at ap)
            replace p132 := eq_true p132
            replace q132 := eq_true q132
            go_wp2_with (first | ((with_reducible refine gate_callee (f := 95) rfl ?_); refine gl_ (some 45) Tryd.func95 #[.string (rdOf ByteArray.empty ac 2)] ?_; (with_reducible refine (strconv_Atoi.calls (rdOf ByteArray.empty ac 2) aD bJ _ ?s1 A32.out).mono ?_); (case s1 => exact GWb.below HG.out (tb_ HB.out)); rintro e ef ⟨N_, rfl, hb⟩; refine ⟨_, rfl, ?_⟩; replace af := rb_ af hb; replace ab := bb_ ab hb; replace aa := bb_ aa hb; replace HB := bs_ HB hb; (try clear hb); (try clear hb2); (try clear hk); (try clear hi); (try simp only [errW_none, errW_some, Option.map_none, Option.map_some]); have dQ := am.out; have dR := al.out; have b3 := cz_ aa 0; have b4 := cz_ aa 1; have b5 := cz_ aa 2; have b6 := blk_frozen aa.out 0; have b7 := blk_frozen aa.out 1; have b8 := blk_frozen aa.out 2) | ((with_reducible refine gate_callee (f := 46) rfl ?_); refine gl_ (some 50) Tryd.func46 #[.agg #[.int .i64 (rd ag ae), .int .i64 ad, .int .i64 aD]] ?_; (with_reducible refine (impl_DeedText.calls kj16 (rd ag ae) ad aD aH _ ?s1 A33.out).mono ?_); (case s1 => exact GWb.below HG.out (tb_ HB.out)); rintro e eg ⟨rfl, hb⟩; refine ⟨_, rfl, ?_⟩; replace af := Aside0.mk (Kd.R_below (by refine qR_ ?_; exact (Kd.R_mono (Kd.R_far (p := ⟨ai, 2, none⟩) (Kd.R_types af.out aa.out (by decide)) (fun _ hk => hk.2) (.int .i64 aD)) (fun _ h_ => h_.1))) hb); replace ab := bb_ ab hb; replace aa := Aside0.mk (blk_below (g := ai) (o := .cells #[.int .i64 (rd ag ae), .int .i64 ad, .int .i64 aD] 30 (0, 0)) (ps_ aa.out) hb); replace HB := bs_ HB hb; (try clear hb); (try clear hb2); (try clear hk); (try clear hi); have b9 := cz_ aa 0; have ca := cz_ aa 1; have cb := cz_ aa 2; have cc := blk_frozen aa.out 0; have cd := blk_frozen aa.out 1; have ce := blk_frozen aa.out 2; have cf := cz_ ab 0; have cg := cz_ ab 1; have ch := cz_ ab 2; have ci := blk_frozen ab.out 0; have cj := blk_frozen ab.out 1; have ck := blk_frozen ab.out 2))
            refine bodyPost_ret (results_ct rfl _ _ az 30 #[.int .i64 (rd ag ae), .int .i64 ad, .int .i64 aD] (0, 0) _ rfl (ps_ ab.out) Tryd.underlying30 rfl (by kernel_rfl)) rfl ?_
            exact ⟨tw_, (tb_ HB.out)⟩
           ·
            rw [if_neg c34] at H
            have bK : (aH.toList == a0.toList) = false := beq_eq_false_iff_ne.mpr c34
            have bL : (aH.toList != a0.toList) = true := bne_iff_ne.mpr c34
            simp only [Option.some.injEq, Prod.mk.injEq] at H
            obtain ⟨rfl, rfl, rfl, rfl⟩ := H
            have p132 : 0 ≤ (2 : Int) := (by omega)
            have q132 : 2 < (ac.length : Int) := od_
            obtain ⟨ad132, e132, ap⟩ := Kd.at_string (Kd.R_reads' af.out).2.2 2 p132 q132
            obtain rfl : ad122 = ad132 := (by injection e132)
            (try simp only [show (2 : Int).toNat = 2 from rfl, Nat.reduceMul, Nat.reduceEqDiff, Go.Addr.add, ↓reduceIte] at ap)
            have bM : (2 < ac.length) = True := eq_true (by omega)
            (try rw [show ((2 : Int)).toNat = 2 from rfl] at ap)
            replace p132 := eq_true p132
            replace q132 := eq_true q132
            go_wp2_with (first | ((with_reducible refine gate_callee (f := 95) rfl ?_); refine gl_ (some 45) Tryd.func95 #[.string (rdOf ByteArray.empty ac 2)] ?_; (with_reducible refine (strconv_Atoi.calls (rdOf ByteArray.empty ac 2) aD bJ _ ?s1 A32.out).mono ?_); (case s1 => exact GWb.below HG.out (tb_ HB.out)); rintro e eh ⟨N_, rfl, hb⟩; refine ⟨_, rfl, ?_⟩; replace af := rb_ af hb; replace ab := bb_ ab hb; replace aa := bb_ aa hb; replace HB := bs_ HB hb; (try clear hb); (try clear hb2); (try clear hk); (try clear hi); (try simp only [errW_none, errW_some, Option.map_none, Option.map_some]); have dS := am.out; have dT := al.out; have cl := cz_ aa 0; have cm := cz_ aa 1; have cn := cz_ aa 2; have co := blk_frozen aa.out 0; have cp := blk_frozen aa.out 1; have cq := blk_frozen aa.out 2) | ((with_reducible refine gate_callee (f := 46) rfl ?_); refine gl_ (some 50) Tryd.func46 #[.agg #[.int .i64 (rd ag ae), .int .i64 ad, .int .i64 aD]] ?_; (with_reducible refine (impl_DeedText.calls kj16 (rd ag ae) ad aD aH _ ?s1 A33.out).mono ?_); (case s1 => exact GWb.below HG.out (tb_ HB.out)); rintro e ei ⟨rfl, hb⟩; refine ⟨_, rfl, ?_⟩; replace af := Aside0.mk (Kd.R_below (by refine qR_ ?_; exact (Kd.R_mono (Kd.R_far (p := ⟨ai, 2, none⟩) (Kd.R_types af.out aa.out (by decide)) (fun _ hk => hk.2) (.int .i64 aD)) (fun _ h_ => h_.1))) hb); replace ab := bb_ ab hb; replace aa := Aside0.mk (blk_below (g := ai) (o := .cells #[.int .i64 (rd ag ae), .int .i64 ad, .int .i64 aD] 30 (0, 0)) (ps_ aa.out) hb); replace HB := bs_ HB hb; (try clear hb); (try clear hb2); (try clear hk); (try clear hi); have cr := cz_ ab 0; have ct := cz_ ab 1; have cu := cz_ ab 2; have cv := blk_frozen ab.out 0; have cw := blk_frozen ab.out 1; have cx := blk_frozen ab.out 2))
            refine bodyPost_ret (results_ct rfl _ _ az 30 #[.int .i64 0, .int .i64 0, .int .i64 0] (0, 0) _ rfl (ps_ ab.out) Tryd.underlying30 rfl (by kernel_rfl)) rfl ?_
            exact ⟨tw_, (tb_ HB.out)⟩
          ·
           rw [if_neg c31] at H
           exact absurd H (by simp)
         ·
          rw [if_neg c30] at H
          have bH : decide (2 < (ac.length : Int)) = false := decide_eq_false c30
          have bI : decide (2 < ac.length) = false := decide_eq_false (by omega)
          clear c30
          obtain ⟨aI, A46, H⟩ := bnd_ H
          try dsimp only at H
          by_cases c47 : aI.toList = a0.toList
          ·
           rw [if_pos c47] at H
           have bN : (aI.toList == a0.toList) = true := beq_iff_eq.mpr c47
           have bO : (aI.toList != a0.toList) = false := bne_eq_false_iff_eq.mpr c47
           clear c47
           simp only [Option.some.injEq, Prod.mk.injEq] at H
           obtain ⟨rfl, rfl, rfl, rfl⟩ := H
           have dU := am.out
           have dV := al.out
           have cy := cz_ aa 0
           have cz := cz_ aa 1
           have cA := cz_ aa 2
           have cB := blk_frozen aa.out 0
           have cC := blk_frozen aa.out 1
           have cD := blk_frozen aa.out 2
           go_wp2_with (first | ((with_reducible refine gate_callee (f := 46) rfl ?_); refine gl_ (some 50) Tryd.func46 #[.agg #[.int .i64 (rd ag ae), .int .i64 ad, .int .i64 0]] ?_; (with_reducible refine (impl_DeedText.calls kj16 (rd ag ae) ad 0 aI _ ?s1 A46.out).mono ?_); (case s1 => exact GWb.below HG.out (tb_ HB.out)); rintro e ej ⟨rfl, hb⟩; refine ⟨_, rfl, ?_⟩; replace af := rb_ af hb; replace ab := bb_ ab hb; replace aa := bb_ aa hb; replace HB := bs_ HB hb; (try clear hb); (try clear hb2); (try clear hk); (try clear hi); have cE := cz_ aa 0; have cF := cz_ aa 1; have cG := cz_ aa 2; have cH := blk_frozen aa.out 0; have cI := blk_frozen aa.out 1; have cJ := blk_frozen aa.out 2; have cK := cz_ ab 0; have cL := cz_ ab 1; have cM := cz_ ab 2; have cN := blk_frozen ab.out 0; have cO := blk_frozen ab.out 1; have cP := blk_frozen ab.out 2))
           refine bodyPost_ret (results_ct rfl _ _ az 30 #[.int .i64 (rd ag ae), .int .i64 ad, .int .i64 0] (0, 0) _ rfl (ps_ ab.out) Tryd.underlying30 rfl (by kernel_rfl)) rfl ?_
           exact ⟨tw_, (tb_ HB.out)⟩
          ·
           rw [if_neg c47] at H
           have bN : (aI.toList == a0.toList) = false := beq_eq_false_iff_ne.mpr c47
           have bO : (aI.toList != a0.toList) = true := bne_iff_ne.mpr c47
           simp only [Option.some.injEq, Prod.mk.injEq] at H
           obtain ⟨rfl, rfl, rfl, rfl⟩ := H
           have dW := am.out
           have dX := al.out
           have cQ := cz_ aa 0
           have cR := cz_ aa 1
           have cS := cz_ aa 2
           have cT := blk_frozen aa.out 0
           have cU := blk_frozen aa.out 1
           have cV := blk_frozen aa.out 2
           go_wp2_with (first | ((with_reducible refine gate_callee (f := 46) rfl ?_); refine gl_ (some 50) Tryd.func46 #[.agg #[.int .i64 (rd ag ae), .int .i64 ad, .int .i64 0]] ?_; (with_reducible refine (impl_DeedText.calls kj16 (rd ag ae) ad 0 aI _ ?s1 A46.out).mono ?_); (case s1 => exact GWb.below HG.out (tb_ HB.out)); rintro e ek ⟨rfl, hb⟩; refine ⟨_, rfl, ?_⟩; replace af := rb_ af hb; replace ab := bb_ ab hb; replace aa := bb_ aa hb; replace HB := bs_ HB hb; (try clear hb); (try clear hb2); (try clear hk); (try clear hi); have cW := cz_ ab 0; have cX := cz_ ab 1; have cY := cz_ ab 2; have cZ := blk_frozen ab.out 0; have c6 := blk_frozen ab.out 1; have c7 := blk_frozen ab.out 2))
           refine bodyPost_ret (results_ct rfl _ _ az 30 #[.int .i64 0, .int .i64 0, .int .i64 0] (0, 0) _ rfl (ps_ ab.out) Tryd.underlying30 rfl (by kernel_rfl)) rfl ?_
           exact ⟨tw_, (tb_ HB.out)⟩
      ·
       rw [if_neg c16] at H
       exact absurd H (by simp)
     ·
      rw [if_neg c15] at H
      exact absurd H (by simp)
 ·
  rw [if_neg c3] at H
  exact absurd H (by simp)

/-! ### strings_Cut: function 96 -/
def strings_Cut.f (a0 : ByteArray) (a1 : ByteArray) : Option (ByteArray × ByteArray × Bool) := if a0.size < 4294967281 then some (⟨(Lib.cut a0.data.toList a1.data.toList).1.toArray⟩, ⟨(Lib.cut a0.data.toList a1.data.toList).2.1.toArray⟩, (Lib.cut a0.data.toList a1.data.toList).2.2) else none
theorem strings_Cut.calls (a0 : ByteArray) (a1 : ByteArray) (r1 : ByteArray) (r2 : ByteArray) (r3 : Bool) (w : World) (hG : GWb w) (h : strings_Cut.f a0 a1 = some (r1, r2, r3)) :
  Calls Tryd.prog 96 #[.string a0, .string a1] w fun e w' => e = .returned (.tuple #[.string r1, .string r2, .bool r3]) ∧ Drawn0 w w' := by
 unfold strings_Cut.f at h
 split at h
 ·
  rename_i hb
  simp only [Option.some.injEq, Prod.mk.injEq] at h
  obtain ⟨rfl, rfl, rfl⟩ := h
  exact (Sh.Tryd.strings_Cut_shaped a0 a1 w hG.shape hb).mono fun e w' ⟨he, m, hw⟩ => ⟨he, ⟨m, hw⟩⟩
 ·
  cases h

/-! ### impl_ReadJournal: function 43 -/
def impl_ReadJournal.l0 : Nat → ByteArray → List (S30) → Int → Option ((List (S30)) × Int)
 | 0, _, _, _ => none
 | k + 1, x0, x4, x5 => if 0 ≤ x5 then (if x5 ≤ (x0.size : Int) then ((strings_Cut.f (x0.extract (x5 : Int).toNat x0.size) (⟨#[10]⟩ : ByteArray)).bind fun aX => ((impl_ReadDeed.f k aX.1).bind fun aN => (if aX.2.2 = true then (if aN.2.2.2 = true then (if x4.length < 5864062014805 then (impl_ReadJournal.l0 k x0 (x4 ++ [(⟨aN.1, aN.2.1, aN.2.2.1⟩ : S30)]) (wrap64 (x5 + (wrap64 ((aX.1.size : Int) + 1))))) else (none)) else (some (x4, x5))) else (some (x4, x5))))) else (none)) else (none)
def impl_ReadJournal.f (k : Nat) (a0 : ByteArray) : Option ((List (S30)) × Int) := impl_ReadJournal.l0 k a0 (([] : List (S30))) 0
theorem impl_ReadJournal.mono_l : ∀ k, (∀ y0 y1 y2, LeO (impl_ReadJournal.l0 k y0 y1 y2) (impl_ReadJournal.l0 (k + 1) y0 y1 y2))
 | 0 => fun _ _ _ r h => by simp [impl_ReadJournal.l0] at h
 | k + 1 => by
  have ih0 := impl_ReadJournal.mono_l k
  ·
   intro y0 y1 y2
   unfold impl_ReadJournal.l0
   repeat' (with_reducible first | exact ih0 _ _ _ | exact impl_ReadDeed.mono _ _ | exact mr_ | exact mn_ | refine mi_ ?_ ?_ | refine mb_ ?_ (fun _ => ?_))
theorem impl_ReadJournal.mono : ∀ a0 k, LeO (impl_ReadJournal.f k a0) (impl_ReadJournal.f (k + 1) a0) := by
 intro a0 k
 have ih0 := impl_ReadJournal.mono_l k
 unfold impl_ReadJournal.f
 repeat' (with_reducible first | exact ih0 _ _ _ | exact impl_ReadDeed.mono _ _ | exact mr_ | exact mn_ | refine mi_ ?_ ?_ | refine mb_ ?_ (fun _ => ?_))
set_option maxHeartbeats 8000000 in
set_option maxRecDepth 100000 in
theorem impl_ReadJournal.calls (k : Nat) (a0 : ByteArray) (r1 : List (S30)) (r2 : Int) (w : World) (hG : GWb w) (h : impl_ReadJournal.f k a0 = some (r1, r2)) :
  Calls Tryd.prog 43 #[.string a0] w fun e w' => ∃ v0_ : Value, e = .returned (.tuple #[v0_, .int .i64 r2]) ∧ Kd.R k30 30 w' w.heap.size (fun _ => True) v0_ r1 ∧ Below w.heap.size w w' := by
 have HG := Aside0.mk hG
 clear hG
 have hu30 := Tryd.underlying30
 have HB := Aside0.mk (Below.refl w.heap.size w)
 have H : (impl_ReadJournal.l0 k a0 (([] : List (S30))) 0) = some (r1, r2) := h
 clear h
 obtain ⟨bP, aY⟩ : ∃ y_ : List (S30), y_ = (([] : List (S30))) := ⟨_, rfl⟩
 replace H : (impl_ReadJournal.l0 k a0 bP 0) = some (r1, r2) := yq_ aY H
 have bq := Aside0.mk aY
 clear aY
 have H' := Aside0.mk H
 clear H
 go_enter Tryd.func43, Tryd.ntmps43
 go_wp2_with (first | ((with_reducible refine gate_dst (N := 11) rfl ?_); refine Kd.R_lit k30 _ 30 ?hg (N := 11) ?hd (xs := ([] : List (S30))) (inner := []) (ok := fun _ => True) (okp := fun _ => True) ?hr ?hp (fun _ hk => hk) trivial (Below.refl _ _) (Nat.le_refl _) (by simp) ?_; (case hd => rfl); (case hg => rfl); (case hr => first | (go_simp; done) | (go_simp; rfl)); (case hp => exact (Reps.none _ _)); intro d7 w2 ho3 hb hg_ hnew_; clear hg_ hnew_; (first | rw [← bq.out] at ho3 | (simp only [Int.reduceToNat] at ho3; rw [← bq.out] at ho3)); have bQ := rx_ ho3 HB; replace HB := bs_ HB hb; clear hb ho3))
 go_loopg [4, 5] k (fun kq v4 v5 w' => ∃ (ao : List (S30)) (an : Int), v5 = .int .i64 an ∧ Aside0 (impl_ReadJournal.l0 kq a0 ao an = some (r1, r2)) ∧ Aside0 (kq ≤ k) ∧ Aside0 (Kd.R k30 30 w' w.heap.size (fun _ => True) v4 ao) ∧ Aside0 (Below w.heap.size w w'))
 case atStart => exact ⟨(bP), (0), tx_, H', ⟨Nat.le_refl _⟩, ⟨rR_ bQ.out⟩, ⟨(tb_ HB.out)⟩⟩
 case round =>
  clear H'
  try clear p2
  obtain ⟨ao, an, rfl, HA, HK1, af, HB⟩ := hrel
  cases gk with
  | zero => exact absurd HA.out (by simp [impl_ReadJournal.l0])
  | succ k1 =>
   have H := HA.out
   clear HA
   simp only [impl_ReadJournal.l0] at H
   by_cases c4 : 0 ≤ an
   ·
    rw [if_pos c4] at H
    have d8 := eq_true c4
    have d9 : decide (0 ≤ an) = true := decide_eq_true c4
    clear c4
    by_cases c5 : an ≤ (a0.size : Int)
    ·
     rw [if_pos c5] at H
     have ea := eq_true c5
     have eb : decide (an ≤ (a0.size : Int)) = true := decide_eq_true c5
     clear c5
     obtain ⟨⟨av, bz, dA⟩, A6, H⟩ := bnd_ H
     try dsimp only at H
     obtain ⟨⟨aq, ar, au, bB⟩, A7, H⟩ := bnd_ H
     try dsimp only at H
     by_cases c8 : dA = true
     ·
      subst c8
      have H1 : (if bB = true then (if ao.length < 5864062014805 then (impl_ReadJournal.l0 k1 a0 (ao ++ [(⟨aq, ar, au⟩ : S30)]) (wrap64 (an + (wrap64 ((av.size : Int) + 1))))) else (none)) else (some (ao, an))) = some (r1, r2) := by rw [if_pos rfl] at H; exact H
      clear H
      have H := H1
      clear H1
      by_cases c9 : bB = true
      ·
       subst c9
       have H1 : (if ao.length < 5864062014805 then (impl_ReadJournal.l0 k1 a0 (ao ++ [(⟨aq, ar, au⟩ : S30)]) (wrap64 (an + (wrap64 ((av.size : Int) + 1))))) else (none)) = some (r1, r2) := by rw [if_pos rfl] at H; exact H
       clear H
       have H := H1
       clear H1
       by_cases c10 : ao.length < 5864062014805
       ·
        rw [if_pos c10] at H
        have bR := Aside0.mk c10
        clear c10
        obtain ⟨bS, aZ⟩ : ∃ y_ : List (S30), y_ = (ao ++ [(⟨aq, ar, au⟩ : S30)]) := ⟨_, rfl⟩
        replace H : (impl_ReadJournal.l0 k1 a0 bS (wrap64 (an + (wrap64 ((av.size : Int) + 1))))) = some (r1, r2) := yq_ aZ H
        have bU := Aside0.mk aZ
        clear aZ
        have H' := Aside0.mk H
        clear H
        go_wp2_with (first | ((with_reducible refine gate_callee (f := 96) rfl ?_); refine gl_ (some 16) Tryd.func96 #[.string (a0.extract (an : Int).toNat a0.size), .string (⟨#[10]⟩ : ByteArray)] ?_; (with_reducible refine (strings_Cut.calls (a0.extract (an : Int).toNat a0.size) (⟨#[10]⟩ : ByteArray) av bz true _ ?s1 A6.out).mono ?_); (case s1 => exact GWb.below HG.out (tb_ HB.out)); rintro e w' ⟨rfl, ⟨nd, rfl⟩⟩; refine ⟨_, rfl, ?_⟩; (try (rw [drewN_self wr]; generalize hq_ : World.drewN wr _ = wr; have n0_ : Aside0 (Kd.R k30 30 wr w.heap.size (fun _ => True) u4 ao) := ⟨by rw [← hq_]; exact (rR_ af.out)⟩; have n1_ : Aside0 (Below w.heap.size w wr) := ⟨by rw [← hq_]; exact (tb_ HB.out)⟩; clear af HB hq_; have af := n0_; have HB := n1_; clear n0_ n1_))) | ((with_reducible refine gate_callee (f := 40) rfl ?_); refine gl_ (some 22) Tryd.func40 #[.string av] ?_; (with_reducible refine (impl_ReadDeed.calls k1 av aq ar au true _ ?s1 A7.out).mono ?_); (case s1 => exact GWb.below HG.out (tb_ HB.out)); rintro e el ⟨rfl, hb⟩; refine ⟨_, rfl, ?_⟩; replace af := rb_ af hb; replace HB := bs_ HB hb; (try clear hb); (try clear hb2); (try clear hk); (try clear hi)) | ((with_reducible refine gate_dst (N := 9) rfl ?_); refine box_event ?hg (N := 9) ?hd (cs := #[.int .i64 0, .int .i64 0, .int .i64 0]) (t := 30) ?hr ?_; (case hd => rfl); (case hg => rfl); (case hr => first | (go_simp; done) | (go_simp; rfl)); intro aj hg em hbox hb; replace af := Aside0.mk (Kd.R_below (Kd.R_elderB (rR_ af.out) aj (Nat.le_of_eq hg.symm)) hb); have ah := Aside0.mk (hbox); have br := gx_ HB hg; have bs := gx_ HB hg; replace HB := bs_ HB hb; clear hb hbox hg; have da := cz_ ah 0; have db := cz_ ah 1; have dc := cz_ ah 2; have dd := blk_frozen ah.out 0; have de := blk_frozen ah.out 1; have df := blk_frozen ah.out 2) | ((with_reducible refine gate_builtin (b := .append) (xs := #[.tmp 33, .tmp 35]) rfl ?_); at_builtin; refine Kd.R_append k30 (w0 := w) w.heap.size rfl (.tmp 33) (.tmp 35) 44 30 (.agg #[(.int .i64 0), (.int .i64 0), (.int .i64 0)]) 24 rfl Tryd.underlying44 info30 rfl (by decide) (by omega) u4 ao (⟨aq, ar, au⟩ : S30) [.int .i64 aq, .int .i64 ar, .int .i64 au] (fun k_ => k_ ≠ aj) (fun _ => False) rfl (by first | (go_simp; done) | (go_simp; rfl)) ?aP (fun _ hk => hk.elim) ?aF ?aO ?aB ?aS ?aL ?_; (case aP => exact k30_mkM _ _ _ (⟨aq, ar, au⟩ : S30)); (case aB => exact (tb_ HB.out)); (case aF => exact (fun k_ hk => Kd.freshB (g := aj) (o := .cells #[.int .i64 aq, .int .i64 ar, .int .i64 au] 30 (0, 0)) (ps_ ah.out) k_ hk)); (case aO => exact (by refine qR_ ?_; exact Kd.R_mono (Kd.R_far (p := ⟨aj, 2, none⟩) (Kd.R_far (p := ⟨aj, 1, none⟩) (Kd.R_far (p := ⟨aj, 0, none⟩) (Kd.R_mono af.out (fun k_ hk => (⟨hk, hk.2⟩ : _ ∧ k_ ≠ aj))) (fun _ hk => hk.2) (.int .i64 aq)) (fun _ hk => hk.2) (.int .i64 ar)) (fun _ hk => hk.2) (.int .i64 au)) (fun _ hk => hk.1.2))); (case aS => exact (below_size (tb_ HB.out))); (case aL => have := bR.out; omega); intro ec en ho hb hg hat; rw [← bU.out] at ho; replace ah := Aside0.mk (blk_grown (g := aj) (o := .cells #[.int .i64 aq, .int .i64 ar, .int .i64 au] 30 (0, 0)) (ps_ ah.out) hg (Kd.R_away af.out (fun _ hk => hk.2))); replace HB := Aside0.mk (hb); have bV := Aside0.mk (ho); clear af ho hb hg hat))
        go_roundg k1
        case measure => have := HK1.out; omega
        case rel => exact ⟨(bS), (wrap64 (an + (wrap64 ((av.size : Int) + 1)))), tx_, H', ⟨by have := HK1.out; omega⟩, ⟨by refine qR_ ?_; exact Kd.R_mono bV.out (fun _ hk => trivial)⟩, ⟨(tb_ HB.out)⟩⟩
       ·
        rw [if_neg c10] at H
        exact absurd H (by simp)
      ·
       replace c9 := Bool.eq_false_iff.mpr c9
       subst c9
       have H1 : (some (ao, an)) = some (r1, r2) := by rw [if_neg (show ¬ (false = true) by decide)] at H; exact H
       clear H
       have H := H1
       clear H1
       simp only [Option.some.injEq, Prod.mk.injEq] at H
       obtain ⟨rfl, rfl⟩ := H
       go_wp2_with (first | ((with_reducible refine gate_callee (f := 96) rfl ?_); refine gl_ (some 16) Tryd.func96 #[.string (a0.extract (an : Int).toNat a0.size), .string (⟨#[10]⟩ : ByteArray)] ?_; (with_reducible refine (strings_Cut.calls (a0.extract (an : Int).toNat a0.size) (⟨#[10]⟩ : ByteArray) av bz true _ ?s1 A6.out).mono ?_); (case s1 => exact GWb.below HG.out (tb_ HB.out)); rintro e w' ⟨rfl, ⟨nd, rfl⟩⟩; refine ⟨_, rfl, ?_⟩; (try (rw [drewN_self wr]; generalize hq_ : World.drewN wr _ = wr; have n0_ : Aside0 (Kd.R k30 30 wr w.heap.size (fun _ => True) u4 ao) := ⟨by rw [← hq_]; exact (rR_ af.out)⟩; have n1_ : Aside0 (Below w.heap.size w wr) := ⟨by rw [← hq_]; exact (tb_ HB.out)⟩; clear af HB hq_; have af := n0_; have HB := n1_; clear n0_ n1_))) | ((with_reducible refine gate_callee (f := 40) rfl ?_); refine gl_ (some 22) Tryd.func40 #[.string av] ?_; (with_reducible refine (impl_ReadDeed.calls k1 av aq ar au false _ ?s1 A7.out).mono ?_); (case s1 => exact GWb.below HG.out (tb_ HB.out)); rintro e eo ⟨rfl, hb⟩; refine ⟨_, rfl, ?_⟩; replace af := rb_ af hb; replace HB := bs_ HB hb; (try clear hb); (try clear hb2); (try clear hk); (try clear hi)) | ((with_reducible refine gate_dst (N := 9) rfl ?_); refine box_event ?hg (N := 9) ?hd (cs := #[.int .i64 0, .int .i64 0, .int .i64 0]) (t := 30) ?hr ?_; (case hd => rfl); (case hg => rfl); (case hr => first | (go_simp; done) | (go_simp; rfl)); intro aj hg ep hbox hb; replace af := Aside0.mk (Kd.R_below (Kd.R_elderB (rR_ af.out) aj (Nat.le_of_eq hg.symm)) hb); have ah := Aside0.mk (hbox); have br := gx_ HB hg; have bs := gx_ HB hg; replace HB := bs_ HB hb; clear hb hbox hg; have dg := cz_ ah 0; have dh := cz_ ah 1; have di := cz_ ah 2; have dj := blk_frozen ah.out 0; have dk := blk_frozen ah.out 1; have dl := blk_frozen ah.out 2))
       go_ret2
       exact ⟨_, tw_, by refine qR_ ?_; exact Kd.R_mono (Kd.R_far (p := ⟨aj, 2, none⟩) (Kd.R_far (p := ⟨aj, 1, none⟩) (Kd.R_far (p := ⟨aj, 0, none⟩) (Kd.R_mono af.out (fun k_ hk => (⟨hk, hk.2⟩ : _ ∧ k_ ≠ aj))) (fun _ hk => hk.2) (.int .i64 aq)) (fun _ hk => hk.2) (.int .i64 ar)) (fun _ hk => hk.2) (.int .i64 au)) (fun _ hk => trivial), (tb_ HB.out)⟩
     ·
      replace c8 := Bool.eq_false_iff.mpr c8
      subst c8
      have H1 : (some (ao, an)) = some (r1, r2) := by rw [if_neg (show ¬ (false = true) by decide)] at H; exact H
      clear H
      have H := H1
      clear H1
      simp only [Option.some.injEq, Prod.mk.injEq] at H
      obtain ⟨rfl, rfl⟩ := H
      go_wp2_with (first | ((with_reducible refine gate_callee (f := 96) rfl ?_); refine gl_ (some 16) Tryd.func96 #[.string (a0.extract (an : Int).toNat a0.size), .string (⟨#[10]⟩ : ByteArray)] ?_; (with_reducible refine (strings_Cut.calls (a0.extract (an : Int).toNat a0.size) (⟨#[10]⟩ : ByteArray) av bz false _ ?s1 A6.out).mono ?_); (case s1 => exact GWb.below HG.out (tb_ HB.out)); rintro e w' ⟨rfl, ⟨nd, rfl⟩⟩; refine ⟨_, rfl, ?_⟩; (try (rw [drewN_self wr]; generalize hq_ : World.drewN wr _ = wr; have n0_ : Aside0 (Kd.R k30 30 wr w.heap.size (fun _ => True) u4 ao) := ⟨by rw [← hq_]; exact (rR_ af.out)⟩; have n1_ : Aside0 (Below w.heap.size w wr) := ⟨by rw [← hq_]; exact (tb_ HB.out)⟩; clear af HB hq_; have af := n0_; have HB := n1_; clear n0_ n1_))) | ((with_reducible refine gate_callee (f := 40) rfl ?_); refine gl_ (some 22) Tryd.func40 #[.string av] ?_; (with_reducible refine (impl_ReadDeed.calls k1 av aq ar au bB _ ?s1 A7.out).mono ?_); (case s1 => exact GWb.below HG.out (tb_ HB.out)); rintro e d4 ⟨rfl, hb⟩; refine ⟨_, rfl, ?_⟩; replace af := rb_ af hb; replace HB := bs_ HB hb; (try clear hb); (try clear hb2); (try clear hk); (try clear hi)) | ((with_reducible refine gate_dst (N := 9) rfl ?_); refine box_event ?hg (N := 9) ?hd (cs := #[.int .i64 0, .int .i64 0, .int .i64 0]) (t := 30) ?hr ?_; (case hd => rfl); (case hg => rfl); (case hr => first | (go_simp; done) | (go_simp; rfl)); intro aj hg eq hbox hb; replace af := Aside0.mk (Kd.R_below (Kd.R_elderB (rR_ af.out) aj (Nat.le_of_eq hg.symm)) hb); have ah := Aside0.mk (hbox); have br := gx_ HB hg; have bs := gx_ HB hg; replace HB := bs_ HB hb; clear hb hbox hg; have dm := cz_ ah 0; have dn := cz_ ah 1; have dp := cz_ ah 2; have dq := blk_frozen ah.out 0; have dr := blk_frozen ah.out 1; have ds := blk_frozen ah.out 2))
      go_ret2
      exact ⟨_, tw_, by refine qR_ ?_; exact Kd.R_mono (Kd.R_far (p := ⟨aj, 2, none⟩) (Kd.R_far (p := ⟨aj, 1, none⟩) (Kd.R_far (p := ⟨aj, 0, none⟩) (Kd.R_mono af.out (fun k_ hk => (⟨hk, hk.2⟩ : _ ∧ k_ ≠ aj))) (fun _ hk => hk.2) (.int .i64 aq)) (fun _ hk => hk.2) (.int .i64 ar)) (fun _ hk => hk.2) (.int .i64 au)) (fun _ hk => trivial), (tb_ HB.out)⟩
    ·
     rw [if_neg c5] at H
     exact absurd H (by simp)
   ·
    rw [if_neg c4] at H
    exact absurd H (by simp)

/-- A state of type 126 at block g of W; what its slices lead to came in by w0. -/
def IsS126 (w0 W : World) (g : Nat) (f0 : List Int) (f1 : Int) : Prop := ∃ A0 c0, W.heap[g]? = some (.cells #[.slice A0 f0.length c0, .int .i64 f1] 126 (0, 0)) ∧ w0.heap.size ≤ g ∧ Kd.C (Kd.int .u8) w0 A0 f0.length f0
theorem IsS126.grown {w0 W : World} {g : Nat} {f0 : List Int} {f1 : Int} {W1 : World} {row : Option Nat} (h : IsS126 w0 W g f0 f1) (hw : W.grownBy W1 row) (hne : some g ≠ row) : IsS126 w0 W1 g f0 f1 := by
 obtain ⟨A0, c0, hb, hg, hr0⟩ := h
 exact ⟨A0, c0, blk_grown hb hw hne, hg, hr0⟩
theorem IsS126.own_neN {w0 W : World} {g : Nat} {f0 : List Int} {f1 : Int} {α : Type} {d : Kd α} {e : Nat} {base : Nat} {ok : Nat → Prop} {v : Value} {xs : List α} (h : IsS126 w0 W g f0 f1) (ho : Kd.N d e W base ok v xs) (ht : e ≠ 126) : some g ≠ v.ownBlock := by
 obtain ⟨A0, c0, hb, hg, hr0⟩ := h
 exact Kd.N_ne ho hb ht
theorem IsS126.fresh {w0 W : World} {g : Nat} {f0 : List Int} {f1 : Int} (h : IsS126 w0 W g f0 f1) : ∀ k, W.heap.size ≤ k → k ≠ g := by
 obtain ⟨A0, c0, hb, hg, hr0⟩ := h
 exact Kd.freshB hb
theorem IsS126.kept {w0 W : World} {g : Nat} {f0 : List Int} {f1 : Int} {W1 : World} {S : Nat → Prop} (h : IsS126 w0 W g f0 f1) (hk : Kept W W1 S) (hne : ¬ S g) : IsS126 w0 W1 g f0 f1 := by
 obtain ⟨A0, c0, hb, hg, hr0⟩ := h
 exact ⟨A0, c0, blk_kept hb hk hne, hg, hr0⟩
theorem IsS126.below {w0 W : World} {g : Nat} {f0 : List Int} {f1 : Int} {W1 : World} (h : IsS126 w0 W g f0 f1) (hw : Below W.heap.size W W1) : IsS126 w0 W1 g f0 f1 := h.grown (grown_of_below hw none) (by simp)
theorem IsS126.alloc {w0 W : World} {g : Nat} {f0 : List Int} {f1 : Int} (h : IsS126 w0 W g f0 f1) (o : Obj) : IsS126 w0 (W.alloc o) g f0 f1 := h.below (la_ (Below.refl _ _) o)
theorem IsS126.drewN {w0 W : World} {g : Nat} {f0 : List Int} {f1 : Int} (h : IsS126 w0 W g f0 f1) (m : Nat) : IsS126 w0 (W.drewN m) g f0 f1 := h
theorem IsS126.drew {w0 W : World} {g : Nat} {f0 : List Int} {f1 : Int} (h : IsS126 w0 W g f0 f1) : IsS126 w0 W.drew g f0 f1 := h
theorem IsS126.at_ {w0 W : World} {g : Nat} {f0 : List Int} {f1 : Int} {w' : World} {m : Nat} (hq : W.drewN m = w') (h : IsS126 w0 W g f0 f1) : IsS126 w0 w' g f0 f1 := by subst hq; exact IsS126.drewN h m
theorem IsS126.apart {w0 W : World} {g : Nat} {f0 : List Int} {f1 : Int} {α : Type} {d : Kd α} {e : Nat} {base : Nat} {ok : Nat → Prop} {v : Value} {xs : List α} (h : IsS126 w0 W g f0 f1) (ho : d.R e W base ok v xs) (ht : ∀ q, q ∈ e :: d.E → q ≠ 126) : d.R e W base (fun k => ok k ∧ k ≠ g) v xs := by
 obtain ⟨A0, c0, hb, hg, hr0⟩ := h
 exact Kd.R_types ho hb ht
theorem IsS126.own_ne {w0 W : World} {g : Nat} {f0 : List Int} {f1 : Int} {α : Type} {d : Kd α} {e : Nat} {base : Nat} {ok : Nat → Prop} {v : Value} {xs : List α} (h : IsS126 w0 W g f0 f1) (ho : d.R e W base ok v xs) (ht : e ≠ 126) : some g ≠ v.ownBlock := by
 obtain ⟨A0, c0, hb, hg, hr0⟩ := h
 exact Kd.R_ne ho hb ht
theorem IsS126.apartQ {w0 W : World} {g : Nat} {f0 : List Int} {f1 : Int} {α : Type} {d : Kd α} {e : Nat} {base : Nat} {ok : Nat → Prop} {v : Value} {xs : List α} (h : IsS126 w0 W g f0 f1) (ho : d.Q e W base ok v xs) (ht : ∀ q, q ∈ e :: d.E → q ≠ 126) : d.Q e W base (fun k => ok k ∧ k ≠ g) v xs := by
 obtain ⟨A0, c0, hb, hg, hr0⟩ := h
 exact Kd.Q_types ho hb ht
theorem IsS126.own_neQ {w0 W : World} {g : Nat} {f0 : List Int} {f1 : Int} {α : Type} {d : Kd α} {e : Nat} {base : Nat} {ok : Nat → Prop} {v : Value} {xs : List α} (h : IsS126 w0 W g f0 f1) (ho : d.Q e W base ok v xs) (ht : e ≠ 126) : some g ≠ v.ownBlock := by
 obtain ⟨A0, c0, hb, hg, hr0⟩ := h
 exact Kd.Q_ne ho hb ht
theorem IsS126.apartS {w0 W : World} {g : Nat} {f0 : List Int} {f1 : Int} {α : Type} {d : Kd α} {e : Nat} {base : Nat} {ok : Nat → Prop} {v : Value} {xs : List α} (h : IsS126 w0 W g f0 f1) (ho : d.S e W base ok v xs) (ht : ∀ q, q ∈ e :: d.E → q ≠ 126) : d.S e W base (fun k => ok k ∧ k ≠ g) v xs := by
 obtain ⟨A0, c0, hb, hg, hr0⟩ := h
 exact Kd.S_types ho hb ht
theorem IsS126.own_neS {w0 W : World} {g : Nat} {f0 : List Int} {f1 : Int} {α : Type} {d : Kd α} {e : Nat} {base : Nat} {ok : Nat → Prop} {v : Value} {xs : List α} (h : IsS126 w0 W g f0 f1) (ho : d.S e W base ok v xs) (ht : e ≠ 126) : some g ≠ v.ownBlock := by
 obtain ⟨A0, c0, hb, hg, hr0⟩ := h
 exact Kd.S_ne ho hb ht
theorem IsS126.lt {w0 W : World} {g : Nat} {f0 : List Int} {f1 : Int} (h : IsS126 w0 W g f0 f1) : g < W.heap.size := by
 obtain ⟨A0, c0, hb, hg, hr0⟩ := h
 exact blk_lt hb
theorem IsS126.ge {w0 W : World} {g : Nat} {f0 : List Int} {f1 : Int} (h : IsS126 w0 W g f0 f1) : w0.heap.size ≤ g := by
 obtain ⟨A0, c0, hb, hg, hr0⟩ := h
 exact hg
theorem IsS126.ne_blk {w0 W : World} {g : Nat} {f0 : List Int} {f1 : Int} {a : Nat} {cs : Array Value} {t : TypeId} {fr : Nat × Nat} (h : IsS126 w0 W g f0 f1) (hb2 : W.heap[a]? = some (.cells cs t fr)) (ht : t ≠ 126) : g ≠ a := by
 obtain ⟨A0, c0, hb, hg, hr0⟩ := h
 rintro rfl
 rw [hb] at hb2
 injection hb2 with hb2
 injection hb2 with _ ht2
 exact ht ht2.symm
theorem IsS126.far {w0 W : World} {g : Nat} {f0 : List Int} {f1 : Int} {p : Addr} (h : IsS126 w0 W g f0 f1) (hne : g ≠ p.block) (u : Value) : IsS126 w0 (W.setCell p u) g f0 f1 := by
 obtain ⟨A0, c0, hb, hg, hr0⟩ := h
 exact ⟨A0, c0, blk_far hb hne u, hg, hr0⟩
theorem cellS126_0 {W : World} {g : Nat} {A0 : Option Addr} {c0 : Nat} {f0 : List Int} {f1 : Int} (h : W.heap[g]? = some (.cells #[.slice A0 f0.length c0, .int .i64 f1] 126 (0, 0))) : W.cell? ⟨g, 0, none⟩ = some (.slice A0 f0.length c0) := (blk_cell h 0).trans rfl
theorem cellS126_1 {W : World} {g : Nat} {A0 : Option Addr} {c0 : Nat} {f0 : List Int} {f1 : Int} (h : W.heap[g]? = some (.cells #[.slice A0 f0.length c0, .int .i64 f1] 126 (0, 0))) : W.cell? ⟨g, 1, none⟩ = some (.int .i64 f1) := (blk_cell h 1).trans rfl
theorem IsS126.set_1 {w0 W : World} {g : Nat} {f0 : List Int} {f1 : Int} (h : IsS126 w0 W g f0 f1) (x : Int) : IsS126 w0 (W.setCell ⟨g, 1, none⟩ (.int .i64 x)) g f0 x := by
 obtain ⟨A0, c0, hb, hg, hr0⟩ := h
 exact ⟨A0, c0, by simpa using blk_set hb 1 (.int .i64 x), hg, hr0⟩
theorem IsS126.new (w0 W : World) (A0 : Option Addr) (c0 : Nat) (f0 : List Int) (f1 : Int) (hB : Below w0.heap.size w0 W) (hr0 : Kd.C (Kd.int .u8) w0 A0 f0.length f0) : IsS126 w0 (W.alloc (.cells #[.slice A0 f0.length c0, .int .i64 f1] 126)) W.heap.size f0 f1 := ⟨A0, c0, by simpa using heap_alloc_new W _, hB.size, hr0⟩

theorem ti126_ {P Q : Prop} (h : Q) (hp : Q → P := by intro h_; repeat (first | (with_reducible first | exact h_ | apply IsS126.alloc | apply IsS126.drewN | apply IsS126.drew | apply IsS126.set_1 | refine IsS126.far ?_ (Aside0.out (by assumption)) _) | exact h_)) : P := hp h
theorem tu126_ {B : Nat} {w W0 W : World} (h : Below B w W0) (hp : Below B w W0 → Below B w W := by intro h_; repeat (first | (with_reducible first | exact h_ | apply la_ | apply ln_ | apply ld_ | refine below_set ?_ (IsS126.ge (Aside0.out (by assumption))) | refine below_set ?_ (Aside0.out (by assumption))) | exact h_)) : Below B w W := hp h
theorem tu126_s {w W0 W W2 : World} (h : Aside0 (Below w.heap.size w W0)) (k_ : Below W.heap.size W W2) (hp : Below w.heap.size w W0 → Below w.heap.size w W := by intro h_; exact tu126_ h_) : Aside0 (Below w.heap.size w W2) := ⟨below_step (hp h.out) k_⟩
theorem ti126_b {w0 W0 W W1 : World} {g : Nat} {f0 : List Int} {f1 : Int} (h : Aside0 (IsS126 w0 W0 g f0 f1)) (hb : Below W.heap.size W W1) (hp : IsS126 w0 W0 g f0 f1 → IsS126 w0 W g f0 f1 := by intro h_; exact ti126_ h_) : Aside0 (IsS126 w0 W1 g f0 f1) := ⟨IsS126.below (hp h.out) hb⟩
/-! ### spec_l20Open: function 64 -/
def spec_l20Open.f (l0 : List Int) : Option (List Int × Int) := if (l0.length : Int) > 2000 then (if 2000 ≤ (l0.length : Int) then (some (l0.take 2000, 0)) else (none)) else (some (l0, 0))
set_option maxHeartbeats 8000000 in
set_option maxRecDepth 100000 in
theorem spec_l20Open.calls (A0 : Option Addr) (c0 : Nat) (l0 : List Int) (r1 : List Int) (r2 : Int) (w0 w : World) (hB : Below w0.heap.size w0 w) (hr0 : Kd.C (Kd.int .u8) w0 A0 l0.length l0) (hc0 : l0.length ≤ c0) (h : spec_l20Open.f l0 = some (r1, r2)) :
  Calls Tryd.prog 64 #[.slice A0 l0.length c0] w fun e w' => ∃ g_ : Nat, e = .returned (.pointer (some ⟨g_, 0, none⟩)) ∧ IsS126 w0 w' g_ r1 r2 ∧ Below w0.heap.size w0 w' ∧ Below w.heap.size w w' := by
 have hu126 := Tryd.underlying126
 have HR0 := Aside0.mk hr0
 have HC0 := Aside0.mk hc0
 clear hr0 hc0
 have HBW := Aside0.mk (Below.refl w.heap.size w)
 have HW0 := Aside0.mk hB.size
 have HB := Aside0.mk hB
 clear hB
 have H : (if (l0.length : Int) > 2000 then (if 2000 ≤ (l0.length : Int) then (some (l0.take 2000, 0)) else (none)) else (some (l0, 0))) = some (r1, r2) := h
 clear h
 by_cases c2 : (l0.length : Int) > 2000
 ·
  rw [if_pos c2] at H
  have dB : decide (2000 < (l0.length : Int)) = true := decide_eq_true c2
  have dC : decide (2000 < l0.length) = true := decide_eq_true (by omega)
  clear c2
  by_cases c3 : 2000 ≤ (l0.length : Int)
  ·
   rw [if_pos c3] at H
   have bv := eq_true c3
   have bw : decide (2000 ≤ (l0.length : Int)) = true := decide_eq_true c3
   clear c3
   simp only [Option.some.injEq, Prod.mk.injEq] at H
   obtain ⟨rfl, rfl⟩ := H
   obtain ⟨i04, hi04, _, hsz4, _⟩ := info_parts info5
   obtain ⟨hcut4, hA4, hC4⟩ := print_take_of (P := Tryd.prog) (Value.int .u8) 0 22 5 .i64 Tryd.underlying22 hi04 hsz4 A0 c0 l0 2000 (by omega) (od_) HC0.out
   have HR151 := Aside0.mk (Kd.C_of_reads (h1 := fun _ => rfl) (hA4 _ (Kd.reads_of_C HR0.out)))
   have HC151 := Aside0.mk hC4
   clear hA4 hC4 hi04 hsz4
   go_enter Tryd.func64, Tryd.ntmps64
   go_wp2_with (first | ((with_reducible refine gate_dst (N := 10) rfl ?_); refine box_event ?hg (N := 10) ?hd (cs := #[.slice A0 (l0.take 2000).length c0, .int .i64 0]) (t := 126) ?hr ?_; (case hd => rfl); (case hg => rfl); (case hr => first | (go_simp; done) | (go_simp; rfl)); intro aQ hg w5 hbox hb; replace HB := bs_ HB hb; have bW := Aside0.mk (hbox); have bX := Aside0.mk ((by rw [hg]; exact (below_size (by repeat (first | (with_reducible first | exact HBW.out | apply la_ | apply ln_ | apply ld_) | exact HBW.out))) : w.heap.size ≤ aQ)); have bZ := Aside0.mk ((Nat.le_trans HW0.out (by rw [hg]; exact (below_size (by repeat (first | (with_reducible first | exact HBW.out | apply la_ | apply ln_ | apply ld_) | exact HBW.out))) : w.heap.size ≤ aQ) : w0.heap.size ≤ aQ)); replace HBW := Aside0.mk (below_step HBW.out hb); clear hb hbox hg))
   go_ret
   exact ⟨_, rfl, (show IsS126 w0 _ aQ (l0.take 2000) 0 from ⟨_, _, by exact tk_ bW.out, bZ.out, HR151.out⟩), (tb_ HB.out), by repeat (first | (with_reducible first | exact HBW.out | apply la_ | apply ln_ | apply ld_ | refine below_set ?_ bX.out) | exact HBW.out)⟩
  ·
   rw [if_neg c3] at H
   exact absurd H (by simp)
 ·
  rw [if_neg c2] at H
  have dB : decide (2000 < (l0.length : Int)) = false := decide_eq_false c2
  have dC : decide (2000 < l0.length) = false := decide_eq_false (by omega)
  clear c2
  simp only [Option.some.injEq, Prod.mk.injEq] at H
  obtain ⟨rfl, rfl⟩ := H
  go_enter Tryd.func64, Tryd.ntmps64
  go_wp2_with (first | ((with_reducible refine gate_dst (N := 10) rfl ?_); refine box_event ?hg (N := 10) ?hd (cs := #[.slice A0 l0.length c0, .int .i64 0]) (t := 126) ?hr ?_; (case hd => rfl); (case hg => rfl); (case hr => first | (go_simp; done) | (go_simp; rfl)); intro aR hg w6 hbox hb; replace HB := bs_ HB hb; have b0 := Aside0.mk (hbox); have b1 := Aside0.mk ((by rw [hg]; exact (below_size (by repeat (first | (with_reducible first | exact HBW.out | apply la_ | apply ln_ | apply ld_) | exact HBW.out))) : w.heap.size ≤ aR)); have b2 := Aside0.mk ((Nat.le_trans HW0.out (by rw [hg]; exact (below_size (by repeat (first | (with_reducible first | exact HBW.out | apply la_ | apply ln_ | apply ld_) | exact HBW.out))) : w.heap.size ≤ aR) : w0.heap.size ≤ aR)); replace HBW := Aside0.mk (below_step HBW.out hb); clear hb hbox hg))
  go_ret
  exact ⟨_, rfl, (show IsS126 w0 _ aR l0 0 from ⟨_, _, by exact tk_ b0.out, b2.out, HR0.out⟩), (tb_ HB.out), by repeat (first | (with_reducible first | exact HBW.out | apply la_ | apply ln_ | apply ld_ | refine below_set ?_ b1.out) | exact HBW.out)⟩

end Go.Proofs.YtlhiienanbpdlaaDoor.MFnJournalText
