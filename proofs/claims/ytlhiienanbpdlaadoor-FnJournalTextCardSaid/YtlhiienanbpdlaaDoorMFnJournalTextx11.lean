/- For the law FnJournalText: walks of the functions that it reaches: each call returns what the plain function beside it tells. The conditions stand in each statement. -/
import Derived.Test.YtlhiienanbpdlaaDoorV
import Derived.Test.YtlhiienanbpdlaaDoorMFnJournalTextx0
import Derived.Test.YtlhiienanbpdlaaDoorMFnJournalTextx1
import Derived.Test.YtlhiienanbpdlaaDoorMFnJournalTextx2
import Derived.Test.YtlhiienanbpdlaaDoorMFnJournalTextx3
import Derived.Test.YtlhiienanbpdlaaDoorMFnJournalTextx4
import Derived.Test.YtlhiienanbpdlaaDoorMFnJournalTextx5
import Derived.Test.YtlhiienanbpdlaaDoorMFnJournalTextx7
import Derived.Test.YtlhiienanbpdlaaDoorMFnJournalTextx10
namespace Go.Proofs.YtlhiienanbpdlaaDoor.MFnJournalText
open Go.RowKit Go.Proofs.YtlhiienanbpdlaaDoorW.PrintWords Go.Proofs.YtlhiienanbpdlaaDoorW.PrintLast Go.Proofs.YtlhiienanbpdlaaDoorW.PrintMore
attribute [local go_sem] max2_int min2_int max_two min_two max_three min_three max_four min_four   -- for this text's walks alone
set_option linter.unusedVariables false
set_option linter.unusedSimpArgs false

attribute [local go_sem high] eqA30
/-! ### spec_l20Written: function 103 -/
def spec_l20Written.l0 : Nat → List (S30) → List (S30) → Int → List Int → Int → Option ((List (S30)) × Int)
 | 0, _, _, _, _, _ => none
 | k + 1, x3, x4, x5, bo, aY => if x5 < (x4.length : Int) then (if 0 ≤ x5 then ((spec_DeedText.f k ((rd_T30 x4 x5).f0) ((rd_T30 x4 x5).f1) ((rd_T30 x4 x5).f2)).bind fun aI => (if aI.toList = ([] : List UInt8) then (spec_l20Written.l0 k x3 x4 (wrap64 (x5 + 1)) bo aY) else (if x3.length < 5864062014805 then (spec_l20Written.l0 k (x3 ++ [(⟨(rd_T30 x4 x5).f0, (rd_T30 x4 x5).f1, (rd_T30 x4 x5).f2⟩ : S30)]) x4 (wrap64 (x5 + 1)) bo aY) else (none)))) else (none)) else (some (x3, aY))
def spec_l20Written.f (k : Nat) (aj : List Int) (aQ : Int) : Option ((List (S30)) × Int) := (spec_l20Place.f k aj aQ 0).bind fun ak => ((spec_l20Deeds.f k aj ak.2.2.2 ak.1 ak.2.1 ak.2.2.1).bind fun az => (spec_l20Written.l0 k (([] : List (S30))) az.1 0 aj az.2))
theorem spec_l20Written.mono_l : ∀ k, (∀ y0 y1 y2 y3 y4, LeO (spec_l20Written.l0 k y0 y1 y2 y3 y4) (spec_l20Written.l0 (k + 1) y0 y1 y2 y3 y4))
 | 0 => fun _ _ _ _ _ r h => by simp [spec_l20Written.l0] at h
 | k + 1 => by
  have ih0 := spec_l20Written.mono_l k
  ·
   intro y0 y1 y2 y3 y4
   unfold spec_l20Written.l0
   repeat' (with_reducible first | exact ih0 _ _ _ _ _ | exact spec_DeedText.mono _ _ _ _ | exact spec_l20Deeds.mono _ _ _ _ _ _ | exact spec_l20Place.mono _ _ _ _ | exact mr_ | exact mn_ | refine mi_ ?_ ?_ | refine mb_ ?_ (fun _ => ?_))
theorem spec_l20Written.mono : ∀ a0 a1 k, LeO (spec_l20Written.f k a0 a1) (spec_l20Written.f (k + 1) a0 a1) := by
 intro a0 a1 k
 have ih0 := spec_l20Written.mono_l k
 unfold spec_l20Written.f
 repeat' (with_reducible first | exact ih0 _ _ _ _ _ | exact spec_DeedText.mono _ _ _ _ | exact spec_l20Deeds.mono _ _ _ _ _ _ | exact spec_l20Place.mono _ _ _ _ | exact mr_ | exact mn_ | refine mi_ ?_ ?_ | refine mb_ ?_ (fun _ => ?_))
set_option maxHeartbeats 8000000 in
set_option maxRecDepth 100000 in
theorem spec_l20Written.calls (k : Nat) (g : Nat) (aj : List Int) (aQ : Int) (r1 : List (S30)) (r2 : Int) (w0 w : World) (hI : IsS126 w0 w g aj aQ) (hB : Below w0.heap.size w0 w) (h : spec_l20Written.f k aj aQ = some (r1, r2)) :
  Calls Tryd.prog 103 #[.pointer (some ⟨g, 0, none⟩)] w fun e w' => ∃ v0_ : Value, e = .returned (v0_) ∧ Kd.R k30 30 w' w.heap.size (fun _ => True) v0_ r1 ∧ IsS126 w0 w' g aj r2 ∧ Below w0.heap.size w0 w' ∧ KeepBut w w' g none := by
 have hu30 := Tryd.underlying30
 have HI0 := Aside0.mk hI
 have HK := Aside0.mk (KeepBut.refl w g none)
 have HL := Aside0.mk hB.size
 have HLg := Aside0.mk hI.lt
 clear hI
 have HW0 := Aside0.mk hB.size
 have HB := Aside0.mk hB
 clear hB
 have H : ((spec_l20Place.f k aj aQ 0).bind fun ak => ((spec_l20Deeds.f k aj ak.2.2.2 ak.1 ak.2.1 ak.2.2.1).bind fun az => (spec_l20Written.l0 k (([] : List (S30))) az.1 0 aj az.2))) = some (r1, r2) := h
 clear h
 obtain ⟨bF, aZ⟩ : ∃ y_ : List (S30), y_ = (([] : List (S30))) := ⟨_, rfl⟩
 replace H : ((spec_l20Place.f k aj aQ 0).bind fun ak => ((spec_l20Deeds.f k aj ak.2.2.2 ak.1 ak.2.1 ak.2.2.1).bind fun az => (spec_l20Written.l0 k bF az.1 0 aj az.2))) = some (r1, r2) := yq_ aZ H
 have bp := Aside0.mk aZ
 clear aZ
 obtain ⟨⟨br, bs, bu, a2⟩, A2, H⟩ := bnd_ H
 try dsimp only at H
 obtain ⟨⟨ad, bb⟩, A3, H⟩ := bnd_ H
 try dsimp only at H
 have H' := Aside0.mk H
 clear H
 go_enter Tryd.func103, Tryd.ntmps103
 go_wp2_with (first | ((with_reducible refine gate_dst (N := 6) rfl ?_); refine Kd.R_lit k30 _ 30 ?hg (N := 6) ?hd (xs := ([] : List (S30))) (inner := []) (ok := fun _ => True) (okp := fun _ => True) ?hr ?hp (fun _ hk => hk) trivial (Below.refl _ _) (Nat.le_refl _) (by simp) ?_; (case hd => rfl); (case hg => rfl); (case hr => first | (go_simp; done) | (go_simp; rfl)); (case hp => exact (Reps.none _ _)); intro cN w4 ho5 hb hg_ hnew_; clear hg_ hnew_; (first | rw [← bp.out] at ho5 | (simp only [Int.reduceToNat] at ho5; rw [← bp.out] at ho5)); have aE := rl_ ho5 HK; replace HI0 := ti126_b HI0 hb; replace HK := ko_ HK hb; replace HB := tu126_s HB hb; clear hb ho5) | ((with_reducible refine gate_callee (f := 97) rfl ?_); refine gl_ (some 9) Tryd.func97 #[.pointer (some ⟨g, 0, none⟩), .int .i64 0] ?_; (with_reducible refine (spec_l20Place.calls k g aj aQ 0 br bs bu a2 w0 _ ?s1 ?s2 A2.out).mono ?_); (case s1 => exact ti126_ HI0.out); (case s2 => exact tu126_ HB.out); rintro e w6 ⟨cO, cP, rfl, ho0, ho1, hi, hb, hk⟩; refine ⟨_, rfl, ?_⟩; replace aE := Aside0.mk (Kd.R_mono (Kd.R_keep (IsS126.apart (ti126_ HI0.out : IsS126 w0 _ g aj aQ) (rR_ aE.out) (by decide)) hk (fun _ h => h.2)) (fun _ h => h.1)); have aG := rl_ ho0 HK; have aH := rl_ ho1 HK; replace HK := kt_ HK hk; replace HB := Aside0.mk (hb); replace HI0 := Aside0.mk (hi); (try clear hb); (try clear hb2); (try clear hk); (try clear hi); (try clear ho0); (try clear ho1); obtain ⟨cQ, co7, cR⟩ := Kd.R_slice aG.out; subst cR; obtain ⟨cS, co8, cT⟩ := Kd.R_slice aH.out; subst cT) | ((with_reducible refine gate_callee (f := 81) rfl ?_); refine gl_ (some 10) Tryd.func81 #[.pointer (some ⟨g, 0, none⟩), .agg #[.slice cQ br.length co7, .int .i64 bs, .slice cS bu.length co8]] ?_; (with_reducible refine (spec_l20Deeds.calls k g aj a2 _ _ br bs _ _ bu ad bb w0 _ ?s1 ?s2 ?s3 ?s4 ?s5 ?s6 ?s7 ?s8 A3.out).mono ?_); (case s1 => exact ti126_ HI0.out); (case s2 => exact tu126_ HB.out); (case s3 => repeat (first | exact (Kd.R_reads' aG.out).2.2 | (with_reducible refine Kd.C_alloc ?_ _) | (with_reducible refine Kd.C_drewN ?_ _) | (with_reducible refine Kd.C_drew ?_))); (case s4 => exact (Kd.R_reads' aG.out).2.1); (case s5 => exact far_slice (IsS126.own_ne HI0.out aG.out (by decide))); (case s6 => repeat (first | exact (Kd.R_reads' aH.out).2.2 | (with_reducible refine Kd.C_alloc ?_ _) | (with_reducible refine Kd.C_drewN ?_ _) | (with_reducible refine Kd.C_drew ?_))); (case s7 => exact (Kd.R_reads' aH.out).2.1); (case s8 => exact far_slice (IsS126.own_ne HI0.out aH.out (by decide))); rintro e w9 ⟨bG, rfl, ho0, hi, hb, hk⟩; refine ⟨_, rfl, ?_⟩; replace aG := Aside0.mk (Kd.R_mono (Kd.R_keep (IsS126.apart (ti126_ HI0.out : IsS126 w0 _ g aj a2) (rR_ aG.out) (by decide)) hk (fun _ h => h.2)) (fun _ h => h.1)); replace aH := Aside0.mk (Kd.R_mono (Kd.R_keep (IsS126.apart (ti126_ HI0.out : IsS126 w0 _ g aj a2) (rR_ aH.out) (by decide)) hk (fun _ h => h.2)) (fun _ h => h.1)); have bH := Aside0.mk (Kd.R_lower (Kd.R_new' ho0 (Kd.R_lt (rR_ aE.out))) (keep_size (w := w) (g := g) (row := none) (tc_ HK.out))); replace aE := Aside0.mk (Kd.R_mono (Kd.R_told (Kd.R_oldK (IsS126.apart (ti126_ HI0.out : IsS126 w0 _ g aj a2) (rR_ aE.out) (by decide)) hk) (Kd.R_base ho0)) (fun _ h_ => h_.1)); replace HK := kt_ HK hk; replace HB := Aside0.mk (hb); replace HI0 := Aside0.mk (hi); (try clear hb); (try clear hb2); (try clear hk); (try clear hi); (try clear ho0)))
 go_loopg [3, 5] k (fun kq v3 v5 w' => ∃ (ah : List (S30)) (aa : Int), v5 = .int .i64 aa ∧ Aside0 (spec_l20Written.l0 kq ah ad aa aj bb = some (r1, r2)) ∧ Aside0 (kq ≤ k) ∧ Aside0 (Kd.R k30 30 w' w.heap.size (fun k_ => some k_ ≠ (bG : Value).ownBlock) v3 ah) ∧ Aside0 (Kd.R k30 30 w' w.heap.size (fun k_ => some k_ ≠ (v3 : Value).ownBlock) bG ad) ∧ Aside0 (IsS126 w0 w' g aj bb) ∧ Aside0 (KeepBut w w' g none) ∧ Aside0 (Below w0.heap.size w0 w'))
 case atStart => exact ⟨(bF), (0), tx_, H', ⟨Nat.le_refl _⟩, ⟨by refine qR_ ?_; exact Kd.R_mono aE.out (fun _ hk => hk.2)⟩, ⟨by refine qR_ ?_; exact Kd.R_mono bH.out (fun _ hk => hk.2)⟩, ⟨ti126_ HI0.out⟩, ⟨(tc_ HK.out)⟩, ⟨tu126_ HB.out⟩⟩
 case round =>
  clear H'
  try clear c1
  try clear p2
  try clear c8
  try clear c9
  obtain ⟨ah, aa, rfl, HA, HK1, aD, au, HI0, HK, HB⟩ := hrel
  cases gk with
  | zero => exact absurd HA.out (by simp [spec_l20Written.l0])
  | succ k1 =>
   have H := HA.out
   clear HA
   simp only [spec_l20Written.l0] at H
   by_cases c10 : aa < (ad.length : Int)
   ·
    rw [if_pos c10] at H
    have bq : decide (aa < (ad.length : Int)) = true := decide_eq_true c10
    clear c10
    by_cases c11 : 0 ≤ aa
    ·
     rw [if_pos c11] at H
     have bI : decide (0 ≤ aa) = true := decide_eq_true c11
     clear c11
     obtain ⟨aI, A12, H⟩ := bnd_ H
     try dsimp only at H
     by_cases c13 : aI.toList = ([] : List UInt8)
     ·
      rw [if_pos c13] at H
      have bJ : (aI.toList == ([] : List UInt8)) = true := beq_iff_eq.mpr c13
      have bK : (aI.toList != ([] : List UInt8)) = false := bne_eq_false_iff_eq.mpr c13
      clear c13
      have H' := Aside0.mk H
      clear H
      obtain ⟨cU, cV, ce⟩ := Kd.R_slice au.out
      subst ce
      have p355 : 0 ≤ (aa : Int) := od_
      have q355 : aa < (ad.length : Int) := od_
      obtain ⟨ad355, e355, bc, bd, be⟩ := at_T30 (Kd.R_reads' au.out).2.2 aa p355 q355
      cases e355
      replace p355 := eq_true p355
      replace q355 := eq_true q355
      go_wp2_with (first | ((with_reducible refine gate_callee (f := 47) rfl ?_); refine gl_ (some 21) Tryd.func47 #[.agg #[.int .i64 ((rd_T30 ad aa).f0), .int .i64 ((rd_T30 ad aa).f1), .int .i64 ((rd_T30 ad aa).f2)]] ?_; (with_reducible refine (spec_DeedText.calls k1 ((rd_T30 ad aa).f0) ((rd_T30 ad aa).f1) ((rd_T30 ad aa).f2) aI _ A12.out).mono ?_); rintro e dl ⟨rfl, hb⟩; refine ⟨_, rfl, ?_⟩; replace aD := rb_ aD hb; replace au := rb_ au hb; replace HI0 := ti126_b HI0 hb; replace HK := ko_ HK hb; replace HB := tu126_s HB hb; (try clear hb); (try clear hb2); (try clear hk); (try clear hi)))
      go_roundg k1
      case measure => have := HK1.out; omega
      case rel => exact ⟨(ah), (wrap64 (aa + 1)), tx_, H', ⟨by have := HK1.out; omega⟩, ⟨rR_ aD.out⟩, ⟨rR_ au.out⟩, ⟨ti126_ HI0.out⟩, ⟨(tc_ HK.out)⟩, ⟨tu126_ HB.out⟩⟩
     ·
      rw [if_neg c13] at H
      have bJ : (aI.toList == ([] : List UInt8)) = false := beq_eq_false_iff_ne.mpr c13
      have bK : (aI.toList != ([] : List UInt8)) = true := bne_iff_ne.mpr c13
      by_cases c16 : ah.length < 5864062014805
      ·
       rw [if_pos c16] at H
       have bL := Aside0.mk c16
       clear c16
       obtain ⟨bM, a3⟩ : ∃ y_ : List (S30), y_ = (ah ++ [(⟨(rd_T30 ad aa).f0, (rd_T30 ad aa).f1, (rd_T30 ad aa).f2⟩ : S30)]) := ⟨_, rfl⟩
       replace H : (spec_l20Written.l0 k1 bM ad (wrap64 (aa + 1)) aj bb) = some (r1, r2) := yq_ a3 H
       have bN := Aside0.mk a3
       clear a3
       have H' := Aside0.mk H
       clear H
       obtain ⟨cW, cf, cg⟩ := Kd.R_slice au.out
       subst cg
       have p355 : 0 ≤ (aa : Int) := od_
       have q355 : aa < (ad.length : Int) := od_
       obtain ⟨ad355, e355, bc, bd, be⟩ := at_T30 (Kd.R_reads' au.out).2.2 aa p355 q355
       cases e355
       replace p355 := eq_true p355
       replace q355 := eq_true q355
       go_wp2_with (first | ((with_reducible refine gate_callee (f := 47) rfl ?_); refine gl_ (some 21) Tryd.func47 #[.agg #[.int .i64 ((rd_T30 ad aa).f0), .int .i64 ((rd_T30 ad aa).f1), .int .i64 ((rd_T30 ad aa).f2)]] ?_; (with_reducible refine (spec_DeedText.calls k1 ((rd_T30 ad aa).f0) ((rd_T30 ad aa).f1) ((rd_T30 ad aa).f2) aI _ A12.out).mono ?_); rintro e dm ⟨rfl, hb⟩; refine ⟨_, rfl, ?_⟩; replace aD := rb_ aD hb; replace au := rb_ au hb; replace HI0 := ti126_b HI0 hb; replace HK := ko_ HK hb; replace HB := tu126_s HB hb; (try clear hb); (try clear hb2); (try clear hk); (try clear hi); have p357 : 0 ≤ (aa : Int) := od_; have q357 : aa < (ad.length : Int) := od_; obtain ⟨ad357, e357, b5, b6, b7⟩ := at_T30 (Kd.R_reads' au.out).2.2 aa p357 q357; obtain rfl : ad355 = ad357 := (by injection e357); replace p357 := eq_true p357; replace q357 := eq_true q357) | ((with_reducible refine gate_builtin (b := .append) (xs := #[.tmp 23, .tmp 28]) rfl ?_); at_builtin; refine Kd.R_append k30 w.heap.size rfl (.tmp 23) (.tmp 28) 44 30 (.agg #[(.int .i64 0), (.int .i64 0), (.int .i64 0)]) 24 rfl Tryd.underlying44 info30 rfl (by decide) (by omega) u3 ah (⟨(rd_T30 ad aa).f0, (rd_T30 ad aa).f1, (rd_T30 ad aa).f2⟩ : S30) [.int .i64 ((rd_T30 ad aa).f0), .int .i64 ((rd_T30 ad aa).f1), .int .i64 ((rd_T30 ad aa).f2)] (fun k_ => some k_ ≠ (.slice (some ad355) ad.length cf : Value).ownBlock) (fun _ => False) rfl rfl ?aP (fun _ hk => hk.elim) ?aF ?aO (Below.refl _ _) ?aS ?aL ?_; (case aP => exact k30_mkM _ _ _ (⟨(rd_T30 ad aa).f0, (rd_T30 ad aa).f1, (rd_T30 ad aa).f2⟩ : S30)); (case aF => exact (fun k_ hk => Kd.fresh' (Kd.R_lt (rR_ au.out)) k_ hk)); (case aO => exact (rR_ aD.out)); (case aS => exact (keep_size (w := w) (g := g) (row := none) (tc_ HK.out))); (case aL => have := bL.out; omega); intro cX cY ho hb hg hat; rw [← bN.out] at ho; replace au := Aside0.mk (Kd.R_after (ok := (fun _ => True)) (by refine qR_ ?_; exact Kd.R_mono au.out (fun _ hk => ⟨trivial, hk⟩)) hg hat); replace HI0 := Aside0.mk (IsS126.grown (ti126_ HI0.out) hg (IsS126.own_ne HI0.out aD.out (by decide))); replace HB := Aside0.mk (below_weaken (tu126_ HB.out) HL.out hb); replace HK := Aside0.mk (KeepBut.trans (tc_ HK.out) (KeepBut.of_grown hg g) (Kd.R_base2 aD.out)); have bO := Aside0.mk (ho); clear aD ho hb hg hat))
       go_roundg k1
       case measure => have := HK1.out; omega
       case rel => exact ⟨(bM), (wrap64 (aa + 1)), tx_, H', ⟨by have := HK1.out; omega⟩, ⟨rR_ bO.out⟩, ⟨by refine qR_ ?_; exact Kd.R_mono au.out (fun _ hk => hk.2)⟩, ⟨ti126_ HI0.out⟩, ⟨(tc_ HK.out)⟩, ⟨tu126_ HB.out⟩⟩
      ·
       rw [if_neg c16] at H
       exact absurd H (by simp)
    ·
     rw [if_neg c11] at H
     exact absurd H (by simp)
   ·
    rw [if_neg c10] at H
    have bq : decide (aa < (ad.length : Int)) = false := decide_eq_false c10
    clear c10
    simp only [Option.some.injEq, Prod.mk.injEq] at H
    obtain ⟨rfl, rfl⟩ := H
    obtain ⟨cZ, da, ch⟩ := Kd.R_slice au.out
    subst ch
    go_wp2
    go_ret
    exact ⟨_, tw_, by refine qR_ ?_; exact Kd.R_mono aD.out (fun _ hk => trivial), ti126_ HI0.out, tu126_ HB.out, (tc_ HK.out)⟩

/-! ### spec_DrawJournalText: function 49 -/
def spec_DrawJournalText.f (k : Nat) (l0 : List Int) : Option ((List (S30))) := (spec_l20Open.f l0).bind fun aA => ((spec_l20Written.f k aA.1 aA.2).bind fun av => ((spec_l20Rd_odd.f k aA.1 av.2 12).bind fun a4 => (if a4.1 = true then (if av.1.length < 5864062014805 then (some (av.1 ++ [(⟨9, 0, 0⟩ : S30)])) else (none)) else (some av.1))))
theorem spec_DrawJournalText.mono : ∀ a0 k, LeO (spec_DrawJournalText.f k a0) (spec_DrawJournalText.f (k + 1) a0) := by
 intro a0 k
 unfold spec_DrawJournalText.f
 repeat' (with_reducible first | exact spec_l20Rd_odd.mono _ _ _ _ | exact spec_l20Written.mono _ _ _ | exact mr_ | exact mn_ | refine mi_ ?_ ?_ | refine mb_ ?_ (fun _ => ?_))
set_option maxHeartbeats 8000000 in
set_option maxRecDepth 100000 in
theorem spec_DrawJournalText.calls (k : Nat) (A0 : Option Addr) (c0 : Nat) (l0 : List Int) (r : List (S30)) (w : World) (hr0 : Kd.C (Kd.int .u8) w A0 l0.length l0) (hc0 : l0.length ≤ c0) (h : spec_DrawJournalText.f k l0 = some r) :
  Calls Tryd.prog 49 #[.slice A0 l0.length c0] w fun e w' => ∃ v0_ : Value, e = .returned (v0_) ∧ Kd.R k30 30 w' w.heap.size (fun _ => True) v0_ r ∧ Below w.heap.size w w' := by
 have hu30 := Tryd.underlying30
 have HR0 := Aside0.mk hr0
 have HC0 := Aside0.mk hc0
 clear hr0 hc0
 have HB := Aside0.mk (Below.refl w.heap.size w)
 have H : ((spec_l20Open.f l0).bind fun aA => ((spec_l20Written.f k aA.1 aA.2).bind fun av => ((spec_l20Rd_odd.f k aA.1 av.2 12).bind fun a4 => (if a4.1 = true then (if av.1.length < 5864062014805 then (some (av.1 ++ [(⟨9, 0, 0⟩ : S30)])) else (none)) else (some av.1))))) = some r := h
 clear h
 obtain ⟨⟨aR, bf⟩, A2, H⟩ := bnd_ H
 try dsimp only at H
 obtain ⟨⟨aU, aW⟩, A3, H⟩ := bnd_ H
 try dsimp only at H
 obtain ⟨⟨ci, bP⟩, A4, H⟩ := bnd_ H
 try dsimp only at H
 by_cases c5 : ci = true
 ·
  subst c5
  have H1 : (if aU.length < 5864062014805 then (some (aU ++ [(⟨9, 0, 0⟩ : S30)])) else (none)) = some r := by rw [if_pos rfl] at H; exact H
  clear H
  have H := H1
  clear H1
  by_cases c6 : aU.length < 5864062014805
  ·
   rw [if_pos c6] at H
   have cj := Aside0.mk c6
   clear c6
   obtain ⟨ck, a5⟩ : ∃ y_ : List (S30), y_ = (aU ++ [(⟨9, 0, 0⟩ : S30)]) := ⟨_, rfl⟩
   replace H : (some ck) = some r := yq_ a5 H
   have bQ := Aside0.mk a5
   clear a5
   obtain rfl := Option.some.inj H
   go_enter Tryd.func49, Tryd.ntmps49
   go_wp2_with (first | ((with_reducible refine gate_callee (f := 64) rfl ?_); refine gl_ (some 6) Tryd.func64 #[.slice A0 l0.length c0] ?_; (with_reducible refine (spec_l20Open.calls _ _ l0 aR bf w _ ?s1 ?s2 ?s3 A2.out).mono ?_); (case s1 => exact tb_ HB.out); (case s2 => exact HR0.out); (case s3 => exact HC0.out); rintro e w7 ⟨g363, rfl, hi, hb, hb2⟩; refine ⟨_, rfl, ?_⟩; replace HB := Aside0.mk (hb); have HI363 := Aside0.mk (hi); (try clear hb); (try clear hb2); (try clear hk); (try clear hi)) | ((with_reducible refine gate_callee (f := 103) rfl ?_); refine gl_ (some 8) Tryd.func103 #[.pointer (some ⟨g363, 0, none⟩)] ?_; (with_reducible refine (spec_l20Written.calls k g363 aR bf aU aW w _ ?s1 ?s2 A3.out).mono ?_); (case s1 => exact ti126_ HI363.out); (case s2 => exact tu126_ HB.out); rintro e w8 ⟨bR, rfl, ho0, hi, hb, hk⟩; refine ⟨_, rfl, ?_⟩; have aw := Aside0.mk (Kd.R_lower ho0 (below_size (tu126_ HB.out))); replace HB := Aside0.mk (hb); replace HI363 := Aside0.mk (hi); (try clear hb); (try clear hb2); (try clear hk); (try clear hi); (try clear ho0)) | ((with_reducible refine gate_callee (f := 80) rfl ?_); refine gl_ (some 10) Tryd.func80 #[.pointer (some ⟨g363, 0, none⟩), .int .i64 12] ?_; (with_reducible refine (spec_l20Rd_odd.calls k g363 aR aW 12 true bP w _ ?s1 ?s2 A4.out).mono ?_); (case s1 => exact ti126_ HI363.out); (case s2 => exact tu126_ HB.out); rintro e w9 ⟨rfl, hi, hb, hk⟩; refine ⟨_, rfl, ?_⟩; replace aw := Aside0.mk (Kd.R_mono (Kd.R_keep (IsS126.apart (ti126_ HI363.out : IsS126 w _ g363 aR aW) (rR_ aw.out) (by decide)) hk (fun _ h => h.2)) (fun _ h => h.1)); replace HB := Aside0.mk (hb); replace HI363 := Aside0.mk (hi); (try clear hb); (try clear hb2); (try clear hk); (try clear hi)) | ((with_reducible refine gate_builtin (b := .append) (xs := #[.tmp 11, .tmp 13]) rfl ?_); at_builtin; refine Kd.R_append k30 (w0 := w) w.heap.size rfl (.tmp 11) (.tmp 13) 44 30 (.agg #[(.int .i64 0), (.int .i64 0), (.int .i64 0)]) 24 rfl Tryd.underlying44 info30 rfl (by decide) (by omega) bR aU (⟨9, 0, 0⟩ : S30) [.int .i64 9, .int .i64 0, .int .i64 0] (fun _ => True) (fun _ => False) rfl rfl ?aP (fun _ hk => hk.elim) ?aF ?aO ?aB ?aS ?aL ?_; (case aP => exact k30_mkM _ _ _ (⟨9, 0, 0⟩ : S30)); (case aB => exact (tu126_ HB.out)); (case aF => exact (fun _ _ => trivial)); (case aO => exact (rR_ aw.out)); (case aS => exact (below_size (tu126_ HB.out))); (case aL => have := cj.out; omega); intro db dc ho hb hg hat; rw [← bQ.out] at ho; replace HI363 := Aside0.mk (IsS126.grown (ti126_ HI363.out) hg (IsS126.own_ne HI363.out aw.out (by decide))); replace HB := Aside0.mk (hb); have bS := Aside0.mk (ho); clear aw ho hb hg hat))
   go_ret
   exact ⟨_, tw_, by refine qR_ ?_; exact bS.out, tu126_ HB.out⟩
  ·
   rw [if_neg c6] at H
   exact absurd H (by simp)
 ·
  replace c5 := Bool.eq_false_iff.mpr c5
  subst c5
  have H1 : (some aU) = some r := by rw [if_neg (show ¬ (false = true) by decide)] at H; exact H
  clear H
  have H := H1
  clear H1
  obtain rfl := Option.some.inj H
  go_enter Tryd.func49, Tryd.ntmps49
  go_wp2_with (first | ((with_reducible refine gate_callee (f := 64) rfl ?_); refine gl_ (some 6) Tryd.func64 #[.slice A0 l0.length c0] ?_; (with_reducible refine (spec_l20Open.calls _ _ l0 aR bf w _ ?s1 ?s2 ?s3 A2.out).mono ?_); (case s1 => exact tb_ HB.out); (case s2 => exact HR0.out); (case s3 => exact HC0.out); rintro e cG ⟨g363, rfl, hi, hb, hb2⟩; refine ⟨_, rfl, ?_⟩; replace HB := Aside0.mk (hb); have HI363 := Aside0.mk (hi); (try clear hb); (try clear hb2); (try clear hk); (try clear hi)) | ((with_reducible refine gate_callee (f := 103) rfl ?_); refine gl_ (some 8) Tryd.func103 #[.pointer (some ⟨g363, 0, none⟩)] ?_; (with_reducible refine (spec_l20Written.calls k g363 aR bf aU aW w _ ?s1 ?s2 A3.out).mono ?_); (case s1 => exact ti126_ HI363.out); (case s2 => exact tu126_ HB.out); rintro e cH ⟨bR, rfl, ho0, hi, hb, hk⟩; refine ⟨_, rfl, ?_⟩; have aw := Aside0.mk (Kd.R_lower ho0 (below_size (tu126_ HB.out))); replace HB := Aside0.mk (hb); replace HI363 := Aside0.mk (hi); (try clear hb); (try clear hb2); (try clear hk); (try clear hi); (try clear ho0)) | ((with_reducible refine gate_callee (f := 80) rfl ?_); refine gl_ (some 10) Tryd.func80 #[.pointer (some ⟨g363, 0, none⟩), .int .i64 12] ?_; (with_reducible refine (spec_l20Rd_odd.calls k g363 aR aW 12 false bP w _ ?s1 ?s2 A4.out).mono ?_); (case s1 => exact ti126_ HI363.out); (case s2 => exact tu126_ HB.out); rintro e dd ⟨rfl, hi, hb, hk⟩; refine ⟨_, rfl, ?_⟩; replace aw := Aside0.mk (Kd.R_mono (Kd.R_keep (IsS126.apart (ti126_ HI363.out : IsS126 w _ g363 aR aW) (rR_ aw.out) (by decide)) hk (fun _ h => h.2)) (fun _ h => h.1)); replace HB := Aside0.mk (hb); replace HI363 := Aside0.mk (hi); (try clear hb); (try clear hb2); (try clear hk); (try clear hi)))
  go_ret
  exact ⟨_, tw_, by refine qR_ ?_; exact aw.out, tu126_ HB.out⟩

/-! ### impl_JournalText: function 50 -/
def impl_JournalText.l0 : Nat → ByteArray → List (S30) → Int → Int → Option (ByteArray)
 | 0, _, _, _, _ => none
 | k + 1, x3, x7, x8, x9 => if x9 < x8 then (if 0 ≤ x9 then (if x9 < (x7.length : Int) then ((impl_DeedText.f k ((rd_T30 x7 x9).f0) ((rd_T30 x7 x9).f1) ((rd_T30 x7 x9).f2)).bind fun al => (if al.toList = ([] : List UInt8) then (some (⟨#[]⟩ : ByteArray)) else (if al.size + 1 ≤ 9223372036854775807 then (if x3.size + (al ++ (⟨#[10]⟩ : ByteArray)).size ≤ 9223372036854775807 then (impl_JournalText.l0 k (x3 ++ (al ++ (⟨#[10]⟩ : ByteArray))) x7 x8 (wrap64 (x9 + 1))) else (none)) else (none)))) else (none)) else (none)) else (some x3)
def impl_JournalText.f (k : Nat) (l0 : List (S30)) : Option (ByteArray) := impl_JournalText.l0 k (⟨#[]⟩ : ByteArray) l0 (l0.length : Int) 0
theorem impl_JournalText.mono_l : ∀ k, (∀ y0 y1 y2 y3, LeO (impl_JournalText.l0 k y0 y1 y2 y3) (impl_JournalText.l0 (k + 1) y0 y1 y2 y3))
 | 0 => fun _ _ _ _ r h => by simp [impl_JournalText.l0] at h
 | k + 1 => by
  have ih0 := impl_JournalText.mono_l k
  ·
   intro y0 y1 y2 y3
   unfold impl_JournalText.l0
   repeat' (with_reducible first | exact ih0 _ _ _ _ | exact impl_DeedText.mono _ _ _ _ | exact mr_ | exact mn_ | refine mi_ ?_ ?_ | refine mb_ ?_ (fun _ => ?_))
theorem impl_JournalText.mono : ∀ a0 k, LeO (impl_JournalText.f k a0) (impl_JournalText.f (k + 1) a0) := by
 intro a0 k
 have ih0 := impl_JournalText.mono_l k
 unfold impl_JournalText.f
 repeat' (with_reducible first | exact ih0 _ _ _ _ | exact impl_DeedText.mono _ _ _ _ | exact mr_ | exact mn_ | refine mi_ ?_ ?_ | refine mb_ ?_ (fun _ => ?_))
set_option maxHeartbeats 8000000 in
set_option maxRecDepth 100000 in
theorem impl_JournalText.calls (k : Nat) (A0 : Option Addr) (c0 : Nat) (l0 : List (S30)) (r : ByteArray) (w : World) (hr0 : Kd.C k30 w A0 l0.length l0) (hc0 : l0.length ≤ c0) (hG : GWb w) (h : impl_JournalText.f k l0 = some r) :
  Calls Tryd.prog 50 #[.slice A0 l0.length c0] w fun e w' => e = .returned (.string r) ∧ Below w.heap.size w w' := by
 have HG := Aside0.mk hG
 clear hG
 have hu30 := Tryd.underlying30
 have HR0 := Aside0.mk hr0
 have HC0 := Aside0.mk hc0
 clear hr0 hc0
 have HB := Aside0.mk (Below.refl w.heap.size w)
 have H : (impl_JournalText.l0 k (⟨#[]⟩ : ByteArray) l0 (l0.length : Int) 0) = some r := h
 clear h
 have H' := Aside0.mk H
 clear H
 go_enter Tryd.func50, Tryd.ntmps50
 go_wp2
 go_loopg [3, 9] k (fun kq v3 v9 w' => ∃ (ah : ByteArray) (ae : Int), v3 = .string ah ∧ v9 = .int .i64 ae ∧ Aside0 (impl_JournalText.l0 kq ah l0 (l0.length : Int) ae = some r) ∧ Aside0 (kq ≤ k) ∧ Aside0 (Below w.heap.size w w'))
 case atStart => exact ⟨((⟨#[]⟩ : ByteArray)), (0), tx_, tx_, H', ⟨Nat.le_refl _⟩, ⟨(tb_ HB.out)⟩⟩
 case round =>
  clear H'
  obtain ⟨ah, ae, rfl, rfl, HA, HK1, HB⟩ := hrel
  cases gk with
  | zero => exact absurd HA.out (by simp [impl_JournalText.l0])
  | succ k1 =>
   have H := HA.out
   clear HA
   simp only [impl_JournalText.l0] at H
   by_cases c2 : ae < (l0.length : Int)
   ·
    rw [if_pos c2] at H
    have a6 : decide (ae < (l0.length : Int)) = true := decide_eq_true c2
    clear c2
    by_cases c3 : 0 ≤ ae
    ·
     rw [if_pos c3] at H
     have bg : decide (0 ≤ ae) = true := decide_eq_true c3
     clear c3
     by_cases c4 : ae < (l0.length : Int)
     ·
      rw [if_pos c4] at H
      have bU : decide (ae < (l0.length : Int)) = true := decide_eq_true c4
      clear c4
      obtain ⟨al, A5, H⟩ := bnd_ H
      try dsimp only at H
      by_cases c6 : al.toList = ([] : List UInt8)
      ·
       rw [if_pos c6] at H
       have bh : (al.toList == ([] : List UInt8)) = true := beq_iff_eq.mpr c6
       have bv : (al.toList != ([] : List UInt8)) = false := bne_eq_false_iff_eq.mpr c6
       clear c6
       obtain rfl := Option.some.inj H
       have p373 : 0 ≤ (ae : Int) := od_
       have q373 : ae < (l0.length : Int) := od_
       obtain ⟨ad373, e373, am, an, ao⟩ := at_T30 HR0.out ae p373 q373
       cases e373
       replace am := (HB.out.cell (World.block_lt_of_cell? w _ am)).trans am
       replace an := (HB.out.cell (World.block_lt_of_cell? w _ an)).trans an
       replace ao := (HB.out.cell (World.block_lt_of_cell? w _ ao)).trans ao
       replace p373 := eq_true p373
       replace q373 := eq_true q373
       go_wp2_with (first | ((with_reducible refine gate_dst (N := 5) rfl ?_); refine box_event ?hg (N := 5) ?hd (cs := #[.int .i64 0, .int .i64 0, .int .i64 0]) (t := 30) ?hr ?_; (case hd => rfl); (case hg => rfl); (case hr => first | (go_simp; done) | (go_simp; rfl)); intro a7 hg w7 hbox hb; have ai := Aside0.mk (hbox); have bV := gx_ HB hg; have bW := gx_ HB hg; replace HB := bs_ HB hb; clear hb hbox hg; have cl := cz_ ai 0; have cm := cz_ ai 1; have cn := cz_ ai 2; have co := blk_frozen ai.out 0; have cp := blk_frozen ai.out 1; have cq := blk_frozen ai.out 2) | ((with_reducible refine gate_callee (f := 46) rfl ?_); refine gl_ (some 14) Tryd.func46 #[.agg #[.int .i64 ((rd_T30 l0 ae).f0), .int .i64 ((rd_T30 l0 ae).f1), .int .i64 ((rd_T30 l0 ae).f2)]] ?_; (with_reducible refine (impl_DeedText.calls k1 ((rd_T30 l0 ae).f0) ((rd_T30 l0 ae).f1) ((rd_T30 l0 ae).f2) al _ ?s1 A5.out).mono ?_); (case s1 => exact GWb.below HG.out (tb_ HB.out)); rintro e w9 ⟨rfl, hb⟩; refine ⟨_, rfl, ?_⟩; replace ai := Aside0.mk (blk_below (g := a7) (o := .cells #[.int .i64 ((rd_T30 l0 ae).f0), .int .i64 ((rd_T30 l0 ae).f1), .int .i64 ((rd_T30 l0 ae).f2)] 30 (0, 0)) (ps_ ai.out) hb); replace HB := bs_ HB hb; (try clear hb); (try clear hb2); (try clear hk); (try clear hi)))
       go_ret
       exact ⟨tw_, (tb_ HB.out)⟩
      ·
       rw [if_neg c6] at H
       have bh : (al.toList == ([] : List UInt8)) = false := beq_eq_false_iff_ne.mpr c6
       have bv : (al.toList != ([] : List UInt8)) = true := bne_iff_ne.mpr c6
       by_cases c10 : al.size + 1 ≤ 9223372036854775807
       ·
        rw [if_pos c10] at H
        have bq := eq_true c10
        have cI : decide (al.size + 1 ≤ 9223372036854775807) = true := decide_eq_true c10
        try have cJ : (9223372036854775807 < al.size + 1) = False := eq_false (Nat.not_lt.2 c10)
        by_cases c11 : ah.size + (al ++ (⟨#[10]⟩ : ByteArray)).size ≤ 9223372036854775807
        ·
         rw [if_pos c11] at H
         have bI := eq_true c11
         have cK : decide (ah.size + (al ++ (⟨#[10]⟩ : ByteArray)).size ≤ 9223372036854775807) = true := decide_eq_true c11
         try have cL : (9223372036854775807 < ah.size + (al ++ (⟨#[10]⟩ : ByteArray)).size) = False := eq_false (Nat.not_lt.2 c11)
         try have cM : (9223372036854775807 < ah.size + (al.size + 1)) = False := eq_false (by have h := c11; simp only [ByteArray.size_append] at h; simp only [ByteArray.size] at h ⊢; simp at h ⊢; omega)
         have H' := Aside0.mk H
         clear H
         have p373 : 0 ≤ (ae : Int) := od_
         have q373 : ae < (l0.length : Int) := od_
         obtain ⟨ad373, e373, am, an, ao⟩ := at_T30 HR0.out ae p373 q373
         cases e373
         replace am := (HB.out.cell (World.block_lt_of_cell? w _ am)).trans am
         replace an := (HB.out.cell (World.block_lt_of_cell? w _ an)).trans an
         replace ao := (HB.out.cell (World.block_lt_of_cell? w _ ao)).trans ao
         replace p373 := eq_true p373
         replace q373 := eq_true q373
         go_wp2_with (first | ((with_reducible refine gate_dst (N := 5) rfl ?_); refine box_event ?hg (N := 5) ?hd (cs := #[.int .i64 0, .int .i64 0, .int .i64 0]) (t := 30) ?hr ?_; (case hd => rfl); (case hg => rfl); (case hr => first | (go_simp; done) | (go_simp; rfl)); intro a7 hg cH hbox hb; have ai := Aside0.mk (hbox); have bV := gx_ HB hg; have bW := gx_ HB hg; replace HB := bs_ HB hb; clear hb hbox hg; have b8 := cz_ ai 0; have b9 := cz_ ai 1; have ca := cz_ ai 2; have cb := blk_frozen ai.out 0; have cc := blk_frozen ai.out 1; have cd := blk_frozen ai.out 2) | ((with_reducible refine gate_callee (f := 46) rfl ?_); refine gl_ (some 14) Tryd.func46 #[.agg #[.int .i64 ((rd_T30 l0 ae).f0), .int .i64 ((rd_T30 l0 ae).f1), .int .i64 ((rd_T30 l0 ae).f2)]] ?_; (with_reducible refine (impl_DeedText.calls k1 ((rd_T30 l0 ae).f0) ((rd_T30 l0 ae).f1) ((rd_T30 l0 ae).f2) al _ ?s1 A5.out).mono ?_); (case s1 => exact GWb.below HG.out (tb_ HB.out)); rintro e dn ⟨rfl, hb⟩; refine ⟨_, rfl, ?_⟩; replace ai := Aside0.mk (blk_below (g := a7) (o := .cells #[.int .i64 ((rd_T30 l0 ae).f0), .int .i64 ((rd_T30 l0 ae).f1), .int .i64 ((rd_T30 l0 ae).f2)] 30 (0, 0)) (ps_ ai.out) hb); replace HB := bs_ HB hb; (try clear hb); (try clear hb2); (try clear hk); (try clear hi)))
         go_roundg k1
         case measure => have := HK1.out; omega
         case rel => exact ⟨(ah ++ (al ++ (⟨#[10]⟩ : ByteArray))), (wrap64 (ae + 1)), tx_, tx_, H', ⟨by have := HK1.out; omega⟩, ⟨(tb_ HB.out)⟩⟩
        ·
         rw [if_neg c11] at H
         exact absurd H (by simp)
       ·
        rw [if_neg c10] at H
        exact absurd H (by simp)
     ·
      rw [if_neg c4] at H
      exact absurd H (by simp)
    ·
     rw [if_neg c3] at H
     exact absurd H (by simp)
   ·
    rw [if_neg c2] at H
    have a6 : decide (ae < (l0.length : Int)) = false := decide_eq_false c2
    clear c2
    obtain rfl := Option.some.inj H
    go_wp2
    go_ret
    exact ⟨tw_, (tb_ HB.out)⟩

/-! ### spec_JournalText: function 51 -/
def spec_JournalText.l0 : Nat → List (S30) → ByteArray → Int → Option (ByteArray)
 | 0, _, _, _ => none
 | k + 1, x0, x3, x4 => if x4 < (x0.length : Int) then (if 0 ≤ x4 then ((spec_DeedText.f k ((rd_T30 x0 x4).f0) ((rd_T30 x0 x4).f1) ((rd_T30 x0 x4).f2)).bind fun aJ => (if aJ.toList = ([] : List UInt8) then (some (⟨#[]⟩ : ByteArray)) else ((spec_DeedText.f k ((rd_T30 x0 x4).f0) ((rd_T30 x0 x4).f1) ((rd_T30 x0 x4).f2)).bind fun ax => (if x3.size + ax.size ≤ 9223372036854775807 then (if (x3 ++ ax).size + 1 ≤ 9223372036854775807 then (spec_JournalText.l0 k x0 ((x3 ++ ax) ++ (⟨#[10]⟩ : ByteArray)) (wrap64 (x4 + 1))) else (none)) else (none))))) else (none)) else (some x3)
def spec_JournalText.f (k : Nat) (l0 : List (S30)) : Option (ByteArray) := spec_JournalText.l0 k l0 (⟨#[]⟩ : ByteArray) 0
theorem spec_JournalText.mono_l : ∀ k, (∀ y0 y1 y2, LeO (spec_JournalText.l0 k y0 y1 y2) (spec_JournalText.l0 (k + 1) y0 y1 y2))
 | 0 => fun _ _ _ r h => by simp [spec_JournalText.l0] at h
 | k + 1 => by
  have ih0 := spec_JournalText.mono_l k
  ·
   intro y0 y1 y2
   unfold spec_JournalText.l0
   repeat' (with_reducible first | exact ih0 _ _ _ | exact spec_DeedText.mono _ _ _ _ | exact mr_ | exact mn_ | refine mi_ ?_ ?_ | refine mb_ ?_ (fun _ => ?_))
theorem spec_JournalText.mono : ∀ a0 k, LeO (spec_JournalText.f k a0) (spec_JournalText.f (k + 1) a0) := by
 intro a0 k
 have ih0 := spec_JournalText.mono_l k
 unfold spec_JournalText.f
 repeat' (with_reducible first | exact ih0 _ _ _ | exact spec_DeedText.mono _ _ _ _ | exact mr_ | exact mn_ | refine mi_ ?_ ?_ | refine mb_ ?_ (fun _ => ?_))
set_option maxHeartbeats 8000000 in
set_option maxRecDepth 100000 in
theorem spec_JournalText.calls (k : Nat) (A0 : Option Addr) (c0 : Nat) (l0 : List (S30)) (r : ByteArray) (w : World) (hr0 : Kd.C k30 w A0 l0.length l0) (hc0 : l0.length ≤ c0) (h : spec_JournalText.f k l0 = some r) :
  Calls Tryd.prog 51 #[.slice A0 l0.length c0] w fun e w' => e = .returned (.string r) ∧ Below w.heap.size w w' := by
 have hu30 := Tryd.underlying30
 have HR0 := Aside0.mk hr0
 have HC0 := Aside0.mk hc0
 clear hr0 hc0
 have HB := Aside0.mk (Below.refl w.heap.size w)
 have H : (spec_JournalText.l0 k l0 (⟨#[]⟩ : ByteArray) 0) = some r := h
 clear h
 have H' := Aside0.mk H
 clear H
 go_enter Tryd.func51, Tryd.ntmps51
 go_wp2
 go_loopg [3, 4] k (fun kq v3 v4 w' => ∃ (ah : ByteArray) (ac : Int), v3 = .string ah ∧ v4 = .int .i64 ac ∧ Aside0 (spec_JournalText.l0 kq l0 ah ac = some r) ∧ Aside0 (kq ≤ k) ∧ Aside0 (Below w.heap.size w w'))
 case atStart => exact ⟨((⟨#[]⟩ : ByteArray)), (0), tx_, tx_, H', ⟨Nat.le_refl _⟩, ⟨(tb_ HB.out)⟩⟩
 case round =>
  clear H'
  obtain ⟨ah, ac, rfl, rfl, HA, HK1, HB⟩ := hrel
  cases gk with
  | zero => exact absurd HA.out (by simp [spec_JournalText.l0])
  | succ k1 =>
   have H := HA.out
   clear HA
   simp only [spec_JournalText.l0] at H
   by_cases c2 : ac < (l0.length : Int)
   ·
    rw [if_pos c2] at H
    have a6 : decide (ac < (l0.length : Int)) = true := decide_eq_true c2
    clear c2
    by_cases c3 : 0 ≤ ac
    ·
     rw [if_pos c3] at H
     have bg : decide (0 ≤ ac) = true := decide_eq_true c3
     clear c3
     obtain ⟨aJ, A4, H⟩ := bnd_ H
     try dsimp only at H
     by_cases c5 : aJ.toList = ([] : List UInt8)
     ·
      rw [if_pos c5] at H
      have bX : (aJ.toList == ([] : List UInt8)) = true := beq_iff_eq.mpr c5
      have cr : (aJ.toList != ([] : List UInt8)) = false := bne_eq_false_iff_eq.mpr c5
      clear c5
      obtain rfl := Option.some.inj H
      have p376 : 0 ≤ (ac : Int) := od_
      have q376 : ac < (l0.length : Int) := od_
      obtain ⟨ad376, e376, ap, aq, ar⟩ := at_T30 HR0.out ac p376 q376
      cases e376
      replace ap := (HB.out.cell (World.block_lt_of_cell? w _ ap)).trans ap
      replace aq := (HB.out.cell (World.block_lt_of_cell? w _ aq)).trans aq
      replace ar := (HB.out.cell (World.block_lt_of_cell? w _ ar)).trans ar
      replace p376 := eq_true p376
      replace q376 := eq_true q376
      go_wp2_with (first | ((with_reducible refine gate_callee (f := 47) rfl ?_); refine gl_ (some 15) Tryd.func47 #[.agg #[.int .i64 ((rd_T30 l0 ac).f0), .int .i64 ((rd_T30 l0 ac).f1), .int .i64 ((rd_T30 l0 ac).f2)]] ?_; (with_reducible refine (spec_DeedText.calls k1 ((rd_T30 l0 ac).f0) ((rd_T30 l0 ac).f1) ((rd_T30 l0 ac).f2) aJ _ A4.out).mono ?_); rintro e w6 ⟨rfl, hb⟩; refine ⟨_, rfl, ?_⟩; replace HB := bs_ HB hb; (try clear hb); (try clear hb2); (try clear hk); (try clear hi)))
      go_ret
      exact ⟨tw_, (tb_ HB.out)⟩
     ·
      rw [if_neg c5] at H
      have bX : (aJ.toList == ([] : List UInt8)) = false := beq_eq_false_iff_ne.mpr c5
      have cr : (aJ.toList != ([] : List UInt8)) = true := bne_iff_ne.mpr c5
      obtain ⟨ax, A7, H⟩ := bnd_ H
      try dsimp only at H
      by_cases c8 : ah.size + ax.size ≤ 9223372036854775807
      ·
       rw [if_pos c8] at H
       have de := eq_true c8
       have df : decide (ah.size + ax.size ≤ 9223372036854775807) = true := decide_eq_true c8
       try have dg : (9223372036854775807 < ah.size + ax.size) = False := eq_false (Nat.not_lt.2 c8)
       by_cases c9 : (ah ++ ax).size + 1 ≤ 9223372036854775807
       ·
        rw [if_pos c9] at H
        have dh := eq_true c9
        have di : decide ((ah ++ ax).size + 1 ≤ 9223372036854775807) = true := decide_eq_true c9
        try have dj : (9223372036854775807 < (ah ++ ax).size + 1) = False := eq_false (Nat.not_lt.2 c9)
        try have dk : (9223372036854775807 < ah.size + ax.size + 1) = False := eq_false (by have h := c9; simp only [ByteArray.size_append] at h; simp only [ByteArray.size] at h ⊢; simp at h ⊢; omega)
        have H' := Aside0.mk H
        clear H
        have p376 : 0 ≤ (ac : Int) := od_
        have q376 : ac < (l0.length : Int) := od_
        obtain ⟨ad376, e376, ap, aq, ar⟩ := at_T30 HR0.out ac p376 q376
        cases e376
        replace ap := (HB.out.cell (World.block_lt_of_cell? w _ ap)).trans ap
        replace aq := (HB.out.cell (World.block_lt_of_cell? w _ aq)).trans aq
        replace ar := (HB.out.cell (World.block_lt_of_cell? w _ ar)).trans ar
        replace p376 := eq_true p376
        replace q376 := eq_true q376
        go_wp2_with (first | ((with_reducible refine gate_callee (f := 47) rfl ?_); refine gl_ (some 15) Tryd.func47 #[.agg #[.int .i64 ((rd_T30 l0 ac).f0), .int .i64 ((rd_T30 l0 ac).f1), .int .i64 ((rd_T30 l0 ac).f2)]] ?_; (with_reducible refine (spec_DeedText.calls k1 ((rd_T30 l0 ac).f0) ((rd_T30 l0 ac).f1) ((rd_T30 l0 ac).f2) aJ _ A4.out).mono ?_); rintro e dc ⟨rfl, hb⟩; refine ⟨_, rfl, ?_⟩; replace HB := bs_ HB hb; (try clear hb); (try clear hb2); (try clear hk); (try clear hi); have p378 : 0 ≤ (ac : Int) := od_; have q378 : ac < (l0.length : Int) := od_; obtain ⟨ad378, e378, aK, aM, aN⟩ := at_T30 HR0.out ac p378 q378; obtain rfl : ad376 = ad378 := (by injection e378); replace aK := (HB.out.cell (World.block_lt_of_cell? w _ aK)).trans aK; replace aM := (HB.out.cell (World.block_lt_of_cell? w _ aM)).trans aM; replace aN := (HB.out.cell (World.block_lt_of_cell? w _ aN)).trans aN; replace p378 := eq_true p378; replace q378 := eq_true q378) | ((with_reducible refine gate_callee (f := 47) rfl ?_); refine gl_ (some 22) Tryd.func47 #[.agg #[.int .i64 ((rd_T30 l0 ac).f0), .int .i64 ((rd_T30 l0 ac).f1), .int .i64 ((rd_T30 l0 ac).f2)]] ?_; (with_reducible refine (spec_DeedText.calls k1 ((rd_T30 l0 ac).f0) ((rd_T30 l0 ac).f1) ((rd_T30 l0 ac).f2) ax _ A7.out).mono ?_); rintro e cG ⟨rfl, hb⟩; refine ⟨_, rfl, ?_⟩; replace HB := bs_ HB hb; (try clear hb); (try clear hb2); (try clear hk); (try clear hi)))
        go_roundg k1
        case measure => have := HK1.out; omega
        case rel => exact ⟨((ah ++ ax) ++ (⟨#[10]⟩ : ByteArray)), (wrap64 (ac + 1)), tx_, tx_, H', ⟨by have := HK1.out; omega⟩, ⟨(tb_ HB.out)⟩⟩
       ·
        rw [if_neg c9] at H
        exact absurd H (by simp)
      ·
       rw [if_neg c8] at H
       exact absurd H (by simp)
    ·
     rw [if_neg c3] at H
     exact absurd H (by simp)
   ·
    rw [if_neg c2] at H
    have a6 : decide (ac < (l0.length : Int)) = false := decide_eq_false c2
    clear c2
    obtain rfl := Option.some.inj H
    go_wp2
    go_ret
    exact ⟨tw_, (tb_ HB.out)⟩

/-! ### laws_sameDeeds: function 52 -/
def laws_sameDeeds.l0 : Nat → List (S30) → List (S30) → Int → Option (Bool)
 | 0, _, _, _ => none
 | k + 1, x0, x1, x5 => if x5 < (x0.length : Int) then (if 0 ≤ x5 then (if x5 < (x1.length : Int) then (if (!(((rd_T30 x0 x5).f0) == ((rd_T30 x1 x5).f0)) || (!(((rd_T30 x0 x5).f1) == ((rd_T30 x1 x5).f1)) || (!(((rd_T30 x0 x5).f2) == ((rd_T30 x1 x5).f2))))) = true then (some false) else (laws_sameDeeds.l0 k x0 x1 (wrap64 (x5 + 1)))) else (none)) else (none)) else (some true)
def laws_sameDeeds.f (k : Nat) (l0 : List (S30)) (l1 : List (S30)) : Option (Bool) := if (l0.length : Int) = (l1.length : Int) then (laws_sameDeeds.l0 k l0 l1 0) else (some false)
theorem laws_sameDeeds.mono_l : ∀ k, (∀ y0 y1 y2, LeO (laws_sameDeeds.l0 k y0 y1 y2) (laws_sameDeeds.l0 (k + 1) y0 y1 y2))
 | 0 => fun _ _ _ r h => by simp [laws_sameDeeds.l0] at h
 | k + 1 => by
  have ih0 := laws_sameDeeds.mono_l k
  ·
   intro y0 y1 y2
   unfold laws_sameDeeds.l0
   repeat' (with_reducible first | exact ih0 _ _ _ | exact mr_ | exact mn_ | refine mi_ ?_ ?_ | refine mb_ ?_ (fun _ => ?_))
theorem laws_sameDeeds.mono : ∀ a0 a1 k, LeO (laws_sameDeeds.f k a0 a1) (laws_sameDeeds.f (k + 1) a0 a1) := by
 intro a0 a1 k
 have ih0 := laws_sameDeeds.mono_l k
 unfold laws_sameDeeds.f
 repeat' (with_reducible first | exact ih0 _ _ _ | exact mr_ | exact mn_ | refine mi_ ?_ ?_ | refine mb_ ?_ (fun _ => ?_))
set_option maxHeartbeats 8000000 in
set_option maxRecDepth 100000 in
theorem laws_sameDeeds.calls (k : Nat) (A0 : Option Addr) (c0 : Nat) (l0 : List (S30)) (A1 : Option Addr) (c1 : Nat) (l1 : List (S30)) (r : Bool) (w : World) (hr0 : Kd.C k30 w A0 l0.length l0) (hc0 : l0.length ≤ c0) (hr1 : Kd.C k30 w A1 l1.length l1) (hc1 : l1.length ≤ c1) (h : laws_sameDeeds.f k l0 l1 = some r) :
  Calls Tryd.prog 52 #[.slice A0 l0.length c0, .slice A1 l1.length c1] w fun e w' => e = .returned (.bool r) ∧ Drawn0 w w' := by
 have hu30 := Tryd.underlying30
 have HR0 := Aside0.mk hr0
 have HC0 := Aside0.mk hc0
 clear hr0 hc0
 have HR1 := Aside0.mk hr1
 have HC1 := Aside0.mk hc1
 clear hr1 hc1
 have H : (if (l0.length : Int) = (l1.length : Int) then (laws_sameDeeds.l0 k l0 l1 0) else (some false)) = some r := h
 clear h
 by_cases c3 : (l0.length : Int) = (l1.length : Int)
 ·
  rw [if_pos c3] at H
  have bg : ((l0.length : Int) == (l1.length : Int)) = true := beq_iff_eq.mpr c3
  have bZ : ((l0.length : Int) != (l1.length : Int)) = false := bne_eq_false_iff_eq.mpr c3
  have b0 : (l0.length == l1.length) = true := by first | simpa using c3 | (simp at c3 ⊢; omega)
  clear c3
  have H' := Aside0.mk H
  clear H
  go_enter Tryd.func52, Tryd.ntmps52
  go_wp2
  repeat (go_quiet (fail); try go_wp2)
  go_loopg [5] k (fun kq v5 w' => ∃ (aa : Int), v5 = .int .i64 aa ∧ Aside0 (laws_sameDeeds.l0 kq l0 l1 aa = some r) ∧ Aside0 (kq ≤ k) ∧ Drawn0 w w')
  case atStart => exact ⟨(0), tx_, H', ⟨Nat.le_refl _⟩, by repeat (first | exact Drawn0.refl _ | apply Drawn0.step)⟩
  case round =>
   clear H'
   try clear c1
   try clear p2
   try clear c3
   try clear bg
   try clear bZ
   try clear b0
   obtain ⟨aa, rfl, HA, HK1, ⟨m1, rfl⟩⟩ := hrel
   cases gk with
   | zero => exact absurd HA.out (by simp [laws_sameDeeds.l0])
   | succ k1 =>
    have H := HA.out
    clear HA
    simp only [laws_sameDeeds.l0] at H
    by_cases c4 : aa < (l0.length : Int)
    ·
     rw [if_pos c4] at H
     have bU : decide (aa < (l0.length : Int)) = true := decide_eq_true c4
     clear c4
     by_cases c5 : 0 ≤ aa
     ·
      rw [if_pos c5] at H
      have bX : decide (0 ≤ aa) = true := decide_eq_true c5
      clear c5
      by_cases c6 : aa < (l1.length : Int)
      ·
       rw [if_pos c6] at H
       have bh : decide (aa < (l1.length : Int)) = true := decide_eq_true c6
       clear c6
       by_cases c7 : (!(((rd_T30 l0 aa).f0) == ((rd_T30 l1 aa).f0)) || (!(((rd_T30 l0 aa).f1) == ((rd_T30 l1 aa).f1)) || (!(((rd_T30 l0 aa).f2) == ((rd_T30 l1 aa).f2))))) = true
       ·
        rw [if_pos c7] at H
        have bw : (!(((rd_T30 l0 aa).f0) == ((rd_T30 l1 aa).f0)) || (!(((rd_T30 l0 aa).f1) == ((rd_T30 l1 aa).f1)) || (!(((rd_T30 l0 aa).f2) == ((rd_T30 l1 aa).f2))))) = true := c7
        clear c7
        obtain rfl := Option.some.inj H
        have p380 : 0 ≤ (aa : Int) := od_
        have q380 : aa < (l0.length : Int) := od_
        obtain ⟨ad380, e380, bi, bj, bk⟩ := at_T30 HR0.out aa p380 q380
        cases e380
        replace p380 := eq_true p380
        replace q380 := eq_true q380
        have p381 : 0 ≤ (aa : Int) := od_
        have q381 : aa < (l1.length : Int) := od_
        obtain ⟨ad381, e381, bl, bm, bn⟩ := at_T30 HR1.out aa p381 q381
        cases e381
        replace p381 := eq_true p381
        replace q381 := eq_true q381
        go_wp2
        repeat (go_quiet (fail); try go_wp2)
        go_ret
        exact ⟨tx_, by repeat (first | exact Drawn0.refl _ | apply Drawn0.step)⟩
       ·
        rw [if_neg c7] at H
        have bw : (!(((rd_T30 l0 aa).f0) == ((rd_T30 l1 aa).f0)) || (!(((rd_T30 l0 aa).f1) == ((rd_T30 l1 aa).f1)) || (!(((rd_T30 l0 aa).f2) == ((rd_T30 l1 aa).f2))))) = false := by simpa using c7
        clear c7
        have H' := Aside0.mk H
        clear H
        have p380 : 0 ≤ (aa : Int) := od_
        have q380 : aa < (l0.length : Int) := od_
        obtain ⟨ad380, e380, bi, bj, bk⟩ := at_T30 HR0.out aa p380 q380
        cases e380
        replace p380 := eq_true p380
        replace q380 := eq_true q380
        have p381 : 0 ≤ (aa : Int) := od_
        have q381 : aa < (l1.length : Int) := od_
        obtain ⟨ad381, e381, bl, bm, bn⟩ := at_T30 HR1.out aa p381 q381
        cases e381
        replace p381 := eq_true p381
        replace q381 := eq_true q381
        go_wp2
        repeat (go_quiet (fail); try go_wp2)
        go_roundg k1
        case measure => have := HK1.out; omega
        case rel => exact ⟨(wrap64 (aa + 1)), tx_, H', ⟨by have := HK1.out; omega⟩, by repeat (first | exact Drawn0.refl _ | apply Drawn0.step)⟩
      ·
       rw [if_neg c6] at H
       exact absurd H (by simp)
     ·
      rw [if_neg c5] at H
      exact absurd H (by simp)
    ·
     rw [if_neg c4] at H
     have bU : decide (aa < (l0.length : Int)) = false := decide_eq_false c4
     clear c4
     obtain rfl := Option.some.inj H
     go_wp2
     repeat (go_quiet (fail); try go_wp2)
     go_ret
     exact ⟨tx_, by repeat (first | exact Drawn0.refl _ | apply Drawn0.step)⟩
 ·
  rw [if_neg c3] at H
  have bg : ((l0.length : Int) == (l1.length : Int)) = false := beq_eq_false_iff_ne.mpr c3
  have bZ : ((l0.length : Int) != (l1.length : Int)) = true := bne_iff_ne.mpr c3
  have b0 : (l0.length == l1.length) = false := by first | simpa using c3 | (simp at c3 ⊢; omega)
  obtain rfl := Option.some.inj H
  go_enter Tryd.func52, Tryd.ntmps52
  go_wp2
  repeat (go_quiet (fail); try go_wp2)
  go_ret
  exact ⟨tx_, by repeat (first | exact Drawn0.refl _ | apply Drawn0.step)⟩

/-! ### laws_FnJournalText: function 11 -/
def laws_FnJournalText.f (k : Nat) (l0 : List Int) : Option (Bool) := if (l0.length : Int) > 1048576 then (some true) else ((spec_DrawJournalText.f k l0).bind fun af => ((impl_JournalText.f k af).bind fun ag => ((spec_JournalText.f k af).bind fun ay => (if ag.toList = ay.toList then (if ag.toList = ([] : List UInt8) then ((laws_alive.f k).bind fun a8 => (some a8)) else ((impl_ReadJournal.f k ag).bind fun aV => ((laws_sameDeeds.f k aV.1 af).bind fun a9 => (if a9 = true then (some (aV.2 == (ag.size : Int))) else (some false))))) else (some false)))))
theorem laws_FnJournalText.mono : ∀ a0 k, LeO (laws_FnJournalText.f k a0) (laws_FnJournalText.f (k + 1) a0) := by
 intro a0 k
 unfold laws_FnJournalText.f
 repeat' (with_reducible first | exact impl_JournalText.mono _ _ | exact impl_ReadJournal.mono _ _ | exact laws_alive.mono _ | exact laws_sameDeeds.mono _ _ _ | exact spec_DrawJournalText.mono _ _ | exact spec_JournalText.mono _ _ | exact mr_ | exact mn_ | refine mi_ ?_ ?_ | refine mb_ ?_ (fun _ => ?_))
set_option maxHeartbeats 8000000 in
set_option maxRecDepth 100000 in
theorem laws_FnJournalText.calls (k : Nat) (A0 : Option Addr) (c0 : Nat) (l0 : List Int) (r : Bool) (w : World) (hr0 : Kd.C (Kd.int .u8) w A0 l0.length l0) (hc0 : l0.length ≤ c0) (hG : GWb w) (h : laws_FnJournalText.f k l0 = some r) :
  Calls Tryd.prog 11 #[.slice A0 l0.length c0] w fun e w' => e = .returned (.bool r) ∧ Below w.heap.size w w' := by
 have HG := Aside0.mk hG
 clear hG
 have HR0 := Aside0.mk hr0
 have HC0 := Aside0.mk hc0
 clear hr0 hc0
 have HB := Aside0.mk (Below.refl w.heap.size w)
 have H : (if (l0.length : Int) > 1048576 then (some true) else ((spec_DrawJournalText.f k l0).bind fun af => ((impl_JournalText.f k af).bind fun ag => ((spec_JournalText.f k af).bind fun ay => (if ag.toList = ay.toList then (if ag.toList = ([] : List UInt8) then ((laws_alive.f k).bind fun a8 => (some a8)) else ((impl_ReadJournal.f k ag).bind fun aV => ((laws_sameDeeds.f k aV.1 af).bind fun a9 => (if a9 = true then (some (aV.2 == (ag.size : Int))) else (some false))))) else (some false)))))) = some r := h
 clear h
 by_cases c2 : (l0.length : Int) > 1048576
 ·
  rw [if_pos c2] at H
  have a6 : decide (1048576 < (l0.length : Int)) = true := decide_eq_true c2
  have ct : decide (1048576 < l0.length) = true := decide_eq_true (by omega)
  clear c2
  obtain rfl := Option.some.inj H
  go_enter Tryd.func11, Tryd.ntmps11
  go_wp2
  go_ret
  exact ⟨tw_, (tb_ HB.out)⟩
 ·
  rw [if_neg c2] at H
  have a6 : decide (1048576 < (l0.length : Int)) = false := decide_eq_false c2
  have ct : decide (1048576 < l0.length) = false := decide_eq_false (by omega)
  clear c2
  obtain ⟨af, A3, H⟩ := bnd_ H
  try dsimp only at H
  obtain ⟨ag, A4, H⟩ := bnd_ H
  try dsimp only at H
  obtain ⟨ay, A5, H⟩ := bnd_ H
  try dsimp only at H
  by_cases c6 : ag.toList = ay.toList
  ·
   rw [if_pos c6] at H
   have bh : (ag.toList == ay.toList) = true := beq_iff_eq.mpr c6
   have bv : (ag.toList != ay.toList) = false := bne_eq_false_iff_eq.mpr c6
   clear c6
   by_cases c7 : ag.toList = ([] : List UInt8)
   ·
    rw [if_pos c7] at H
    have bw : (ag.toList == ([] : List UInt8)) = true := beq_iff_eq.mpr c7
    have cu : (ag.toList != ([] : List UInt8)) = false := bne_eq_false_iff_eq.mpr c7
    clear c7
    obtain ⟨a8, A8, H⟩ := bnd_ H
    try dsimp only at H
    obtain rfl := Option.some.inj H
    go_enter Tryd.func11, Tryd.ntmps11
    go_wp2_with (first | ((with_reducible refine gate_callee (f := 49) rfl ?_); refine gl_ (some 11) Tryd.func49 #[.slice A0 l0.length c0] ?_; (with_reducible refine (spec_DrawJournalText.calls k _ _ l0 af _ ?s1 ?s2 A3.out).mono ?_); (case s1 => exact td_); (case s2 => exact HC0.out); rintro e w9 ⟨bx, rfl, ho0, hb⟩; refine ⟨_, rfl, ?_⟩; have ab := rx_ ho0 HB; replace HB := bs_ HB hb; (try clear hb); (try clear hb2); (try clear hk); (try clear hi); (try clear ho0); obtain ⟨b1, b2, cv⟩ := Kd.R_slice ab.out; subst cv) | ((with_reducible refine gate_callee (f := 50) rfl ?_); refine gl_ (some 13) Tryd.func50 #[.slice b1 af.length b2] ?_; (with_reducible refine (impl_JournalText.calls k _ _ af ag _ ?s1 ?s2 ?s3 A4.out).mono ?_); (case s1 => repeat (first | exact (Kd.R_reads' ab.out).2.2 | (with_reducible refine Kd.C_alloc ?_ _) | (with_reducible refine Kd.C_drewN ?_ _) | (with_reducible refine Kd.C_drew ?_))); (case s2 => exact (Kd.R_reads' ab.out).2.1); (case s3 => exact GWb.below HG.out (tb_ HB.out)); rintro e cG ⟨rfl, hb⟩; refine ⟨_, rfl, ?_⟩; replace ab := rb_ ab hb; replace HB := bs_ HB hb; (try clear hb); (try clear hb2); (try clear hk); (try clear hi)) | ((with_reducible refine gate_callee (f := 51) rfl ?_); refine gl_ (some 16) Tryd.func51 #[.slice b1 af.length b2] ?_; (with_reducible refine (spec_JournalText.calls k _ _ af ay _ ?s1 ?s2 A5.out).mono ?_); (case s1 => repeat (first | exact (Kd.R_reads' ab.out).2.2 | (with_reducible refine Kd.C_alloc ?_ _) | (with_reducible refine Kd.C_drewN ?_ _) | (with_reducible refine Kd.C_drew ?_))); (case s2 => exact (Kd.R_reads' ab.out).2.1); rintro e cH ⟨rfl, hb⟩; refine ⟨_, rfl, ?_⟩; replace ab := rb_ ab hb; replace HB := bs_ HB hb; (try clear hb); (try clear hb2); (try clear hk); (try clear hi)) | ((with_reducible refine gate_callee (f := 20) rfl ?_); refine gl_ (some 20) Tryd.func20 #[] ?_; (with_reducible refine (laws_alive.calls k  a8 _ A8.out).mono ?_); rintro e dd ⟨rfl, hb⟩; refine ⟨_, rfl, ?_⟩; replace ab := rb_ ab hb; replace HB := bs_ HB hb; (try clear hb); (try clear hb2); (try clear hk); (try clear hi)))
    go_ret
    exact ⟨tw_, (tb_ HB.out)⟩
   ·
    rw [if_neg c7] at H
    have bw : (ag.toList == ([] : List UInt8)) = false := beq_eq_false_iff_ne.mpr c7
    have cu : (ag.toList != ([] : List UInt8)) = true := bne_iff_ne.mpr c7
    obtain ⟨⟨aX, bz⟩, A14, H⟩ := bnd_ H
    try dsimp only at H
    obtain ⟨a9, A15, H⟩ := bnd_ H
    try dsimp only at H
    by_cases c16 : a9 = true
    ·
     subst c16
     have H1 : (some (bz == (ag.size : Int))) = some r := by rw [if_pos rfl] at H; exact H
     clear H
     have H := H1
     clear H1
     obtain rfl := Option.some.inj H
     go_enter Tryd.func11, Tryd.ntmps11
     go_wp2_with (first | ((with_reducible refine gate_callee (f := 49) rfl ?_); refine gl_ (some 11) Tryd.func49 #[.slice A0 l0.length c0] ?_; (with_reducible refine (spec_DrawJournalText.calls k _ _ l0 af _ ?s1 ?s2 A3.out).mono ?_); (case s1 => exact td_); (case s2 => exact HC0.out); rintro e dp ⟨bx, rfl, ho0, hb⟩; refine ⟨_, rfl, ?_⟩; have ab := rx_ ho0 HB; replace HB := bs_ HB hb; (try clear hb); (try clear hb2); (try clear hk); (try clear hi); (try clear ho0); obtain ⟨bB, bC, cw⟩ := Kd.R_slice ab.out; subst cw) | ((with_reducible refine gate_callee (f := 50) rfl ?_); refine gl_ (some 13) Tryd.func50 #[.slice bB af.length bC] ?_; (with_reducible refine (impl_JournalText.calls k _ _ af ag _ ?s1 ?s2 ?s3 A4.out).mono ?_); (case s1 => repeat (first | exact (Kd.R_reads' ab.out).2.2 | (with_reducible refine Kd.C_alloc ?_ _) | (with_reducible refine Kd.C_drewN ?_ _) | (with_reducible refine Kd.C_drew ?_))); (case s2 => exact (Kd.R_reads' ab.out).2.1); (case s3 => exact GWb.below HG.out (tb_ HB.out)); rintro e cY ⟨rfl, hb⟩; refine ⟨_, rfl, ?_⟩; replace ab := rb_ ab hb; replace HB := bs_ HB hb; (try clear hb); (try clear hb2); (try clear hk); (try clear hi)) | ((with_reducible refine gate_callee (f := 51) rfl ?_); refine gl_ (some 16) Tryd.func51 #[.slice bB af.length bC] ?_; (with_reducible refine (spec_JournalText.calls k _ _ af ay _ ?s1 ?s2 A5.out).mono ?_); (case s1 => repeat (first | exact (Kd.R_reads' ab.out).2.2 | (with_reducible refine Kd.C_alloc ?_ _) | (with_reducible refine Kd.C_drewN ?_ _) | (with_reducible refine Kd.C_drew ?_))); (case s2 => exact (Kd.R_reads' ab.out).2.1); rintro e dq ⟨rfl, hb⟩; refine ⟨_, rfl, ?_⟩; replace ab := rb_ ab hb; replace HB := bs_ HB hb; (try clear hb); (try clear hb2); (try clear hk); (try clear hi)) | ((with_reducible refine gate_callee (f := 43) rfl ?_); refine gl_ (some 23) Tryd.func43 #[.string ag] ?_; (with_reducible refine (impl_ReadJournal.calls k ag aX bz _ ?s1 A14.out).mono ?_); (case s1 => exact GWb.below HG.out (tb_ HB.out)); rintro e dr ⟨cx, rfl, ho0, hb⟩; refine ⟨_, rfl, ?_⟩; have aC := Aside0.mk (Kd.R_lower (Kd.R_new' ho0 (Kd.R_lt (rR_ ab.out))) (below_size (tb_ HB.out))); replace ab := Aside0.mk (Kd.R_elder' (rR_ ab.out) (Kd.R_base ho0) hb); replace HB := bs_ HB hb; (try clear hb); (try clear hb2); (try clear hk); (try clear hi); (try clear ho0); obtain ⟨cy, cz, cA⟩ := Kd.R_slice aC.out; subst cA) | ((with_reducible refine gate_callee (f := 52) rfl ?_); refine gl_ (some 28) Tryd.func52 #[.slice cy aX.length cz, .slice bB af.length bC] ?_; (with_reducible refine (laws_sameDeeds.calls k _ _ aX _ _ af true _ ?s1 ?s2 ?s3 ?s4 A15.out).mono ?_); (case s1 => repeat (first | exact (Kd.R_reads' aC.out).2.2 | (with_reducible refine Kd.C_alloc ?_ _) | (with_reducible refine Kd.C_drewN ?_ _) | (with_reducible refine Kd.C_drew ?_))); (case s2 => exact (Kd.R_reads' aC.out).2.1); (case s3 => repeat (first | exact (Kd.R_reads' ab.out).2.2 | (with_reducible refine Kd.C_alloc ?_ _) | (with_reducible refine Kd.C_drewN ?_ _) | (with_reducible refine Kd.C_drew ?_))); (case s4 => exact (Kd.R_reads' ab.out).2.1); rintro e w' ⟨rfl, ⟨nd, rfl⟩⟩; refine ⟨_, rfl, ?_⟩))
     go_ret
     exact ⟨tw_, (tb_ HB.out)⟩
    ·
     replace c16 := Bool.eq_false_iff.mpr c16
     subst c16
     have H1 : (some false) = some r := by rw [if_neg (show ¬ (false = true) by decide)] at H; exact H
     clear H
     have H := H1
     clear H1
     obtain rfl := Option.some.inj H
     go_enter Tryd.func11, Tryd.ntmps11
     go_wp2_with (first | ((with_reducible refine gate_callee (f := 49) rfl ?_); refine gl_ (some 11) Tryd.func49 #[.slice A0 l0.length c0] ?_; (with_reducible refine (spec_DrawJournalText.calls k _ _ l0 af _ ?s1 ?s2 A3.out).mono ?_); (case s1 => exact td_); (case s2 => exact HC0.out); rintro e ds ⟨bx, rfl, ho0, hb⟩; refine ⟨_, rfl, ?_⟩; have ab := rx_ ho0 HB; replace HB := bs_ HB hb; (try clear hb); (try clear hb2); (try clear hk); (try clear hi); (try clear ho0); obtain ⟨bD, bE, cB⟩ := Kd.R_slice ab.out; subst cB) | ((with_reducible refine gate_callee (f := 50) rfl ?_); refine gl_ (some 13) Tryd.func50 #[.slice bD af.length bE] ?_; (with_reducible refine (impl_JournalText.calls k _ _ af ag _ ?s1 ?s2 ?s3 A4.out).mono ?_); (case s1 => repeat (first | exact (Kd.R_reads' ab.out).2.2 | (with_reducible refine Kd.C_alloc ?_ _) | (with_reducible refine Kd.C_drewN ?_ _) | (with_reducible refine Kd.C_drew ?_))); (case s2 => exact (Kd.R_reads' ab.out).2.1); (case s3 => exact GWb.below HG.out (tb_ HB.out)); rintro e dt ⟨rfl, hb⟩; refine ⟨_, rfl, ?_⟩; replace ab := rb_ ab hb; replace HB := bs_ HB hb; (try clear hb); (try clear hb2); (try clear hk); (try clear hi)) | ((with_reducible refine gate_callee (f := 51) rfl ?_); refine gl_ (some 16) Tryd.func51 #[.slice bD af.length bE] ?_; (with_reducible refine (spec_JournalText.calls k _ _ af ay _ ?s1 ?s2 A5.out).mono ?_); (case s1 => repeat (first | exact (Kd.R_reads' ab.out).2.2 | (with_reducible refine Kd.C_alloc ?_ _) | (with_reducible refine Kd.C_drewN ?_ _) | (with_reducible refine Kd.C_drew ?_))); (case s2 => exact (Kd.R_reads' ab.out).2.1); rintro e du ⟨rfl, hb⟩; refine ⟨_, rfl, ?_⟩; replace ab := rb_ ab hb; replace HB := bs_ HB hb; (try clear hb); (try clear hb2); (try clear hk); (try clear hi)) | ((with_reducible refine gate_callee (f := 43) rfl ?_); refine gl_ (some 23) Tryd.func43 #[.string ag] ?_; (with_reducible refine (impl_ReadJournal.calls k ag aX bz _ ?s1 A14.out).mono ?_); (case s1 => exact GWb.below HG.out (tb_ HB.out)); rintro e dv ⟨cx, rfl, ho0, hb⟩; refine ⟨_, rfl, ?_⟩; have aC := Aside0.mk (Kd.R_lower (Kd.R_new' ho0 (Kd.R_lt (rR_ ab.out))) (below_size (tb_ HB.out))); replace ab := Aside0.mk (Kd.R_elder' (rR_ ab.out) (Kd.R_base ho0) hb); replace HB := bs_ HB hb; (try clear hb); (try clear hb2); (try clear hk); (try clear hi); (try clear ho0); obtain ⟨cC, cD, cE⟩ := Kd.R_slice aC.out; subst cE) | ((with_reducible refine gate_callee (f := 52) rfl ?_); refine gl_ (some 28) Tryd.func52 #[.slice cC aX.length cD, .slice bD af.length bE] ?_; (with_reducible refine (laws_sameDeeds.calls k _ _ aX _ _ af false _ ?s1 ?s2 ?s3 ?s4 A15.out).mono ?_); (case s1 => repeat (first | exact (Kd.R_reads' aC.out).2.2 | (with_reducible refine Kd.C_alloc ?_ _) | (with_reducible refine Kd.C_drewN ?_ _) | (with_reducible refine Kd.C_drew ?_))); (case s2 => exact (Kd.R_reads' aC.out).2.1); (case s3 => repeat (first | exact (Kd.R_reads' ab.out).2.2 | (with_reducible refine Kd.C_alloc ?_ _) | (with_reducible refine Kd.C_drewN ?_ _) | (with_reducible refine Kd.C_drew ?_))); (case s4 => exact (Kd.R_reads' ab.out).2.1); rintro e w' ⟨rfl, ⟨nd, rfl⟩⟩; refine ⟨_, rfl, ?_⟩))
     go_ret
     exact ⟨tw_, (tb_ HB.out)⟩
  ·
   rw [if_neg c6] at H
   have bh : (ag.toList == ay.toList) = false := beq_eq_false_iff_ne.mpr c6
   have bv : (ag.toList != ay.toList) = true := bne_iff_ne.mpr c6
   obtain rfl := Option.some.inj H
   go_enter Tryd.func11, Tryd.ntmps11
   go_wp2_with (first | ((with_reducible refine gate_callee (f := 49) rfl ?_); refine gl_ (some 11) Tryd.func49 #[.slice A0 l0.length c0] ?_; (with_reducible refine (spec_DrawJournalText.calls k _ _ l0 af _ ?s1 ?s2 A3.out).mono ?_); (case s1 => exact td_); (case s2 => exact HC0.out); rintro e dw ⟨bx, rfl, ho0, hb⟩; refine ⟨_, rfl, ?_⟩; have ab := rx_ ho0 HB; replace HB := bs_ HB hb; (try clear hb); (try clear hb2); (try clear hk); (try clear hi); (try clear ho0); obtain ⟨b3, b4, cF⟩ := Kd.R_slice ab.out; subst cF) | ((with_reducible refine gate_callee (f := 50) rfl ?_); refine gl_ (some 13) Tryd.func50 #[.slice b3 af.length b4] ?_; (with_reducible refine (impl_JournalText.calls k _ _ af ag _ ?s1 ?s2 ?s3 A4.out).mono ?_); (case s1 => repeat (first | exact (Kd.R_reads' ab.out).2.2 | (with_reducible refine Kd.C_alloc ?_ _) | (with_reducible refine Kd.C_drewN ?_ _) | (with_reducible refine Kd.C_drew ?_))); (case s2 => exact (Kd.R_reads' ab.out).2.1); (case s3 => exact GWb.below HG.out (tb_ HB.out)); rintro e dx ⟨rfl, hb⟩; refine ⟨_, rfl, ?_⟩; replace ab := rb_ ab hb; replace HB := bs_ HB hb; (try clear hb); (try clear hb2); (try clear hk); (try clear hi)) | ((with_reducible refine gate_callee (f := 51) rfl ?_); refine gl_ (some 16) Tryd.func51 #[.slice b3 af.length b4] ?_; (with_reducible refine (spec_JournalText.calls k _ _ af ay _ ?s1 ?s2 A5.out).mono ?_); (case s1 => repeat (first | exact (Kd.R_reads' ab.out).2.2 | (with_reducible refine Kd.C_alloc ?_ _) | (with_reducible refine Kd.C_drewN ?_ _) | (with_reducible refine Kd.C_drew ?_))); (case s2 => exact (Kd.R_reads' ab.out).2.1); rintro e dy ⟨rfl, hb⟩; refine ⟨_, rfl, ?_⟩; replace ab := rb_ ab hb; replace HB := bs_ HB hb; (try clear hb); (try clear hb2); (try clear hk); (try clear hi)))
   go_ret
   exact ⟨tw_, (tb_ HB.out)⟩

/-- THE ONE PURE STATEMENT of laws_FnJournalText: yours. -/
def laws_FnJournalText.Pure : Prop := ∀ (l0 : List Int), l0.length ≤ maxLen → l0.length * 1 ≤ 140737488351232 → (∀ x ∈ l0, (Lit.int .u8 x).wf = true) → ∃ k, laws_FnJournalText.f k l0 = some true
theorem laws_FnJournalText.walk (P : laws_FnJournalText.Pure) (a0 : Option Addr) (len0 cap0 : Nat) (z0 : List Int) (w : World) (hG : GWb w) (w0 : (a0 = none ∧ len0 = 0 ∧ cap0 = 0 ∧ z0 = []) ∨ ∃ x, a0 = some x ∧ len0 ≤ cap0 ∧ cap0 ≤ maxLen ∧ z0.length = cap0 ∧ (∀ i, i < z0.length → w.cell? (x.add i) = some (.int .u8 (z0.getD i 0))) ∧ ∀ n ∈ z0, (Lit.int .u8 n).wf = true) (y0 : len0 * 1 ≤ 140737488351232) :
  Calls Tryd.prog 11 #[.slice a0 len0 cap0] w fun e w' => e = .returned (.bool true) ∧ Below w.heap.size w w' := by
 obtain ⟨l0, rfl, hr0, hm0, hw0, hc0⟩ := ReadsInt.ofRowC w0
 obtain ⟨k, h⟩ := P l0 hm0 y0 hw0
 refine (laws_FnJournalText.calls k _ _ l0 true w (Kd.C_of_reads (d := (0 : Int)) (h1 := fun _ => rfl) hr0) hc0 hG h).mono ?_
 rintro e w' ⟨rfl, hd⟩
 exact ⟨rfl, hd⟩

end Go.Proofs.YtlhiienanbpdlaaDoor.MFnJournalText
