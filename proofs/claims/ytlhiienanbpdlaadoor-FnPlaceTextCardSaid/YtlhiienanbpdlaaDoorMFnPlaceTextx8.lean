/- For the law FnPlaceText: walks of the functions that it reaches: each call returns what the plain function beside it tells. The conditions stand in each statement. -/
import Derived.Test.YtlhiienanbpdlaaDoorV
import Derived.Test.YtlhiienanbpdlaaDoorMFnPlaceTextx0
import Derived.Test.YtlhiienanbpdlaaDoorMFnPlaceTextx5
import Derived.Test.YtlhiienanbpdlaaDoorMFnPlaceTextx7
namespace Go.Proofs.YtlhiienanbpdlaaDoor.MFnPlaceText
open Go.RowKit Go.Proofs.YtlhiienanbpdlaaDoorW.PrintWords Go.Proofs.YtlhiienanbpdlaaDoorW.PrintLast Go.Proofs.YtlhiienanbpdlaaDoorW.PrintMore
attribute [local go_sem] max2_int min2_int max_two min_two max_three min_three max_four min_four   -- for this text's walks alone
set_option linter.unusedVariables false
set_option linter.unusedSimpArgs false

/-! ### spec_l20Urn: function 127 -/
def spec_l20Urn.l0 : Nat → Int → List Int → Int → List Int → Int → Option (List Int × Int)
 | 0, _, _, _, _, _ => none
 | k + 1, x1, x5, x6, an, aC => if x6 > 0 then ((spec_l20Rd_pick.f k an aC 6).bind fun aD => (if x5.length < 17592186044416 then (spec_l20Urn.l0 k x1 (x5 ++ [aD.1]) (wrap64 (x6 - 1)) an aD.2) else (none))) else ((spec_l20Rd_odd.f k an aC x1).bind fun aq => (if aq.1 = true then ((spec_l20Rd_pick.f k an aq.2 3).bind fun af => (if af.1 = 0 then (some ((([] : List Int)), af.2)) else (if af.1 = 1 then ((some (([(-1), 41] : List Int) : List Int)).bind fun ag => ((spec_l20Rd_pick.f k an af.2 2).bind fun ad => (if 0 ≤ ad.1 then (if ad.1 < (ag.length : Int) then (if 0 < (x5.length : Int) then (some ((x5.set (0 : Int).toNat (rd ag ad.1)), ad.2)) else (none)) else (none)) else (none)))) else (some ((([1, 1, 1, 1] : List Int)), af.2))))) else (some (x5, aq.2))))
def spec_l20Urn.f (k : Nat) (ab : List Int) (ao : Int) (a1 : Int) : Option (List Int × Int) := (spec_l20Rd_pick.f k ab ao 3).bind fun ai => (spec_l20Urn.l0 k a1 (([] : List Int)) (wrap64 (1 + ai.1)) ab ai.2)
theorem spec_l20Urn.mono_l : ∀ k, (∀ y0 y1 y2 y3 y4, LeO (spec_l20Urn.l0 k y0 y1 y2 y3 y4) (spec_l20Urn.l0 (k + 1) y0 y1 y2 y3 y4))
 | 0 => fun _ _ _ _ _ r h => by simp [spec_l20Urn.l0] at h
 | k + 1 => by
  have ih0 := spec_l20Urn.mono_l k
  ·
   intro y0 y1 y2 y3 y4
   unfold spec_l20Urn.l0
   repeat' (with_reducible first | exact ih0 _ _ _ _ _ | exact spec_l20Rd_odd.mono _ _ _ _ | exact spec_l20Rd_pick.mono _ _ _ _ | exact mr_ | exact mn_ | refine mi_ ?_ ?_ | refine mb_ ?_ (fun _ => ?_))
theorem spec_l20Urn.mono : ∀ a0 a1 a2 k, LeO (spec_l20Urn.f k a0 a1 a2) (spec_l20Urn.f (k + 1) a0 a1 a2) := by
 intro a0 a1 a2 k
 have ih0 := spec_l20Urn.mono_l k
 unfold spec_l20Urn.f
 repeat' (with_reducible first | exact ih0 _ _ _ _ _ | exact spec_l20Rd_odd.mono _ _ _ _ | exact spec_l20Rd_pick.mono _ _ _ _ | exact mr_ | exact mn_ | refine mi_ ?_ ?_ | refine mb_ ?_ (fun _ => ?_))
set_option maxHeartbeats 8000000 in
set_option maxRecDepth 100000 in
theorem spec_l20Urn.calls (k : Nat) (g : Nat) (ab : List Int) (ao : Int) (a1 : Int) (r1 : List Int) (r2 : Int) (w0 w : World) (hI : IsS126 w0 w g ab ao) (hB : Below w0.heap.size w0 w) (h : spec_l20Urn.f k ab ao a1 = some (r1, r2)) :
  Calls Tryd.prog 127 #[.pointer (some ⟨g, 0, none⟩), .int .i64 a1] w fun e w' => ∃ v0_ : Value, e = .returned (v0_) ∧ Kd.R (Kd.int .i64) 3 w' w.heap.size (fun _ => True) v0_ r1 ∧ IsS126 w0 w' g ab r2 ∧ Below w0.heap.size w0 w' ∧ KeepBut w w' g none := by
 have HI0 := Aside0.mk hI
 have HK := Aside0.mk (KeepBut.refl w g none)
 have HL := Aside0.mk hB.size
 have HLg := Aside0.mk hI.lt
 clear hI
 have HW0 := Aside0.mk hB.size
 have HB := Aside0.mk hB
 clear hB
 have H : ((spec_l20Rd_pick.f k ab ao 3).bind fun ai => (spec_l20Urn.l0 k a1 (([] : List Int)) (wrap64 (1 + ai.1)) ab ai.2)) = some (r1, r2) := h
 clear h
 obtain ⟨aM, ar⟩ : ∃ y_ : List Int, y_ = (([] : List Int)) := ⟨_, rfl⟩
 replace H : ((spec_l20Rd_pick.f k ab ao 3).bind fun ai => (spec_l20Urn.l0 k a1 aM (wrap64 (1 + ai.1)) ab ai.2)) = some (r1, r2) := yq_ ar H
 have aE := Aside0.mk ar
 clear ar
 obtain ⟨⟨aN, aQ⟩, A3, H⟩ := bnd_ H
 try dsimp only at H
 have H' := Aside0.mk H
 clear H
 go_enter Tryd.func127, Tryd.ntmps127
 go_wp2_with (first | ((with_reducible refine gate_dst (N := 7) rfl ?_); refine Kd.R_lit (Kd.int .i64) _ 3 ?hg (N := 7) ?hd (xs := ([] : List Int)) (inner := []) (ok := fun _ => True) (okp := fun _ => True) ?hr ?hp (fun _ hk => hk) trivial (Below.refl _ _) (Nat.le_refl _) (by simp) ?_; (case hd => rfl); (case hg => rfl); (case hr => first | (go_simp; done) | (go_simp; rfl)); (case hp => exact (Reps.none _ _)); intro bp w4 ho5 hb hg_ hnew_; clear hg_ hnew_; (first | rw [← aE.out] at ho5 | (simp only [Int.reduceToNat] at ho5; rw [← aE.out] at ho5)); have au := rl_ ho5 HK; replace HI0 := ti126_b HI0 hb; replace HK := ko_ HK hb; replace HB := tu126_s HB hb; clear hb ho5) | ((with_reducible refine gate_callee (f := 101) rfl ?_); refine gl_ (some 9) Tryd.func101 #[.pointer (some ⟨g, 0, none⟩), .int .i64 3] ?_; (with_reducible refine (spec_l20Rd_pick.calls k g ab ao 3 aN aQ w0 _ ?s1 ?s2 A3.out).mono ?_); (case s1 => exact ti126_ HI0.out); (case s2 => exact tu126_ HB.out); rintro e w6 ⟨rfl, hi, hb, hk⟩; refine ⟨_, rfl, ?_⟩; replace au := Aside0.mk (Kd.R_mono (Kd.R_keep (IsS126.apart (ti126_ HI0.out : IsS126 w0 _ g ab ao) (rR_ au.out) (by decide)) hk (fun _ h => h.2)) (fun _ h => h.1)); replace HK := kt_ HK hk; replace HB := Aside0.mk (hb); replace HI0 := Aside0.mk (hi); (try clear hb); (try clear hb2); (try clear hk); (try clear hi)))
 go_loopg [5, 6] k (fun kq v5 v6 w' => ∃ (ae : List Int) (ap : Int) (ac : Int), v6 = .int .i64 ap ∧ Aside0 (spec_l20Urn.l0 kq a1 ae ap ab ac = some (r1, r2)) ∧ Aside0 (kq ≤ k) ∧ Aside0 (Kd.R (Kd.int .i64) 3 w' w.heap.size (fun _ => True) v5 ae) ∧ Aside0 (IsS126 w0 w' g ab ac) ∧ Aside0 (KeepBut w w' g none) ∧ Aside0 (Below w0.heap.size w0 w'))
 case atStart => exact ⟨(aM), (wrap64 (1 + aN)), (aQ), tx_, H', ⟨Nat.le_refl _⟩, ⟨rR_ au.out⟩, ⟨ti126_ HI0.out⟩, ⟨(tc_ HK.out)⟩, ⟨tu126_ HB.out⟩⟩
 case round =>
  clear H'
  try clear c1
  try clear p2
  try clear p6
  obtain ⟨ae, ap, ac, rfl, HA, HK1, aa, HI0, HK, HB⟩ := hrel
  cases gk with
  | zero => exact absurd HA.out (by simp [spec_l20Urn.l0])
  | succ k1 =>
   have H := HA.out
   clear HA
   simp only [spec_l20Urn.l0] at H
   by_cases c7 : ap > 0
   ·
    rw [if_pos c7] at H
    have bd : decide (0 < ap) = true := decide_eq_true c7
    clear c7
    obtain ⟨⟨aB, aJ⟩, A8, H⟩ := bnd_ H
    try dsimp only at H
    by_cases c9 : ae.length < 17592186044416
    ·
     rw [if_pos c9] at H
     have be := Aside0.mk c9
     clear c9
     obtain ⟨aR, av⟩ : ∃ y_ : List Int, y_ = (ae ++ [aB]) := ⟨_, rfl⟩
     replace H : (spec_l20Urn.l0 k1 a1 aR (wrap64 (ap - 1)) ab aJ) = some (r1, r2) := yq_ av H
     have aU := Aside0.mk av
     clear av
     have H' := Aside0.mk H
     clear H
     go_wp2_with (first | ((with_reducible refine gate_callee (f := 101) rfl ?_); refine gl_ (some 17) Tryd.func101 #[.pointer (some ⟨g, 0, none⟩), .int .i64 6] ?_; (with_reducible refine (spec_l20Rd_pick.calls k1 g ab ac 6 aB aJ w0 _ ?s1 ?s2 A8.out).mono ?_); (case s1 => exact ti126_ HI0.out); (case s2 => exact tu126_ HB.out); rintro e bx ⟨rfl, hi, hb, hk⟩; refine ⟨_, rfl, ?_⟩; replace aa := Aside0.mk (Kd.R_mono (Kd.R_keep (IsS126.apart (ti126_ HI0.out : IsS126 w0 _ g ab ac) (rR_ aa.out) (by decide)) hk (fun _ h => h.2)) (fun _ h => h.1)); replace HK := kt_ HK hk; replace HB := Aside0.mk (hb); replace HI0 := Aside0.mk (hi); (try clear hb); (try clear hb2); (try clear hk); (try clear hi)) | ((with_reducible refine gate_builtin (b := .append) (xs := #[.tmp 15, .tmp 18]) rfl ?_); at_builtin; refine Kd.R_append (Kd.int .i64) w.heap.size rfl (.tmp 15) (.tmp 18) 23 3 (.int .i64 0) 8 rfl Tryd.underlying23 info3 rfl (by decide) (by omega) u5 ae aB [.int .i64 aB] (fun _ => True) (fun _ => False) rfl rfl ?aP (fun _ hk => hk.elim) ?aF ?aO (Below.refl _ _) ?aS ?aL ?_; (case aP => exact rfl); (case aF => exact (fun _ _ => trivial)); (case aO => exact (rR_ aa.out)); (case aS => exact (keep_size (w := w) (g := g) (row := none) (tc_ HK.out))); (case aL => have := be.out; omega); intro bq bz ho hb hg hat; rw [← aU.out] at ho; replace HI0 := Aside0.mk (IsS126.grown (ti126_ HI0.out) hg (IsS126.own_ne HI0.out aa.out (by decide))); replace HB := Aside0.mk (below_weaken (tu126_ HB.out) HL.out hb); replace HK := Aside0.mk (KeepBut.trans (tc_ HK.out) (KeepBut.of_grown hg g) (Kd.R_base2 aa.out)); have aV := Aside0.mk (ho); clear aa ho hb hg hat))
     go_roundg k1
     case measure => have := HK1.out; omega
     case rel => exact ⟨(aR), (wrap64 (ap - 1)), (aJ), tx_, H', ⟨by have := HK1.out; omega⟩, ⟨rR_ aV.out⟩, ⟨ti126_ HI0.out⟩, ⟨(tc_ HK.out)⟩, ⟨tu126_ HB.out⟩⟩
    ·
     rw [if_neg c9] at H
     exact absurd H (by simp)
   ·
    rw [if_neg c7] at H
    have bd : decide (0 < ap) = false := decide_eq_false c7
    clear c7
    obtain ⟨⟨bf, aj⟩, A12, H⟩ := bnd_ H
    try dsimp only at H
    by_cases c13 : bf = true
    ·
     subst c13
     have H1 : ((spec_l20Rd_pick.f k1 ab aj 3).bind fun af => (if af.1 = 0 then (some ((([] : List Int)), af.2)) else (if af.1 = 1 then ((some (([(-1), 41] : List Int) : List Int)).bind fun ag => ((spec_l20Rd_pick.f k1 ab af.2 2).bind fun ad => (if 0 ≤ ad.1 then (if ad.1 < (ag.length : Int) then (if 0 < (ae.length : Int) then (some ((ae.set (0 : Int).toNat (rd ag ad.1)), ad.2)) else (none)) else (none)) else (none)))) else (some ((([1, 1, 1, 1] : List Int)), af.2))))) = some (r1, r2) := by rw [if_pos rfl] at H; exact H
     clear H
     have H := H1
     clear H1
     obtain ⟨⟨ah, am⟩, A14, H⟩ := bnd_ H
     try dsimp only at H
     by_cases c15 : ah = 0
     ·
      rw [if_pos c15] at H
      have aW : (ah == 0) = true := beq_iff_eq.mpr c15
      have aX : (ah != 0) = false := bne_eq_false_iff_eq.mpr c15
      clear c15
      obtain ⟨bg, aw⟩ : ∃ y_ : List Int, y_ = (([] : List Int)) := ⟨_, rfl⟩
      replace H : (some (bg, am)) = some (r1, r2) := yq_ aw H
      have aG := Aside0.mk aw
      clear aw
      simp only [Option.some.injEq, Prod.mk.injEq] at H
      obtain ⟨rfl, rfl⟩ := H
      go_wp2_with (first | ((with_reducible refine gate_callee (f := 80) rfl ?_); refine gl_ (some 22) Tryd.func80 #[.pointer (some ⟨g, 0, none⟩), .int .i64 a1] ?_; (with_reducible refine (spec_l20Rd_odd.calls k1 g ab ac a1 true aj w0 _ ?s1 ?s2 A12.out).mono ?_); (case s1 => exact ti126_ HI0.out); (case s2 => exact tu126_ HB.out); rintro e bB ⟨rfl, hi, hb, hk⟩; refine ⟨_, rfl, ?_⟩; replace aa := Aside0.mk (Kd.R_mono (Kd.R_keep (IsS126.apart (ti126_ HI0.out : IsS126 w0 _ g ab ac) (rR_ aa.out) (by decide)) hk (fun _ h => h.2)) (fun _ h => h.1)); replace HK := kt_ HK hk; replace HB := Aside0.mk (hb); replace HI0 := Aside0.mk (hi); (try clear hb); (try clear hb2); (try clear hk); (try clear hi)) | ((with_reducible refine gate_callee (f := 101) rfl ?_); refine gl_ (some 24) Tryd.func101 #[.pointer (some ⟨g, 0, none⟩), .int .i64 3] ?_; (with_reducible refine (spec_l20Rd_pick.calls k1 g ab aj 3 ah am w0 _ ?s1 ?s2 A14.out).mono ?_); (case s1 => exact ti126_ HI0.out); (case s2 => exact tu126_ HB.out); rintro e bC ⟨rfl, hi, hb, hk⟩; refine ⟨_, rfl, ?_⟩; replace aa := Aside0.mk (Kd.R_mono (Kd.R_keep (IsS126.apart (ti126_ HI0.out : IsS126 w0 _ g ab aj) (rR_ aa.out) (by decide)) hk (fun _ h => h.2)) (fun _ h => h.1)); replace HK := kt_ HK hk; replace HB := Aside0.mk (hb); replace HI0 := Aside0.mk (hi); (try clear hb); (try clear hb2); (try clear hk); (try clear hi)) | ((with_reducible refine gate_dst (N := 28) rfl ?_); refine Kd.R_lit (Kd.int .i64) _ 3 ?hg (N := 28) ?hd (xs := ([] : List Int)) (inner := []) (ok := fun _ => True) (okp := fun _ => True) ?hr ?hp (fun _ hk => hk) trivial (Below.refl _ _) (Nat.le_refl _) (by simp) ?_; (case hd => rfl); (case hg => rfl); (case hr => first | (go_simp; done) | (go_simp; rfl)); (case hp => exact (Reps.none _ _)); intro br bD ho19 hb hg_ hnew_; clear hg_ hnew_; (first | rw [← aG.out] at ho19 | (simp only [Int.reduceToNat] at ho19; rw [← aG.out] at ho19)); have aY := Aside0.mk (Kd.R_lower (Kd.R_new' ho19 (Kd.R_lt (rR_ aa.out))) (keep_size (w := w) (g := g) (row := none) (tc_ HK.out))); replace aa := Aside0.mk (Kd.R_elder' (rR_ aa.out) (Kd.R_base ho19) hb); replace HI0 := ti126_b HI0 hb; replace HK := ko_ HK hb; replace HB := tu126_s HB hb; clear hb ho19))
      go_ret
      exact ⟨_, tw_, by refine qR_ ?_; exact Kd.R_mono aY.out (fun _ hk => trivial), ti126_ HI0.out, tu126_ HB.out, (tc_ HK.out)⟩
     ·
      rw [if_neg c15] at H
      have aW : (ah == 0) = false := beq_eq_false_iff_ne.mpr c15
      have aX : (ah != 0) = true := bne_iff_ne.mpr c15
      by_cases c20 : ah = 1
      ·
       rw [if_pos c20] at H
       have aZ : (ah == 1) = true := beq_iff_eq.mpr c20
       have a3 : (ah != 1) = false := bne_eq_false_iff_eq.mpr c20
       clear c20
       obtain ⟨ag, ax⟩ : ∃ y_ : List Int, y_ = (([(-1), 41] : List Int)) := ⟨_, rfl⟩
       replace H : ((spec_l20Rd_pick.f k1 ab am 2).bind fun ad => (if 0 ≤ ad.1 then (if ad.1 < (ag.length : Int) then (if 0 < (ae.length : Int) then (some ((ae.set (0 : Int).toNat (rd ag ad.1)), ad.2)) else (none)) else (none)) else (none))) = some (r1, r2) := yq_ ax H
       have aH := Aside0.mk ax
       clear ax
       obtain ⟨⟨ak, a4⟩, A21, H⟩ := bnd_ H
       try dsimp only at H
       by_cases c22 : 0 ≤ ak
       ·
        rw [if_pos c22] at H
        have bk : decide (0 ≤ ak) = true := decide_eq_true c22
        clear c22
        by_cases c23 : ak < (ag.length : Int)
        ·
         rw [if_pos c23] at H
         have bl : decide (ak < (ag.length : Int)) = true := decide_eq_true c23
         clear c23
         by_cases c24 : 0 < (ae.length : Int)
         ·
          rw [if_pos c24] at H
          have bm : decide (0 < (ae.length : Int)) = true := decide_eq_true c24
          have bn : decide (0 < ae.length) = true := decide_eq_true (by omega)
          clear c24
          obtain ⟨a5, ay⟩ : ∃ y_ : List Int, y_ = (ae.set (0 : Int).toNat (rd ag ak)) := ⟨_, rfl⟩
          replace H : (some (a5, a4)) = some (r1, r2) := yq_ ay H
          have a6 := Aside0.mk ay
          clear ay
          simp only [Option.some.injEq, Prod.mk.injEq] at H
          obtain ⟨rfl, rfl⟩ := H
          go_wp2_with (first | ((with_reducible refine gate_callee (f := 80) rfl ?_); refine gl_ (some 22) Tryd.func80 #[.pointer (some ⟨g, 0, none⟩), .int .i64 a1] ?_; (with_reducible refine (spec_l20Rd_odd.calls k1 g ab ac a1 true aj w0 _ ?s1 ?s2 A12.out).mono ?_); (case s1 => exact ti126_ HI0.out); (case s2 => exact tu126_ HB.out); rintro e bE ⟨rfl, hi, hb, hk⟩; refine ⟨_, rfl, ?_⟩; replace aa := Aside0.mk (Kd.R_mono (Kd.R_keep (IsS126.apart (ti126_ HI0.out : IsS126 w0 _ g ab ac) (rR_ aa.out) (by decide)) hk (fun _ h => h.2)) (fun _ h => h.1)); replace HK := kt_ HK hk; replace HB := Aside0.mk (hb); replace HI0 := Aside0.mk (hi); (try clear hb); (try clear hb2); (try clear hk); (try clear hi)) | ((with_reducible refine gate_callee (f := 101) rfl ?_); refine gl_ (some 24) Tryd.func101 #[.pointer (some ⟨g, 0, none⟩), .int .i64 3] ?_; (with_reducible refine (spec_l20Rd_pick.calls k1 g ab aj 3 ah am w0 _ ?s1 ?s2 A14.out).mono ?_); (case s1 => exact ti126_ HI0.out); (case s2 => exact tu126_ HB.out); rintro e bF ⟨rfl, hi, hb, hk⟩; refine ⟨_, rfl, ?_⟩; replace aa := Aside0.mk (Kd.R_mono (Kd.R_keep (IsS126.apart (ti126_ HI0.out : IsS126 w0 _ g ab aj) (rR_ aa.out) (by decide)) hk (fun _ h => h.2)) (fun _ h => h.1)); replace HK := kt_ HK hk; replace HB := Aside0.mk (hb); replace HI0 := Aside0.mk (hi); (try clear hb); (try clear hb2); (try clear hk); (try clear hi)) | ((with_reducible refine gate_dst (N := 32) rfl ?_); refine Kd.R_lit (Kd.int .i64) _ 3 ?hg (N := 32) ?hd (xs := ([(-1), 41] : List Int)) (inner := [.int .i64 (-1), .int .i64 41]) (ok := fun _ => True) (okp := fun _ => True) ?hr ?hp (fun _ hk => hk) trivial (Below.refl _ _) (Nat.le_refl _) (by simp) ?_; (case hd => rfl); (case hg => rfl); (case hr => first | (go_simp; done) | (go_simp; rfl)); (case hp => exact (Reps.one (show Kd.M (Kd.int .i64) _ _ _ (-1) [.int .i64 (-1)] from rfl) (Reps.one (show Kd.M (Kd.int .i64) _ _ _ 41 [.int .i64 41] from rfl) (Reps.none _ _)))); intro bs bG ho29 hb hg_ hnew_; clear hg_ hnew_; (first | rw [← aH.out] at ho29 | (simp only [Int.reduceToNat] at ho29; rw [← aH.out] at ho29)); have al := Aside0.mk (Kd.R_lower (Kd.R_new' ho29 (Kd.R_lt (rR_ aa.out))) (keep_size (w := w) (g := g) (row := none) (tc_ HK.out))); replace aa := Aside0.mk (Kd.R_elder' (rR_ aa.out) (Kd.R_base ho29) hb); replace HI0 := ti126_b HI0 hb; replace HK := ko_ HK hb; replace HB := tu126_s HB hb; clear hb ho29) | ((with_reducible refine gate_callee (f := 101) rfl ?_); refine gl_ (some 34) Tryd.func101 #[.pointer (some ⟨g, 0, none⟩), .int .i64 2] ?_; (with_reducible refine (spec_l20Rd_pick.calls k1 g ab am 2 ak a4 w0 _ ?s1 ?s2 A21.out).mono ?_); (case s1 => exact ti126_ HI0.out); (case s2 => exact tu126_ HB.out); rintro e bo ⟨rfl, hi, hb, hk⟩; refine ⟨_, rfl, ?_⟩; replace aa := Aside0.mk (Kd.R_mono (Kd.R_keep (IsS126.apart (ti126_ HI0.out : IsS126 w0 _ g ab am) (rR_ aa.out) (by decide)) hk (fun _ h => h.2)) (fun _ h => h.1)); replace al := Aside0.mk (Kd.R_mono (Kd.R_keep (IsS126.apart (ti126_ HI0.out : IsS126 w0 _ g ab am) (rR_ al.out) (by decide)) hk (fun _ h => h.2)) (fun _ h => h.1)); replace HK := kt_ HK hk; replace HB := Aside0.mk (hb); replace HI0 := Aside0.mk (hi); (try clear hb); (try clear hb2); (try clear hk); (try clear hi); obtain ⟨bu, a7, bh⟩ := Kd.R_slice al.out; subst bh; have p308 : 0 ≤ (ak : Int) := od_; have q308 : ak < (ag.length : Int) := od_; obtain ⟨ad308, e308, bc⟩ := Kd.at_int (Kd.R_reads' al.out).2.2 ak p308 q308; cases e308; replace p308 := eq_true p308; replace q308 := eq_true q308; have p25 : 0 ≤ (0 : Int) := (by omega); have q25 : (0 : Int) < ((ae.length : Int) : Int) := od_; have bv : (0 < ae.length) = True := eq_true (by omega); obtain ⟨go25, aK, a8, a9, gl25, cl25, HG25⟩ := Kd.R_form aa.out (by omega); (first | cases a8 | (injection a8 with ea_ en_ ec_; (first | subst ea_ | (injection ea_ with ea_; subst ea_)); subst ec_; clear en_)); have GB25 := Aside0.mk a9; have GG25 := Aside0.mk HG25; clear a9 gl25 HG25; obtain ⟨az, hf25_0⟩ := Kd.R_celln 0 aa.out (0 : Int) p25 q25; (try rw [show ((0 : Int)).toNat = 0 from rfl] at az); (try simp only [Nat.reduceMul, Nat.zero_mul, Nat.zero_add, Nat.reduceAdd] at az); (try rw [show ((0 : Int)).toNat = 0 from rfl] at hf25_0); (try simp only [Nat.reduceMul, Nat.zero_mul, Nat.zero_add, Nat.reduceAdd] at hf25_0); replace p25 := eq_true p25; replace q25 := eq_true q25; have n_ := Aside0.mk (Kd.R_mono (ok' := (fun k_ => some k_ ≠ (.slice (some ad308) ag.length a7 : Value).ownBlock)) aa.out (fun k_ hk => hk.2)); clear aa; have aa := n_; clear n_; obtain ⟨hy32_, hz32_⟩ := Kd.R_celln 0 aa.out (0 : Int) (by omega) (od_); (try simp only [Int.reduceToNat, Int.toNat_zero, Int.toNat_ofNat, Nat.reduceMul, Nat.zero_mul, Nat.zero_add] at hy32_ hz32_); (try rw [show ((0 : Int)).toNat = 0 from rfl] at hy32_); (try rw [show ((0 : Int)).toNat = 0 from rfl] at hz32_); have HP32 := Kd.R_putg aa.out (0 : Int) (rd ag ak)) | ((with_reducible refine gate_store (t := 3) (p := 37) rfl ?_); refine store_event (t := 3) (p := 37) (v := ?vo_w33) (w1 := (bo.setCell ⟨go25, (0 : Int).toNat, none⟩ (.int .i64 (rd ag ak)))) ?hg ?ho ?hn ?hr ?_; (case ho => rfl); (case hg => rfl); (case hn => rfl); (case hr => first | (go_simp; done) | (go_simp; rfl)); intro bi hw; have hg : bo.grownBy bi (some go25) := (by rw [hw]; exact HP32.2); have hp_ : Kd.R (Kd.int .i64) 3 bi w.heap.size (fun k_ => some k_ ≠ (.slice (some ad308) ag.length a7 : Value).ownBlock) (.slice (some ⟨go25, 0, none⟩) ae.length aK) a5 := (by rw [hw, a6.out]; exact HP32.1); clear HP32; replace HI0 := Aside0.mk (IsS126.grown (ti126_ HI0.out) hg (IsS126.own_ne HI0.out aa.out (by decide))); replace al := Aside0.mk (Kd.R_after (v := (.slice (some ⟨go25, 0, none⟩) ae.length aK)) (v1 := (.slice (some ⟨go25, 0, none⟩) ae.length aK)) (ok := (fun _ => True)) (rR_ al.out) hg (.inl rfl)); replace HB := Aside0.mk ((by rw [hw]; exact below_set (HB.out) (Nat.le_trans HL.out GB25.out) : Below w0.heap.size w0 bi)); replace HK := Aside0.mk (KeepBut.trans (tc_ HK.out) (KeepBut.of_grown hg g) (Kd.R_base2 aa.out)); replace aa := Aside0.mk (hp_); clear hg hw hp_))
          go_ret
          exact ⟨_, tw_, by refine qR_ ?_; exact Kd.R_mono aa.out (fun _ hk => trivial), ti126_ HI0.out, tu126_ HB.out, (tc_ HK.out)⟩
         ·
          rw [if_neg c24] at H
          exact absurd H (by simp)
        ·
         rw [if_neg c23] at H
         exact absurd H (by simp)
       ·
        rw [if_neg c22] at H
        exact absurd H (by simp)
      ·
       rw [if_neg c20] at H
       have aZ : (ah == 1) = false := beq_eq_false_iff_ne.mpr c20
       have a3 : (ah != 1) = true := bne_iff_ne.mpr c20
       obtain ⟨bj, aA⟩ : ∃ y_ : List Int, y_ = (([1, 1, 1, 1] : List Int)) := ⟨_, rfl⟩
       replace H : (some (bj, am)) = some (r1, r2) := yq_ aA H
       have aI := Aside0.mk aA
       clear aA
       simp only [Option.some.injEq, Prod.mk.injEq] at H
       obtain ⟨rfl, rfl⟩ := H
       go_wp2_with (first | ((with_reducible refine gate_callee (f := 80) rfl ?_); refine gl_ (some 22) Tryd.func80 #[.pointer (some ⟨g, 0, none⟩), .int .i64 a1] ?_; (with_reducible refine (spec_l20Rd_odd.calls k1 g ab ac a1 true aj w0 _ ?s1 ?s2 A12.out).mono ?_); (case s1 => exact ti126_ HI0.out); (case s2 => exact tu126_ HB.out); rintro e bH ⟨rfl, hi, hb, hk⟩; refine ⟨_, rfl, ?_⟩; replace aa := Aside0.mk (Kd.R_mono (Kd.R_keep (IsS126.apart (ti126_ HI0.out : IsS126 w0 _ g ab ac) (rR_ aa.out) (by decide)) hk (fun _ h => h.2)) (fun _ h => h.1)); replace HK := kt_ HK hk; replace HB := Aside0.mk (hb); replace HI0 := Aside0.mk (hi); (try clear hb); (try clear hb2); (try clear hk); (try clear hi)) | ((with_reducible refine gate_callee (f := 101) rfl ?_); refine gl_ (some 24) Tryd.func101 #[.pointer (some ⟨g, 0, none⟩), .int .i64 3] ?_; (with_reducible refine (spec_l20Rd_pick.calls k1 g ab aj 3 ah am w0 _ ?s1 ?s2 A14.out).mono ?_); (case s1 => exact ti126_ HI0.out); (case s2 => exact tu126_ HB.out); rintro e bI ⟨rfl, hi, hb, hk⟩; refine ⟨_, rfl, ?_⟩; replace aa := Aside0.mk (Kd.R_mono (Kd.R_keep (IsS126.apart (ti126_ HI0.out : IsS126 w0 _ g ab aj) (rR_ aa.out) (by decide)) hk (fun _ h => h.2)) (fun _ h => h.1)); replace HK := kt_ HK hk; replace HB := Aside0.mk (hb); replace HI0 := Aside0.mk (hi); (try clear hb); (try clear hb2); (try clear hk); (try clear hi)) | ((with_reducible refine gate_dst (N := 25) rfl ?_); refine Kd.R_lit (Kd.int .i64) _ 3 ?hg (N := 25) ?hd (xs := ([1, 1, 1, 1] : List Int)) (inner := [.int .i64 1, .int .i64 1, .int .i64 1, .int .i64 1]) (ok := fun _ => True) (okp := fun _ => True) ?hr ?hp (fun _ hk => hk) trivial (Below.refl _ _) (Nat.le_refl _) (by simp) ?_; (case hd => rfl); (case hg => rfl); (case hr => first | (go_simp; done) | (go_simp; rfl)); (case hp => exact (Reps.one (show Kd.M (Kd.int .i64) _ _ _ 1 [.int .i64 1] from rfl) (Reps.one (show Kd.M (Kd.int .i64) _ _ _ 1 [.int .i64 1] from rfl) (Reps.one (show Kd.M (Kd.int .i64) _ _ _ 1 [.int .i64 1] from rfl) (Reps.one (show Kd.M (Kd.int .i64) _ _ _ 1 [.int .i64 1] from rfl) (Reps.none _ _)))))); intro bw bJ ho37 hb hg_ hnew_; clear hg_ hnew_; (first | rw [← aI.out] at ho37 | (simp only [Int.reduceToNat] at ho37; rw [← aI.out] at ho37)); have bb := Aside0.mk (Kd.R_lower (Kd.R_new' ho37 (Kd.R_lt (rR_ aa.out))) (keep_size (w := w) (g := g) (row := none) (tc_ HK.out))); replace aa := Aside0.mk (Kd.R_elder' (rR_ aa.out) (Kd.R_base ho37) hb); replace HI0 := ti126_b HI0 hb; replace HK := ko_ HK hb; replace HB := tu126_s HB hb; clear hb ho37))
       go_ret
       exact ⟨_, tw_, by refine qR_ ?_; exact Kd.R_mono bb.out (fun _ hk => trivial), ti126_ HI0.out, tu126_ HB.out, (tc_ HK.out)⟩
    ·
     replace c13 := Bool.eq_false_iff.mpr c13
     subst c13
     have H1 : (some (ae, aj)) = some (r1, r2) := by rw [if_neg (show ¬ (false = true) by decide)] at H; exact H
     clear H
     have H := H1
     clear H1
     simp only [Option.some.injEq, Prod.mk.injEq] at H
     obtain ⟨rfl, rfl⟩ := H
     go_wp2_with (first | ((with_reducible refine gate_callee (f := 80) rfl ?_); refine gl_ (some 22) Tryd.func80 #[.pointer (some ⟨g, 0, none⟩), .int .i64 a1] ?_; (with_reducible refine (spec_l20Rd_odd.calls k1 g ab ac a1 false aj w0 _ ?s1 ?s2 A12.out).mono ?_); (case s1 => exact ti126_ HI0.out); (case s2 => exact tu126_ HB.out); rintro e bK ⟨rfl, hi, hb, hk⟩; refine ⟨_, rfl, ?_⟩; replace aa := Aside0.mk (Kd.R_mono (Kd.R_keep (IsS126.apart (ti126_ HI0.out : IsS126 w0 _ g ab ac) (rR_ aa.out) (by decide)) hk (fun _ h => h.2)) (fun _ h => h.1)); replace HK := kt_ HK hk; replace HB := Aside0.mk (hb); replace HI0 := Aside0.mk (hi); (try clear hb); (try clear hb2); (try clear hk); (try clear hi)))
     go_ret
     exact ⟨_, tw_, by refine qR_ ?_; exact aa.out, ti126_ HI0.out, tu126_ HB.out, (tc_ HK.out)⟩

end Go.Proofs.YtlhiienanbpdlaaDoor.MFnPlaceText
