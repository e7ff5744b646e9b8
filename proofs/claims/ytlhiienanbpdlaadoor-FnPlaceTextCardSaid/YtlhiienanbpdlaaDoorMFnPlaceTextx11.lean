/- For the law FnPlaceText: walks of the functions that it reaches: each call returns what the plain function beside it tells. The conditions stand in each statement. -/
import Derived.Test.YtlhiienanbpdlaaDoorV
import Derived.Test.YtlhiienanbpdlaaDoorMFnPlaceTextx0
import Derived.Test.YtlhiienanbpdlaaDoorMFnPlaceTextx1
import Derived.Test.YtlhiienanbpdlaaDoorMFnPlaceTextx2
import Derived.Test.YtlhiienanbpdlaaDoorMFnPlaceTextx3
import Derived.Test.YtlhiienanbpdlaaDoorMFnPlaceTextx4
import Derived.Test.YtlhiienanbpdlaaDoorMFnPlaceTextx5
import Derived.Test.YtlhiienanbpdlaaDoorMFnPlaceTextx7
import Derived.Test.YtlhiienanbpdlaaDoorMFnPlaceTextx9
import Derived.Test.YtlhiienanbpdlaaDoorMFnPlaceTextx10
namespace Go.Proofs.YtlhiienanbpdlaaDoor.MFnPlaceText
open Go.RowKit Go.Proofs.YtlhiienanbpdlaaDoorW.PrintWords Go.Proofs.YtlhiienanbpdlaaDoorW.PrintLast Go.Proofs.YtlhiienanbpdlaaDoorW.PrintMore
attribute [local go_sem] max2_int min2_int max_two min_two max_three min_three max_four min_four   -- for this text's walks alone
set_option linter.unusedVariables false
set_option linter.unusedSimpArgs false

/-! ### spec_PlaceText: function 62 -/
def spec_PlaceText.l0 : Nat → ByteArray → Int → List Int → Int → List Int → Option (ByteArray)
 | 0, _, _, _, _, _ => none
 | k + 1, x3, x4, a5, a6, ak => if x4 < (ak.length : Int) then (if x4 = 0 then (if 0 ≤ x4 then (if 0 ≤ (rd ak x4) then (if (rd ak x4) ≤ (wrap64 ((rd ak x4) + 1)) then (if (wrap64 ((rd ak x4) + 1)) ≤ 3 then (if 0 + ((⟨#[97, 98, 99]⟩ : ByteArray).extract ((rd ak x4) : Int).toNat ((wrap64 ((rd ak x4) + 1)) : Int).toNat).size ≤ 9223372036854775807 then (spec_PlaceText.l0 k ((⟨#[]⟩ : ByteArray) ++ ((⟨#[97, 98, 99]⟩ : ByteArray).extract ((rd ak x4) : Int).toNat ((wrap64 ((rd ak x4) + 1)) : Int).toNat)) (wrap64 (x4 + 1)) a5 a6 ak) else (none)) else (none)) else (none)) else (none)) else (none)) else (if 0 ≤ x4 then (if 0 ≤ (rd ak x4) then (if (rd ak x4) ≤ (wrap64 ((rd ak x4) + 1)) then (if (wrap64 ((rd ak x4) + 1)) ≤ 3 then (if x3.size + ((⟨#[97, 98, 99]⟩ : ByteArray).extract ((rd ak x4) : Int).toNat ((wrap64 ((rd ak x4) + 1)) : Int).toNat).size ≤ 9223372036854775807 then (spec_PlaceText.l0 k (x3 ++ ((⟨#[97, 98, 99]⟩ : ByteArray).extract ((rd ak x4) : Int).toNat ((wrap64 ((rd ak x4) + 1)) : Int).toNat)) (wrap64 (x4 + 1)) a5 a6 ak) else (none)) else (none)) else (none)) else (none)) else (none))) else ((spec_l15Row.f k a5).bind fun aq => (if aq.size + 1 ≤ 9223372036854775807 then ((spec_l15Step.f k a6).bind fun av => (if (aq ++ (⟨#[32]⟩ : ByteArray)).size + av.size ≤ 9223372036854775807 then (if ((aq ++ (⟨#[32]⟩ : ByteArray)) ++ av).size + 1 ≤ 9223372036854775807 then (if (((aq ++ (⟨#[32]⟩ : ByteArray)) ++ av) ++ (⟨#[32]⟩ : ByteArray)).size + x3.size ≤ 9223372036854775807 then (some ((((aq ++ (⟨#[32]⟩ : ByteArray)) ++ av) ++ (⟨#[32]⟩ : ByteArray)) ++ x3)) else (none)) else (none)) else (none))) else (none)))
def spec_PlaceText.f (k : Nat) (ap : List Int) (a0_1 : Int) (ai : List Int) : Option (ByteArray) := (spec_PlaceOk.f k ap a0_1 ai).bind fun bo => (if bo = true then (spec_PlaceText.l0 k (⟨#[46]⟩ : ByteArray) 0 ap a0_1 ai) else (some (⟨#[]⟩ : ByteArray)))
theorem spec_PlaceText.mono_l : ∀ k, (∀ y0 y1 y2 y3 y4, LeO (spec_PlaceText.l0 k y0 y1 y2 y3 y4) (spec_PlaceText.l0 (k + 1) y0 y1 y2 y3 y4))
 | 0 => fun _ _ _ _ _ r h => by simp [spec_PlaceText.l0] at h
 | k + 1 => by
  have ih0 := spec_PlaceText.mono_l k
  ·
   intro y0 y1 y2 y3 y4
   unfold spec_PlaceText.l0
   repeat' (with_reducible first | exact ih0 _ _ _ _ _ | exact spec_PlaceOk.mono _ _ _ _ | exact spec_l15Row.mono _ _ | exact spec_l15Step.mono _ _ | exact mr_ | exact mn_ | refine mi_ ?_ ?_ | refine mb_ ?_ (fun _ => ?_))
theorem spec_PlaceText.mono : ∀ a0 a1 a2 k, LeO (spec_PlaceText.f k a0 a1 a2) (spec_PlaceText.f (k + 1) a0 a1 a2) := by
 intro a0 a1 a2 k
 have ih0 := spec_PlaceText.mono_l k
 unfold spec_PlaceText.f
 repeat' (with_reducible first | exact ih0 _ _ _ _ _ | exact spec_PlaceOk.mono _ _ _ _ | exact spec_l15Row.mono _ _ | exact spec_l15Step.mono _ _ | exact mr_ | exact mn_ | refine mi_ ?_ ?_ | refine mb_ ?_ (fun _ => ?_))
def spec_PlaceText.T9 : Bool × List (List Nat × List Nat) := (true, [([], []), ([], []), ([1], [1]), ([], []), ([2, 3], [2, 3]), ([4], [4]), ([], []), ([6], [6]), ([], []), ([7, 8], [7, 8]), ([9], [9]), ([10], [10]), ([5, 11], [5, 11]), ([0, 12], [0, 12]), ([13, 0, 1, 2, 3, 4, 5, 6, 7, 8, 9, 10, 11, 12, 13], [0, 13])])
def spec_PlaceText.B9 : List Nat := [0, 0, 2, 0, 14, 30, 0, 64, 0, 448, 960, 1984, 4094, 8191, 16383]
theorem spec_PlaceText.tab9 : rtab .any (opsOf Tryd.f62 9) = spec_PlaceText.T9 := by kernel_rfl
theorem spec_PlaceText.bits9 : waitsOk spec_PlaceText.T9.2 spec_PlaceText.B9 = true := by kernel_rfl
def spec_PlaceText.T10 : Bool × List (List Nat × List Nat) := (true, [([], []), ([0], [0]), ([1], [1]), ([2], [2]), ([], []), ([4], [4]), ([5, 2], [5]), ([3, 6], [3, 6]), ([7], [7]), ([], []), ([8, 9], [8, 9]), ([10, 6, 0, 1, 2, 3, 4, 5, 6, 7, 8, 9, 10], [10])])
def spec_PlaceText.B10 : List Nat := [0, 1, 3, 7, 0, 16, 55, 127, 255, 0, 1023, 2047]
theorem spec_PlaceText.tab10 : rtab .any (opsOf Tryd.f62 10) = spec_PlaceText.T10 := by kernel_rfl
theorem spec_PlaceText.bits10 : waitsOk spec_PlaceText.T10.2 spec_PlaceText.B10 = true := by kernel_rfl
set_option maxHeartbeats 8000000 in
set_option maxRecDepth 100000 in
theorem spec_PlaceText.calls (k : Nat) (aR : Option Addr) (aU : Nat) (ap : List Int) (a0_1 : Int) (be : Option Addr) (aX : Nat) (ai : List Int) (r : ByteArray) (w : World) (hr0_0 : Kd.C (Kd.int .i64) w aR ap.length ap) (hc0_0 : ap.length ≤ aU) (hr0_2 : Kd.C (Kd.int .i64) w be ai.length ai) (hc0_2 : ai.length ≤ aX) (h : spec_PlaceText.f k ap a0_1 ai = some r) :
  Calls Tryd.prog 62 #[.agg #[.slice aR ap.length aU, .int .i64 a0_1, .slice be ai.length aX]] w fun e w' => e = .returned (.string r) ∧ Below w.heap.size w w' := by
 have hu25 := Tryd.underlying25
 have d5 := Aside0.mk hr0_0
 have bp := Aside0.mk hc0_0
 clear hr0_0 hc0_0
 have bl := Aside0.mk hr0_2
 have bC := Aside0.mk hc0_2
 clear hr0_2 hc0_2
 have HB := Aside0.mk (Below.refl w.heap.size w)
 have H : ((spec_PlaceOk.f k ap a0_1 ai).bind fun bo => (if bo = true then (spec_PlaceText.l0 k (⟨#[46]⟩ : ByteArray) 0 ap a0_1 ai) else (some (⟨#[]⟩ : ByteArray)))) = some r := h
 clear h
 obtain ⟨bo, A2, H⟩ := bnd_ H
 try dsimp only at H
 by_cases c3 : bo = true
 ·
  subst c3
  have H1 : (spec_PlaceText.l0 k (⟨#[46]⟩ : ByteArray) 0 ap a0_1 ai) = some r := by rw [if_pos rfl] at H; exact H
  clear H
  have H := H1
  clear H1
  have H' := Aside0.mk H
  clear H
  go_enter Tryd.func62, Tryd.ntmps62
  go_wp2_with (first | ((with_reducible refine gate_dst (N := 1) rfl ?_); refine box_event ?hg (N := 1) ?hd (cs := #[.slice aR ap.length aU, .int .i64 a0_1, .slice be ai.length aX]) (t := 25) ?hr ?_; (case hd => rfl); (case hg => rfl); (case hr => first | (go_simp; done) | (go_simp; rfl)); intro aw hg w4 hbox hb; have ae := Aside0.mk (hbox); have bM := gx_ HB hg; have bN := gx_ HB hg; replace HB := bs_ HB hb; clear hb hbox hg; have bF := cz_ ae 0; have bG := cz_ ae 1; have bH := cz_ ae 2; have bI := blk_frozen ae.out 0; have bJ := blk_frozen ae.out 1; have bK := blk_frozen ae.out 2) | ((with_reducible refine gate_callee (f := 73) rfl ?_); refine gl_ (some 6) Tryd.func73 #[.agg #[.slice aR ap.length aU, .int .i64 a0_1, .slice be ai.length aX]] ?_; (with_reducible refine (spec_PlaceOk.calls k _ _ ap a0_1 _ _ ai true _ ?s1 ?s2 ?s3 ?s4 A2.out).mono ?_); (case s1 => exact tD_); (case s2 => exact bp.out); (case s3 => exact tD_); (case s4 => exact bC.out); rintro e w6 ⟨rfl, hb⟩; refine ⟨_, rfl, ?_⟩; replace ae := bb_ ae hb; replace HB := bs_ HB hb; (try clear hb); (try clear hb2); (try clear hk); (try clear hi)))
  go_loopg [3, 4] k (fun kq v3 v4 w' => ∃ (aM : ByteArray) (af : Int), v3 = .string aM ∧ v4 = .int .i64 af ∧ Aside0 (spec_PlaceText.l0 kq aM af ap a0_1 ai = some r) ∧ Aside0 (kq ≤ k) ∧ Aside0 (w'.heap[aw]? = some (.cells #[(.slice aR ap.length aU), .int .i64 a0_1, (.slice be ai.length aX)] 25 (0, 0))) ∧ Aside0 (Below w.heap.size w w'))
  case atStart => exact ⟨((⟨#[46]⟩ : ByteArray)), (0), tx_, tx_, H', ⟨Nat.le_refl _⟩, ⟨tk_ ae.out⟩, ⟨(tb_ HB.out)⟩⟩
  case round =>
   clear H'
   try clear p2
   try clear c3
   try clear c6
   try clear bF
   try clear bG
   try clear bH
   try clear bI
   try clear bJ
   try clear bK
   obtain ⟨aM, af, rfl, rfl, HA, HK1, ae, HB⟩ := hrel
   cases gk with
   | zero => exact absurd HA.out (by simp [spec_PlaceText.l0])
   | succ k1 =>
    have H := HA.out
    clear HA
    simp only [spec_PlaceText.l0] at H
    by_cases c7 : af < (ai.length : Int)
    ·
     rw [if_pos c7] at H
     have bL : decide (af < (ai.length : Int)) = true := decide_eq_true c7
     clear c7
     by_cases c8 : af = 0
     ·
      rw [if_pos c8] at H
      have dG : (af == 0) = true := beq_iff_eq.mpr c8
      have dH : (af != 0) = false := bne_eq_false_iff_eq.mpr c8
      clear c8
      by_cases c9 : 0 ≤ af
      ·
       rw [if_pos c9] at H
       have eK : decide (0 ≤ af) = true := decide_eq_true c9
       clear c9
       by_cases c10 : 0 ≤ (rd ai af)
       ·
        rw [if_pos c10] at H
        have d6 := eq_true c10
        have d7 : decide (0 ≤ (rd ai af)) = true := decide_eq_true c10
        clear c10
        by_cases c11 : (rd ai af) ≤ (wrap64 ((rd ai af) + 1))
        ·
         rw [if_pos c11] at H
         have d8 := eq_true c11
         have d9 : decide ((rd ai af) ≤ (wrap64 ((rd ai af) + 1))) = true := decide_eq_true c11
         by_cases c12 : (wrap64 ((rd ai af) + 1)) ≤ 3
         ·
          rw [if_pos c12] at H
          have ea := eq_true c12
          have eb : decide ((wrap64 ((rd ai af) + 1)) ≤ 3) = true := decide_eq_true c12
          by_cases c13 : 0 + ((⟨#[97, 98, 99]⟩ : ByteArray).extract ((rd ai af) : Int).toNat ((wrap64 ((rd ai af) + 1)) : Int).toNat).size ≤ 9223372036854775807
          ·
           rw [if_pos c13] at H
           have ec := eq_true c13
           have ed : decide (0 + ((⟨#[97, 98, 99]⟩ : ByteArray).extract ((rd ai af) : Int).toNat ((wrap64 ((rd ai af) + 1)) : Int).toNat).size ≤ 9223372036854775807) = true := decide_eq_true c13
           try have ee : (9223372036854775807 < 0 + ((⟨#[97, 98, 99]⟩ : ByteArray).extract ((rd ai af) : Int).toNat ((wrap64 ((rd ai af) + 1)) : Int).toNat).size) = False := eq_false (Nat.not_lt.2 c13)
           try have ef : (9223372036854775807 < 0 + (((⟨#[97, 98, 99]⟩ : ByteArray).extract ((rd ai af) : Int).toNat ((wrap64 ((rd ai af) + 1)) : Int).toNat).size)) = False := eq_false (by have h := c13; simp only [ByteArray.size_append] at h; simp only [ByteArray.size] at h ⊢; simp at h ⊢; omega)
           try have bD := c13
           try simp only [ByteArray.size_append, ByteArray.size_extract] at bD
           try simp only [show (⟨#[97, 98, 99]⟩ : ByteArray).size = 3 from rfl] at bD
           have H' := Aside0.mk H
           clear H
           have bQ := cz_ ae 0
           have bR := cz_ ae 1
           have bS := cz_ ae 2
           have bU := blk_frozen ae.out 0
           have bV := blk_frozen ae.out 1
           have bW := blk_frozen ae.out 2
           try go_wp2
           replace ae := dB_ ae
           replace HB := Aside0.mk (ld_ HB.out)
           have p369 : 0 ≤ (af : Int) := od_
           have q369 : af < (ai.length : Int) := od_
           obtain ⟨ad369, e369, az⟩ := Kd.at_int bl.out af p369 q369
           have hw369_0 := az
           cases e369
           replace az := (HB.out.cell (World.block_lt_of_cell? w _ az)).trans az
           replace p369 := eq_true p369
           replace q369 := eq_true q369
           have p370 : 0 ≤ (af : Int) := od_
           have q370 : af < (ai.length : Int) := od_
           obtain ⟨ad370, e370, aA⟩ := Kd.at_int bl.out af p370 q370
           have hw370_0 := aA
           obtain rfl : ad369 = ad370 := (by injection e370)
           replace aA := (HB.out.cell (World.block_lt_of_cell? w _ aA)).trans aA
           replace p370 := eq_true p370
           replace q370 := eq_true q370
           refine start_ (n := 15) (S := fun w' => w'.cell? ⟨aw, 0, none⟩ = some (.slice aR ap.length aU) ∧ w'.cell? ⟨aw, 1, none⟩ = some (.int .i64 a0_1) ∧ w'.cell? ⟨aw, 2, none⟩ = some (.slice (some ad369) ai.length aX) ∧ w'.cell? (ad369.add (af).toNat) = some (.int .i64 (rd ai af)) ∧ w'.cell? (ad369.add (af).toNat) = some (.int .i64 (rd ai af))) (ds := []) #[false, false, false, false, false, false, false, false, false, false, false, false, false, false, false] (by kernel_rfl) rfl rfl ⟨(blk_cell ae.out 0).trans rfl, (blk_cell ae.out 1).trans rfl, (blk_cell ae.out 2).trans rfl, ((HB.out.cell (World.block_lt_of_cell? w _ hw369_0)).trans hw369_0), ((HB.out.cell (World.block_lt_of_cell? w _ hw370_0)).trans hw370_0)⟩ (fun hHeld => ?_); refine with_tabW spec_PlaceText.tab9 spec_PlaceText.bits9 (fun HT_ HW_ => ?_)
           generalize wr.drew = eL at ae HB az aA hHeld ⊢
           refine pu_ 0 (some 17) #[true, false, false, false, false, false, false, false, false, false, false, false, false, false, false] HT_ rfl rfl ?_
           refine pu_ 1 (some 18) #[true, true, false, false, false, false, false, false, false, false, false, false, false, false, false] HT_ rfl rfl ?_
           refine pu_ 3 (some 20) #[true, true, false, true, false, false, false, false, false, false, false, false, false, false, false] HT_ rfl rfl ?_
           refine pu_ 6 (some 23) #[true, true, false, true, false, false, true, false, false, false, false, false, false, false, false] HT_ rfl rfl ?_
           refine pu_ 8 (some 25) #[true, true, false, true, false, false, true, false, true, false, false, false, false, false, false] HT_ rfl rfl ?_
           refine ta_ 2 (some 19) #[true, true, true, true, false, false, true, false, true, false, false, false, false, false, false] HT_ HW_ hHeld rfl rfl ?_
           refine pu_ 4 (some 21) #[true, true, true, true, true, false, true, false, true, false, false, false, false, false, false] HT_ rfl rfl ?_
           refine ta_ 5 (some 22) #[true, true, true, true, true, true, true, false, true, false, false, false, false, false, false] HT_ HW_ hHeld rfl rfl ?_
           refine ta_ 7 (some 24) #[true, true, true, true, true, true, true, true, true, false, false, false, false, false, false] HT_ HW_ hHeld rfl rfl ?_
           refine pu_ 9 (some 26) #[true, true, true, true, true, true, true, true, true, true, false, false, false, false, false] HT_ rfl rfl ?_
           refine ta_ 10 (some 27) #[true, true, true, true, true, true, true, true, true, true, true, false, false, false, false] HT_ HW_ hHeld rfl rfl ?_
           refine pu_ 11 (some 28) #[true, true, true, true, true, true, true, true, true, true, true, true, false, false, false] HT_ rfl rfl ?_
           refine pu_ 12 (some 29) #[true, true, true, true, true, true, true, true, true, true, true, true, true, false, false] HT_ rfl rfl ?_
           refine pu_ 13 (some 30) #[true, true, true, true, true, true, true, true, true, true, true, true, true, true, false] HT_ rfl rfl ?_
           refine pu_ 14 (some 3) #[true, true, true, true, true, true, true, true, true, true, true, true, true, true, true] HT_ rfl rfl ?_
           refine done_ (done_of HT_.out (by kernel_rfl)) ?_
           try go_wp2
           go_roundg k1
           case measure => have := HK1.out; omega
           case rel => exact ⟨((⟨#[]⟩ : ByteArray) ++ ((⟨#[97, 98, 99]⟩ : ByteArray).extract ((rd ai af) : Int).toNat ((wrap64 ((rd ai af) + 1)) : Int).toNat)), (wrap64 (af + 1)), tx_, tx_, H', ⟨by have := HK1.out; omega⟩, ⟨tk_ ae.out⟩, ⟨(tb_ HB.out)⟩⟩
          ·
           rw [if_neg c13] at H
           exact absurd H (by simp)
         ·
          rw [if_neg c12] at H
          exact absurd H (by simp)
        ·
         rw [if_neg c11] at H
         exact absurd H (by simp)
       ·
        rw [if_neg c10] at H
        exact absurd H (by simp)
      ·
       rw [if_neg c9] at H
       exact absurd H (by simp)
     ·
      rw [if_neg c8] at H
      have dG : (af == 0) = false := beq_eq_false_iff_ne.mpr c8
      have dH : (af != 0) = true := bne_iff_ne.mpr c8
      by_cases c16 : 0 ≤ af
      ·
       rw [if_pos c16] at H
       have eg : decide (0 ≤ af) = true := decide_eq_true c16
       clear c16
       by_cases c17 : 0 ≤ (rd ai af)
       ·
        rw [if_pos c17] at H
        have eh := eq_true c17
        have ei : decide (0 ≤ (rd ai af)) = true := decide_eq_true c17
        clear c17
        by_cases c18 : (rd ai af) ≤ (wrap64 ((rd ai af) + 1))
        ·
         rw [if_pos c18] at H
         have ej := eq_true c18
         have ek : decide ((rd ai af) ≤ (wrap64 ((rd ai af) + 1))) = true := decide_eq_true c18
         by_cases c19 : (wrap64 ((rd ai af) + 1)) ≤ 3
         ·
          rw [if_pos c19] at H
          have el := eq_true c19
          have em : decide ((wrap64 ((rd ai af) + 1)) ≤ 3) = true := decide_eq_true c19
          by_cases c20 : aM.size + ((⟨#[97, 98, 99]⟩ : ByteArray).extract ((rd ai af) : Int).toNat ((wrap64 ((rd ai af) + 1)) : Int).toNat).size ≤ 9223372036854775807
          ·
           rw [if_pos c20] at H
           have en := eq_true c20
           have eo : decide (aM.size + ((⟨#[97, 98, 99]⟩ : ByteArray).extract ((rd ai af) : Int).toNat ((wrap64 ((rd ai af) + 1)) : Int).toNat).size ≤ 9223372036854775807) = true := decide_eq_true c20
           try have ep : (9223372036854775807 < aM.size + ((⟨#[97, 98, 99]⟩ : ByteArray).extract ((rd ai af) : Int).toNat ((wrap64 ((rd ai af) + 1)) : Int).toNat).size) = False := eq_false (Nat.not_lt.2 c20)
           try have eq : (9223372036854775807 < aM.size + (((⟨#[97, 98, 99]⟩ : ByteArray).extract ((rd ai af) : Int).toNat ((wrap64 ((rd ai af) + 1)) : Int).toNat).size)) = False := eq_false (by have h := c20; simp only [ByteArray.size_append] at h; simp only [ByteArray.size] at h ⊢; simp at h ⊢; omega)
           try have bE := c20
           try simp only [ByteArray.size_append, ByteArray.size_extract] at bE
           try simp only [show (⟨#[97, 98, 99]⟩ : ByteArray).size = 3 from rfl] at bE
           have H' := Aside0.mk H
           clear H
           have bX := cz_ ae 0
           have bZ := cz_ ae 1
           have b0 := cz_ ae 2
           have b1 := blk_frozen ae.out 0
           have b2 := blk_frozen ae.out 1
           have b3 := blk_frozen ae.out 2
           try go_wp2
           replace ae := dB_ ae
           replace HB := Aside0.mk (ld_ HB.out)
           have p371 : 0 ≤ (af : Int) := od_
           have q371 : af < (ai.length : Int) := od_
           obtain ⟨ad371, e371, aB⟩ := Kd.at_int bl.out af p371 q371
           have hw371_0 := aB
           cases e371
           replace aB := (HB.out.cell (World.block_lt_of_cell? w _ aB)).trans aB
           replace p371 := eq_true p371
           replace q371 := eq_true q371
           have p372 : 0 ≤ (af : Int) := od_
           have q372 : af < (ai.length : Int) := od_
           obtain ⟨ad372, e372, aC⟩ := Kd.at_int bl.out af p372 q372
           have hw372_0 := aC
           obtain rfl : ad371 = ad372 := (by injection e372)
           replace aC := (HB.out.cell (World.block_lt_of_cell? w _ aC)).trans aC
           replace p372 := eq_true p372
           replace q372 := eq_true q372
           refine start_ (n := 15) (S := fun w' => w'.cell? ⟨aw, 0, none⟩ = some (.slice aR ap.length aU) ∧ w'.cell? ⟨aw, 1, none⟩ = some (.int .i64 a0_1) ∧ w'.cell? ⟨aw, 2, none⟩ = some (.slice (some ad371) ai.length aX) ∧ w'.cell? (ad371.add (af).toNat) = some (.int .i64 (rd ai af)) ∧ w'.cell? (ad371.add (af).toNat) = some (.int .i64 (rd ai af))) (ds := []) #[false, false, false, false, false, false, false, false, false, false, false, false, false, false, false] (by kernel_rfl) rfl rfl ⟨(blk_cell ae.out 0).trans rfl, (blk_cell ae.out 1).trans rfl, (blk_cell ae.out 2).trans rfl, ((HB.out.cell (World.block_lt_of_cell? w _ hw371_0)).trans hw371_0), ((HB.out.cell (World.block_lt_of_cell? w _ hw372_0)).trans hw372_0)⟩ (fun hHeld => ?_); refine with_tabW spec_PlaceText.tab9 spec_PlaceText.bits9 (fun HT_ HW_ => ?_)
           generalize wr.drew = eM at ae HB aB aC hHeld ⊢
           refine pu_ 0 (some 17) #[true, false, false, false, false, false, false, false, false, false, false, false, false, false, false] HT_ rfl rfl ?_
           refine pu_ 1 (some 18) #[true, true, false, false, false, false, false, false, false, false, false, false, false, false, false] HT_ rfl rfl ?_
           refine pu_ 3 (some 20) #[true, true, false, true, false, false, false, false, false, false, false, false, false, false, false] HT_ rfl rfl ?_
           refine pu_ 6 (some 23) #[true, true, false, true, false, false, true, false, false, false, false, false, false, false, false] HT_ rfl rfl ?_
           refine pu_ 8 (some 25) #[true, true, false, true, false, false, true, false, true, false, false, false, false, false, false] HT_ rfl rfl ?_
           refine ta_ 2 (some 19) #[true, true, true, true, false, false, true, false, true, false, false, false, false, false, false] HT_ HW_ hHeld rfl rfl ?_
           refine pu_ 4 (some 21) #[true, true, true, true, true, false, true, false, true, false, false, false, false, false, false] HT_ rfl rfl ?_
           refine ta_ 5 (some 22) #[true, true, true, true, true, true, true, false, true, false, false, false, false, false, false] HT_ HW_ hHeld rfl rfl ?_
           refine ta_ 7 (some 24) #[true, true, true, true, true, true, true, true, true, false, false, false, false, false, false] HT_ HW_ hHeld rfl rfl ?_
           refine pu_ 9 (some 26) #[true, true, true, true, true, true, true, true, true, true, false, false, false, false, false] HT_ rfl rfl ?_
           refine ta_ 10 (some 27) #[true, true, true, true, true, true, true, true, true, true, true, false, false, false, false] HT_ HW_ hHeld rfl rfl ?_
           refine pu_ 11 (some 28) #[true, true, true, true, true, true, true, true, true, true, true, true, false, false, false] HT_ rfl rfl ?_
           refine pu_ 12 (some 29) #[true, true, true, true, true, true, true, true, true, true, true, true, true, false, false] HT_ rfl rfl ?_
           refine pu_ 13 (some 30) #[true, true, true, true, true, true, true, true, true, true, true, true, true, true, false] HT_ rfl rfl ?_
           refine pu_ 14 (some 3) #[true, true, true, true, true, true, true, true, true, true, true, true, true, true, true] HT_ rfl rfl ?_
           refine done_ (done_of HT_.out (by kernel_rfl)) ?_
           try go_wp2
           go_roundg k1
           case measure => have := HK1.out; omega
           case rel => exact ⟨(aM ++ ((⟨#[97, 98, 99]⟩ : ByteArray).extract ((rd ai af) : Int).toNat ((wrap64 ((rd ai af) + 1)) : Int).toNat)), (wrap64 (af + 1)), tx_, tx_, H', ⟨by have := HK1.out; omega⟩, ⟨tk_ ae.out⟩, ⟨(tb_ HB.out)⟩⟩
          ·
           rw [if_neg c20] at H
           exact absurd H (by simp)
         ·
          rw [if_neg c19] at H
          exact absurd H (by simp)
        ·
         rw [if_neg c18] at H
         exact absurd H (by simp)
       ·
        rw [if_neg c17] at H
        exact absurd H (by simp)
      ·
       rw [if_neg c16] at H
       exact absurd H (by simp)
    ·
     rw [if_neg c7] at H
     have bL : decide (af < (ai.length : Int)) = false := decide_eq_false c7
     clear c7
     obtain ⟨aq, A23, H⟩ := bnd_ H
     try dsimp only at H
     by_cases c24 : aq.size + 1 ≤ 9223372036854775807
     ·
      rw [if_pos c24] at H
      have er := eq_true c24
      have es : decide (aq.size + 1 ≤ 9223372036854775807) = true := decide_eq_true c24
      try have et : (9223372036854775807 < aq.size + 1) = False := eq_false (Nat.not_lt.2 c24)
      obtain ⟨av, A25, H⟩ := bnd_ H
      try dsimp only at H
      by_cases c26 : (aq ++ (⟨#[32]⟩ : ByteArray)).size + av.size ≤ 9223372036854775807
      ·
       rw [if_pos c26] at H
       have eu := eq_true c26
       have ev : decide ((aq ++ (⟨#[32]⟩ : ByteArray)).size + av.size ≤ 9223372036854775807) = true := decide_eq_true c26
       try have ew : (9223372036854775807 < (aq ++ (⟨#[32]⟩ : ByteArray)).size + av.size) = False := eq_false (Nat.not_lt.2 c26)
       try have ex : (9223372036854775807 < aq.size + 1 + av.size) = False := eq_false (by have h := c26; simp only [ByteArray.size_append] at h; simp only [ByteArray.size] at h ⊢; simp at h ⊢; omega)
       by_cases c27 : ((aq ++ (⟨#[32]⟩ : ByteArray)) ++ av).size + 1 ≤ 9223372036854775807
       ·
        rw [if_pos c27] at H
        have ey := eq_true c27
        have ez : decide (((aq ++ (⟨#[32]⟩ : ByteArray)) ++ av).size + 1 ≤ 9223372036854775807) = true := decide_eq_true c27
        try have eA : (9223372036854775807 < ((aq ++ (⟨#[32]⟩ : ByteArray)) ++ av).size + 1) = False := eq_false (Nat.not_lt.2 c27)
        try have eB : (9223372036854775807 < aq.size + 1 + av.size + 1) = False := eq_false (by have h := c27; simp only [ByteArray.size_append] at h; simp only [ByteArray.size] at h ⊢; simp at h ⊢; omega)
        by_cases c28 : (((aq ++ (⟨#[32]⟩ : ByteArray)) ++ av) ++ (⟨#[32]⟩ : ByteArray)).size + aM.size ≤ 9223372036854775807
        ·
         rw [if_pos c28] at H
         have eC := eq_true c28
         have eD : decide ((((aq ++ (⟨#[32]⟩ : ByteArray)) ++ av) ++ (⟨#[32]⟩ : ByteArray)).size + aM.size ≤ 9223372036854775807) = true := decide_eq_true c28
         try have eE : (9223372036854775807 < (((aq ++ (⟨#[32]⟩ : ByteArray)) ++ av) ++ (⟨#[32]⟩ : ByteArray)).size + aM.size) = False := eq_false (Nat.not_lt.2 c28)
         try have eF : (9223372036854775807 < aq.size + 1 + av.size + 1 + aM.size) = False := eq_false (by have h := c28; simp only [ByteArray.size_append] at h; simp only [ByteArray.size] at h ⊢; simp at h ⊢; omega)
         obtain rfl := Option.some.inj H
         have br := cz_ ae 0
         have bs := cz_ ae 1
         have bu := cz_ ae 2
         have bv := blk_frozen ae.out 0
         have bw := blk_frozen ae.out 1
         have bx := blk_frozen ae.out 2
         try go_wp2
         replace ae := dB_ ae
         replace HB := Aside0.mk (ld_ HB.out)
         refine start_ (n := 12) (S := fun w' => w'.cell? ⟨aw, 0, none⟩ = some (.slice aR ap.length aU) ∧ w'.cell? ⟨aw, 1, none⟩ = some (.int .i64 a0_1) ∧ w'.cell? ⟨aw, 2, none⟩ = some (.slice be ai.length aX)) (ds := []) #[false, false, false, false, false, false, false, false, false, false, false, false] (by kernel_rfl) rfl rfl hh_ (fun hHeld => ?_); refine with_tabW spec_PlaceText.tab10 spec_PlaceText.bits10 (fun HT_ HW_ => ?_)
         generalize wr.drew = eN at ae HB hHeld ⊢
         refine pu_ 0 (some 31) #[true, false, false, false, false, false, false, false, false, false, false, false] HT_ rfl rfl ?_
         refine pu_ 4 (some 35) #[true, false, false, false, true, false, false, false, false, false, false, false] HT_ rfl rfl ?_
         refine pu_ 9 (some 40) #[true, false, false, false, true, false, false, false, false, true, false, false] HT_ rfl rfl ?_
         refine ta_ 1 (some 32) #[true, true, false, false, true, false, false, false, false, true, false, false] HT_ HW_ hHeld rfl rfl ?_
         refine ta_ 5 (some 36) #[true, true, false, false, true, true, false, false, false, true, false, false] HT_ HW_ hHeld rfl rfl ?_
         refine one_ (i := 2) (N := some 33) #[true, true, true, false, true, true, false, false, false, true, false, false] rfl rfl (one_of HT_.out (by kernel_rfl)) (by decide) (fun K hK => ?_)
         refine goes_ Tryd.func110 (by kernel_rfl) rfl #[.slice aR ap.length aU] (by rfl) rfl rfl tz_ ?_
         with_reducible refine (spec_l15Row.calls k1 _ _ ap aq _ ?s1 ?s2 A23.out).mono ?_
         (case s1 => exact tD_)
         (case s2 => exact bp.out)
         rintro e eO ⟨rfl, hb⟩
         refine ⟨_, rfl, ?_⟩
         replace ae := bb_ ae hb
         replace HB := bs_ HB hb
         (try clear hb)
         (try clear hb2)
         (try clear hk)
         (try clear hi)
         refine hK.out _ _ hh_ (fun hHeld => ?_)
         clear hK K
         refine nr_ 33 ?_
         refine pu_ 3 (some 34) #[true, true, true, true, true, true, false, false, false, true, false, false] HT_ rfl rfl ?_
         refine one_ (i := 6) (N := some 37) #[true, true, true, true, true, true, true, false, false, true, false, false] rfl rfl (one_of HT_.out (by kernel_rfl)) (by decide) (fun K hK => ?_)
         refine goes_ Tryd.func100 (by kernel_rfl) rfl #[.int .i64 a0_1] (by rfl) rfl rfl tz_ ?_
         with_reducible refine (spec_l15Step.calls k1 a0_1 av _ A25.out).mono ?_
         rintro e eU ⟨rfl, hb⟩
         refine ⟨_, rfl, ?_⟩
         replace ae := bb_ ae hb
         replace HB := bs_ HB hb
         (try clear hb)
         (try clear hb2)
         (try clear hk)
         (try clear hi)
         refine hK.out _ _ hh_ (fun hHeld => ?_)
         clear hK K
         refine nr_ 37 ?_
         refine pu_ 7 (some 38) #[true, true, true, true, true, true, true, true, false, true, false, false] HT_ rfl rfl ?_
         refine pu_ 8 (some 39) #[true, true, true, true, true, true, true, true, true, true, false, false] HT_ rfl rfl ?_
         refine pu_ 10 (some 41) #[true, true, true, true, true, true, true, true, true, true, true, false] HT_ rfl rfl ?_
         refine pu_ 11 (some 2) #[true, true, true, true, true, true, true, true, true, true, true, true] HT_ rfl rfl ?_
         refine done_ (done_of HT_.out (by kernel_rfl)) ?_
         try go_wp2
         go_ret
         exact ⟨tw_, (tb_ HB.out)⟩
        ·
         rw [if_neg c28] at H
         exact absurd H (by simp)
       ·
        rw [if_neg c27] at H
        exact absurd H (by simp)
      ·
       rw [if_neg c26] at H
       exact absurd H (by simp)
     ·
      rw [if_neg c24] at H
      exact absurd H (by simp)
 ·
  replace c3 := Bool.eq_false_iff.mpr c3
  subst c3
  have H1 : (some (⟨#[]⟩ : ByteArray)) = some r := by rw [if_neg (show ¬ (false = true) by decide)] at H; exact H
  clear H
  have H := H1
  clear H1
  obtain rfl := Option.some.inj H
  go_enter Tryd.func62, Tryd.ntmps62
  go_wp2_with (first | ((with_reducible refine gate_dst (N := 1) rfl ?_); refine box_event ?hg (N := 1) ?hd (cs := #[.slice aR ap.length aU, .int .i64 a0_1, .slice be ai.length aX]) (t := 25) ?hr ?_; (case hd => rfl); (case hg => rfl); (case hr => first | (go_simp; done) | (go_simp; rfl)); intro aw hg eV hbox hb; have ae := Aside0.mk (hbox); have bM := gx_ HB hg; have bN := gx_ HB hg; replace HB := bs_ HB hb; clear hb hbox hg; have b4 := cz_ ae 0; have b5 := cz_ ae 1; have b6 := cz_ ae 2; have b7 := blk_frozen ae.out 0; have b8 := blk_frozen ae.out 1; have b9 := blk_frozen ae.out 2) | ((with_reducible refine gate_callee (f := 73) rfl ?_); refine gl_ (some 6) Tryd.func73 #[.agg #[.slice aR ap.length aU, .int .i64 a0_1, .slice be ai.length aX]] ?_; (with_reducible refine (spec_PlaceOk.calls k _ _ ap a0_1 _ _ ai false _ ?s1 ?s2 ?s3 ?s4 A2.out).mono ?_); (case s1 => exact tD_); (case s2 => exact bp.out); (case s3 => exact tD_); (case s4 => exact bC.out); rintro e eP ⟨rfl, hb⟩; refine ⟨_, rfl, ?_⟩; replace ae := bb_ ae hb; replace HB := bs_ HB hb; (try clear hb); (try clear hb2); (try clear hk); (try clear hi)))
  go_ret
  exact ⟨tw_, (tb_ HB.out)⟩

/-! ### laws_FnPlaceText: function 14 -/
def laws_FnPlaceText.f (k : Nat) (l0 : List Int) : Option (Bool) := if (l0.length : Int) > 1048576 then (some true) else ((spec_DrawPlaceText.f k l0).bind fun am => ((impl_PlaceText.f k am.1 am.2.1 am.2.2).bind fun ao => ((spec_PlaceText.f k am.1 am.2.1 am.2.2).bind fun aD => (if ao.toList = aD.toList then (if ao.toList = ([] : List UInt8) then ((impl_PlaceOk.f k am.1 am.2.1 am.2.2).bind fun bq => (if bq = true then (some false) else ((laws_alive.f k).bind fun bj => (some bj)))) else ((impl_ReadPlace.f k ao).bind fun aE => (if aE.2.2.2 = true then ((laws_samePlace.f k aE.1 aE.2.1 aE.2.2.1 am.1 am.2.1 am.2.2).bind fun bk => (some bk)) else (some false)))) else (some false)))))
theorem laws_FnPlaceText.mono : ∀ a0 k, LeO (laws_FnPlaceText.f k a0) (laws_FnPlaceText.f (k + 1) a0) := by
 intro a0 k
 unfold laws_FnPlaceText.f
 repeat' (with_reducible first | exact impl_PlaceOk.mono _ _ _ _ | exact impl_PlaceText.mono _ _ _ _ | exact impl_ReadPlace.mono _ _ | exact laws_alive.mono _ | exact laws_samePlace.mono _ _ _ _ _ _ _ | exact spec_DrawPlaceText.mono _ _ | exact spec_PlaceText.mono _ _ _ _ | exact mr_ | exact mn_ | refine mi_ ?_ ?_ | refine mb_ ?_ (fun _ => ?_))
set_option maxHeartbeats 8000000 in
set_option maxRecDepth 100000 in
theorem laws_FnPlaceText.calls (k : Nat) (A0 : Option Addr) (c0 : Nat) (l0 : List Int) (r : Bool) (w : World) (hr0 : Kd.C (Kd.int .u8) w A0 l0.length l0) (hc0 : l0.length ≤ c0) (hG : GWb w) (h : laws_FnPlaceText.f k l0 = some r) :
  Calls Tryd.prog 14 #[.slice A0 l0.length c0] w fun e w' => e = .returned (.bool r) ∧ Below w.heap.size w w' := by
 have HG := Aside0.mk hG
 clear hG
 have hu25 := Tryd.underlying25
 have HR0 := Aside0.mk hr0
 have HC0 := Aside0.mk hc0
 clear hr0 hc0
 have HB := Aside0.mk (Below.refl w.heap.size w)
 have H : (if (l0.length : Int) > 1048576 then (some true) else ((spec_DrawPlaceText.f k l0).bind fun am => ((impl_PlaceText.f k am.1 am.2.1 am.2.2).bind fun ao => ((spec_PlaceText.f k am.1 am.2.1 am.2.2).bind fun aD => (if ao.toList = aD.toList then (if ao.toList = ([] : List UInt8) then ((impl_PlaceOk.f k am.1 am.2.1 am.2.2).bind fun bq => (if bq = true then (some false) else ((laws_alive.f k).bind fun bj => (some bj)))) else ((impl_ReadPlace.f k ao).bind fun aE => (if aE.2.2.2 = true then ((laws_samePlace.f k aE.1 aE.2.1 aE.2.2.1 am.1 am.2.1 am.2.2).bind fun bk => (some bk)) else (some false)))) else (some false)))))) = some r := h
 clear h
 by_cases c2 : (l0.length : Int) > 1048576
 ·
  rw [if_pos c2] at H
  have dI : decide (1048576 < (l0.length : Int)) = true := decide_eq_true c2
  have dJ : decide (1048576 < l0.length) = true := decide_eq_true (by omega)
  clear c2
  obtain rfl := Option.some.inj H
  go_enter Tryd.func14, Tryd.ntmps14
  go_wp2
  go_ret
  exact ⟨tw_, (tb_ HB.out)⟩
 ·
  rw [if_neg c2] at H
  have dI : decide (1048576 < (l0.length : Int)) = false := decide_eq_false c2
  have dJ : decide (1048576 < l0.length) = false := decide_eq_false (by omega)
  clear c2
  obtain ⟨⟨ag, aj, ah⟩, A3, H⟩ := bnd_ H
  try dsimp only at H
  obtain ⟨ao, A4, H⟩ := bnd_ H
  try dsimp only at H
  obtain ⟨aD, A5, H⟩ := bnd_ H
  try dsimp only at H
  by_cases c6 : ao.toList = aD.toList
  ·
   rw [if_pos c6] at H
   have dK : (ao.toList == aD.toList) = true := beq_iff_eq.mpr c6
   have dL : (ao.toList != aD.toList) = false := bne_eq_false_iff_eq.mpr c6
   clear c6
   by_cases c7 : ao.toList = ([] : List UInt8)
   ·
    rw [if_pos c7] at H
    have bL : (ao.toList == ([] : List UInt8)) = true := beq_iff_eq.mpr c7
    have dM : (ao.toList != ([] : List UInt8)) = false := bne_eq_false_iff_eq.mpr c7
    clear c7
    obtain ⟨bq, A8, H⟩ := bnd_ H
    try dsimp only at H
    by_cases c9 : bq = true
    ·
     subst c9
     have H1 : (some false) = some r := by rw [if_pos rfl] at H; exact H
     clear H
     have H := H1
     clear H1
     obtain rfl := Option.some.inj H
     go_enter Tryd.func14, Tryd.ntmps14
     go_wp2_with (first | ((with_reducible refine gate_callee (f := 61) rfl ?_); refine gl_ (some 11) Tryd.func61 #[.slice A0 l0.length c0] ?_; (with_reducible refine (spec_DrawPlaceText.calls k _ _ l0 ag aj ah _ ?s1 ?s2 A3.out).mono ?_); (case s1 => exact td_); (case s2 => exact HC0.out); rintro e eW ⟨bz, bB, rfl, ho0, ho1, hb⟩; refine ⟨_, rfl, ?_⟩; have ab := rx_ ho0 HB; have ac := rx_ ho1 HB; replace HB := bs_ HB hb; (try clear hb); (try clear hb2); (try clear hk); (try clear hi); (try clear ho0); (try clear ho1)) | ((with_reducible refine gate_dst (N := 3) rfl ?_); refine box_event ?hg (N := 3) ?hd (cs := #[.slice none 0 0, .int .i64 0, .slice none 0 0]) (t := 25) ?hr ?_; (case hd => rfl); (case hg => rfl); (case hr => first | (go_simp; done) | (go_simp; rfl)); intro ad hg eX hbox hb; replace ab := rb_ ab hb; replace ac := rb_ ac hb; have aa := Aside0.mk (hbox); have bm := gx_ HB hg; have bn := gx_ HB hg; replace HB := bs_ HB hb; clear hb hbox hg; obtain ⟨a7, aY, dN⟩ := Kd.R_slice ab.out; subst dN; have ca := cz_ aa 0; have cb := cz_ aa 1; have cc := cz_ aa 2; have cd := blk_frozen aa.out 0; have ce := blk_frozen aa.out 1; have cf := blk_frozen aa.out 2; obtain ⟨a8, aZ, dP⟩ := Kd.R_slice ac.out; subst dP) | ((with_reducible refine gate_callee (f := 60) rfl ?_); refine gl_ (some 13) Tryd.func60 #[.agg #[.slice a7 ag.length aY, .int .i64 aj, .slice a8 ah.length aZ]] ?_; (with_reducible refine (impl_PlaceText.calls k _ _ ag aj _ _ ah ao _ ?s1 ?s2 ?s3 ?s4 ?s5 A4.out).mono ?_); (case s1 => refine (Kd.R_reads' (e := 3) (base := w.heap.size) (ok := fun k_ => some k_ ≠ (.slice a8 ah.length aZ : Value).ownBlock) (n := ag.length) (c := aY) ?_).2.2; exact (by refine qR_ ?_; exact (Kd.R_mono (Kd.R_far (p := ⟨ad, 2, none⟩) (Kd.R_far (p := ⟨ad, 1, none⟩) (Kd.R_far (p := ⟨ad, 0, none⟩) (Kd.R_types ab.out aa.out (by decide)) (fun _ hk => hk.2) (.slice a7 ag.length aY)) (fun _ hk => hk.2) (.int .i64 aj)) (fun _ hk => hk.2) (.slice a8 ah.length aZ)) (fun _ h_ => h_.1)))); (case s2 => exact (Kd.R_reads' ab.out).2.1); (case s3 => refine (Kd.R_reads' (e := 3) (base := w.heap.size) (ok := fun k_ => some k_ ≠ (.slice a7 ag.length aY : Value).ownBlock) (n := ah.length) (c := aZ) ?_).2.2; exact (by refine qR_ ?_; exact (Kd.R_mono (Kd.R_far (p := ⟨ad, 2, none⟩) (Kd.R_far (p := ⟨ad, 1, none⟩) (Kd.R_far (p := ⟨ad, 0, none⟩) (Kd.R_types ac.out aa.out (by decide)) (fun _ hk => hk.2) (.slice a7 ag.length aY)) (fun _ hk => hk.2) (.int .i64 aj)) (fun _ hk => hk.2) (.slice a8 ah.length aZ)) (fun _ h_ => h_.1)))); (case s4 => exact (Kd.R_reads' ac.out).2.1); (case s5 => exact GWb.below HG.out (tb_ HB.out)); rintro e eL ⟨rfl, hb⟩; refine ⟨_, rfl, ?_⟩; replace ab := Aside0.mk (Kd.R_below (by refine qR_ ?_; exact (Kd.R_mono (Kd.R_far (p := ⟨ad, 2, none⟩) (Kd.R_far (p := ⟨ad, 1, none⟩) (Kd.R_far (p := ⟨ad, 0, none⟩) (Kd.R_types ab.out aa.out (by decide)) (fun _ hk => hk.2) (.slice a7 ag.length aY)) (fun _ hk => hk.2) (.int .i64 aj)) (fun _ hk => hk.2) (.slice a8 ah.length aZ)) (fun _ h_ => h_.1))) hb); replace ac := Aside0.mk (Kd.R_below (by refine qR_ ?_; exact (Kd.R_mono (Kd.R_far (p := ⟨ad, 2, none⟩) (Kd.R_far (p := ⟨ad, 1, none⟩) (Kd.R_far (p := ⟨ad, 0, none⟩) (Kd.R_types ac.out aa.out (by decide)) (fun _ hk => hk.2) (.slice a7 ag.length aY)) (fun _ hk => hk.2) (.int .i64 aj)) (fun _ hk => hk.2) (.slice a8 ah.length aZ)) (fun _ h_ => h_.1))) hb); replace aa := Aside0.mk (blk_below (g := ad) (o := .cells #[.slice a7 ag.length aY, .int .i64 aj, .slice a8 ah.length aZ] 25 (0, 0)) (ps_ aa.out) hb); replace HB := bs_ HB hb; (try clear hb); (try clear hb2); (try clear hk); (try clear hi); have cg := cz_ aa 0; have ch := cz_ aa 1; have ci := cz_ aa 2; have cj := blk_frozen aa.out 0; have ck := blk_frozen aa.out 1; have cl := blk_frozen aa.out 2) | ((with_reducible refine gate_callee (f := 62) rfl ?_); refine gl_ (some 16) Tryd.func62 #[.agg #[.slice a7 ag.length aY, .int .i64 aj, .slice a8 ah.length aZ]] ?_; (with_reducible refine (spec_PlaceText.calls k _ _ ag aj _ _ ah aD _ ?s1 ?s2 ?s3 ?s4 A5.out).mono ?_); (case s1 => repeat (first | exact (Kd.R_reads' ab.out).2.2 | (with_reducible refine Kd.C_alloc ?_ _) | (with_reducible refine Kd.C_drewN ?_ _) | (with_reducible refine Kd.C_drew ?_))); (case s2 => exact (Kd.R_reads' ab.out).2.1); (case s3 => repeat (first | exact (Kd.R_reads' ac.out).2.2 | (with_reducible refine Kd.C_alloc ?_ _) | (with_reducible refine Kd.C_drewN ?_ _) | (with_reducible refine Kd.C_drew ?_))); (case s4 => exact (Kd.R_reads' ac.out).2.1); rintro e eY ⟨rfl, hb⟩; refine ⟨_, rfl, ?_⟩; replace ab := rb_ ab hb; replace ac := rb_ ac hb; replace aa := bb_ aa hb; replace HB := bs_ HB hb; (try clear hb); (try clear hb2); (try clear hk); (try clear hi); have cm := cz_ aa 0; have cn := cz_ aa 1; have co := cz_ aa 2; have cp := blk_frozen aa.out 0; have cq := blk_frozen aa.out 1; have cr := blk_frozen aa.out 2) | ((with_reducible refine gate_callee (f := 63) rfl ?_); refine gl_ (some 21) Tryd.func63 #[.agg #[.slice a7 ag.length aY, .int .i64 aj, .slice a8 ah.length aZ]] ?_; (with_reducible refine (impl_PlaceOk.calls k _ _ ag aj _ _ ah true _ ?s1 ?s2 ?s3 ?s4 A8.out).mono ?_); (case s1 => repeat (first | exact (Kd.R_reads' ab.out).2.2 | (with_reducible refine Kd.C_alloc ?_ _) | (with_reducible refine Kd.C_drewN ?_ _) | (with_reducible refine Kd.C_drew ?_))); (case s2 => exact (Kd.R_reads' ab.out).2.1); (case s3 => repeat (first | exact (Kd.R_reads' ac.out).2.2 | (with_reducible refine Kd.C_alloc ?_ _) | (with_reducible refine Kd.C_drewN ?_ _) | (with_reducible refine Kd.C_drew ?_))); (case s4 => exact (Kd.R_reads' ac.out).2.1); rintro e eZ ⟨rfl, hb⟩; refine ⟨_, rfl, ?_⟩; replace ab := rb_ ab hb; replace ac := rb_ ac hb; replace aa := bb_ aa hb; replace HB := bs_ HB hb; (try clear hb); (try clear hb2); (try clear hk); (try clear hi)))
     go_ret
     exact ⟨tw_, (tb_ HB.out)⟩
    ·
     replace c9 := Bool.eq_false_iff.mpr c9
     subst c9
     have H1 : ((laws_alive.f k).bind fun bj => (some bj)) = some r := by rw [if_neg (show ¬ (false = true) by decide)] at H; exact H
     clear H
     have H := H1
     clear H1
     obtain ⟨bj, A20, H⟩ := bnd_ H
     try dsimp only at H
     obtain rfl := Option.some.inj H
     go_enter Tryd.func14, Tryd.ntmps14
     go_wp2_with (first | ((with_reducible refine gate_callee (f := 61) rfl ?_); refine gl_ (some 11) Tryd.func61 #[.slice A0 l0.length c0] ?_; (with_reducible refine (spec_DrawPlaceText.calls k _ _ l0 ag aj ah _ ?s1 ?s2 A3.out).mono ?_); (case s1 => exact td_); (case s2 => exact HC0.out); rintro e e0 ⟨bz, bB, rfl, ho0, ho1, hb⟩; refine ⟨_, rfl, ?_⟩; have ab := rx_ ho0 HB; have ac := rx_ ho1 HB; replace HB := bs_ HB hb; (try clear hb); (try clear hb2); (try clear hk); (try clear hi); (try clear ho0); (try clear ho1)) | ((with_reducible refine gate_dst (N := 3) rfl ?_); refine box_event ?hg (N := 3) ?hd (cs := #[.slice none 0 0, .int .i64 0, .slice none 0 0]) (t := 25) ?hr ?_; (case hd => rfl); (case hg => rfl); (case hr => first | (go_simp; done) | (go_simp; rfl)); intro ad hg eM hbox hb; replace ab := rb_ ab hb; replace ac := rb_ ac hb; have aa := Aside0.mk (hbox); have bm := gx_ HB hg; have bn := gx_ HB hg; replace HB := bs_ HB hb; clear hb hbox hg; obtain ⟨a3, aV, dQ⟩ := Kd.R_slice ab.out; subst dQ; have ct := cz_ aa 0; have cu := cz_ aa 1; have cv := cz_ aa 2; have cw := blk_frozen aa.out 0; have cx := blk_frozen aa.out 1; have cy := blk_frozen aa.out 2; obtain ⟨a4, aW, dR⟩ := Kd.R_slice ac.out; subst dR) | ((with_reducible refine gate_callee (f := 60) rfl ?_); refine gl_ (some 13) Tryd.func60 #[.agg #[.slice a3 ag.length aV, .int .i64 aj, .slice a4 ah.length aW]] ?_; (with_reducible refine (impl_PlaceText.calls k _ _ ag aj _ _ ah ao _ ?s1 ?s2 ?s3 ?s4 ?s5 A4.out).mono ?_); (case s1 => refine (Kd.R_reads' (e := 3) (base := w.heap.size) (ok := fun k_ => some k_ ≠ (.slice a4 ah.length aW : Value).ownBlock) (n := ag.length) (c := aV) ?_).2.2; exact (by refine qR_ ?_; exact (Kd.R_mono (Kd.R_far (p := ⟨ad, 2, none⟩) (Kd.R_far (p := ⟨ad, 1, none⟩) (Kd.R_far (p := ⟨ad, 0, none⟩) (Kd.R_types ab.out aa.out (by decide)) (fun _ hk => hk.2) (.slice a3 ag.length aV)) (fun _ hk => hk.2) (.int .i64 aj)) (fun _ hk => hk.2) (.slice a4 ah.length aW)) (fun _ h_ => h_.1)))); (case s2 => exact (Kd.R_reads' ab.out).2.1); (case s3 => refine (Kd.R_reads' (e := 3) (base := w.heap.size) (ok := fun k_ => some k_ ≠ (.slice a3 ag.length aV : Value).ownBlock) (n := ah.length) (c := aW) ?_).2.2; exact (by refine qR_ ?_; exact (Kd.R_mono (Kd.R_far (p := ⟨ad, 2, none⟩) (Kd.R_far (p := ⟨ad, 1, none⟩) (Kd.R_far (p := ⟨ad, 0, none⟩) (Kd.R_types ac.out aa.out (by decide)) (fun _ hk => hk.2) (.slice a3 ag.length aV)) (fun _ hk => hk.2) (.int .i64 aj)) (fun _ hk => hk.2) (.slice a4 ah.length aW)) (fun _ h_ => h_.1)))); (case s4 => exact (Kd.R_reads' ac.out).2.1); (case s5 => exact GWb.below HG.out (tb_ HB.out)); rintro e e1 ⟨rfl, hb⟩; refine ⟨_, rfl, ?_⟩; replace ab := Aside0.mk (Kd.R_below (by refine qR_ ?_; exact (Kd.R_mono (Kd.R_far (p := ⟨ad, 2, none⟩) (Kd.R_far (p := ⟨ad, 1, none⟩) (Kd.R_far (p := ⟨ad, 0, none⟩) (Kd.R_types ab.out aa.out (by decide)) (fun _ hk => hk.2) (.slice a3 ag.length aV)) (fun _ hk => hk.2) (.int .i64 aj)) (fun _ hk => hk.2) (.slice a4 ah.length aW)) (fun _ h_ => h_.1))) hb); replace ac := Aside0.mk (Kd.R_below (by refine qR_ ?_; exact (Kd.R_mono (Kd.R_far (p := ⟨ad, 2, none⟩) (Kd.R_far (p := ⟨ad, 1, none⟩) (Kd.R_far (p := ⟨ad, 0, none⟩) (Kd.R_types ac.out aa.out (by decide)) (fun _ hk => hk.2) (.slice a3 ag.length aV)) (fun _ hk => hk.2) (.int .i64 aj)) (fun _ hk => hk.2) (.slice a4 ah.length aW)) (fun _ h_ => h_.1))) hb); replace aa := Aside0.mk (blk_below (g := ad) (o := .cells #[.slice a3 ag.length aV, .int .i64 aj, .slice a4 ah.length aW] 25 (0, 0)) (ps_ aa.out) hb); replace HB := bs_ HB hb; (try clear hb); (try clear hb2); (try clear hk); (try clear hi); have cz := cz_ aa 0; have cA := cz_ aa 1; have cB := cz_ aa 2; have cC := blk_frozen aa.out 0; have cD := blk_frozen aa.out 1; have cE := blk_frozen aa.out 2) | ((with_reducible refine gate_callee (f := 62) rfl ?_); refine gl_ (some 16) Tryd.func62 #[.agg #[.slice a3 ag.length aV, .int .i64 aj, .slice a4 ah.length aW]] ?_; (with_reducible refine (spec_PlaceText.calls k _ _ ag aj _ _ ah aD _ ?s1 ?s2 ?s3 ?s4 A5.out).mono ?_); (case s1 => repeat (first | exact (Kd.R_reads' ab.out).2.2 | (with_reducible refine Kd.C_alloc ?_ _) | (with_reducible refine Kd.C_drewN ?_ _) | (with_reducible refine Kd.C_drew ?_))); (case s2 => exact (Kd.R_reads' ab.out).2.1); (case s3 => repeat (first | exact (Kd.R_reads' ac.out).2.2 | (with_reducible refine Kd.C_alloc ?_ _) | (with_reducible refine Kd.C_drewN ?_ _) | (with_reducible refine Kd.C_drew ?_))); (case s4 => exact (Kd.R_reads' ac.out).2.1); rintro e e2 ⟨rfl, hb⟩; refine ⟨_, rfl, ?_⟩; replace ab := rb_ ab hb; replace ac := rb_ ac hb; replace aa := bb_ aa hb; replace HB := bs_ HB hb; (try clear hb); (try clear hb2); (try clear hk); (try clear hi); have br := cz_ aa 0; have bs := cz_ aa 1; have bu := cz_ aa 2; have bv := blk_frozen aa.out 0; have bw := blk_frozen aa.out 1; have bx := blk_frozen aa.out 2) | ((with_reducible refine gate_callee (f := 63) rfl ?_); refine gl_ (some 21) Tryd.func63 #[.agg #[.slice a3 ag.length aV, .int .i64 aj, .slice a4 ah.length aW]] ?_; (with_reducible refine (impl_PlaceOk.calls k _ _ ag aj _ _ ah false _ ?s1 ?s2 ?s3 ?s4 A8.out).mono ?_); (case s1 => repeat (first | exact (Kd.R_reads' ab.out).2.2 | (with_reducible refine Kd.C_alloc ?_ _) | (with_reducible refine Kd.C_drewN ?_ _) | (with_reducible refine Kd.C_drew ?_))); (case s2 => exact (Kd.R_reads' ab.out).2.1); (case s3 => repeat (first | exact (Kd.R_reads' ac.out).2.2 | (with_reducible refine Kd.C_alloc ?_ _) | (with_reducible refine Kd.C_drewN ?_ _) | (with_reducible refine Kd.C_drew ?_))); (case s4 => exact (Kd.R_reads' ac.out).2.1); rintro e eN ⟨rfl, hb⟩; refine ⟨_, rfl, ?_⟩; replace ab := rb_ ab hb; replace ac := rb_ ac hb; replace aa := bb_ aa hb; replace HB := bs_ HB hb; (try clear hb); (try clear hb2); (try clear hk); (try clear hi)) | (go_at_call 20; (with_reducible refine (laws_alive.calls k  bj _ A20.out).mono ?_); rintro e eO ⟨rfl, hb⟩; have n0_ := Aside0.mk (Kd.R_below (rR_ ab.out) hb); have n1_ := Aside0.mk (Kd.R_below (rR_ ac.out) hb); have n2_ := Aside0.mk (blk_below (g := ad) (o := .cells #[.slice a3 ag.length aV, .int .i64 aj, .slice a4 ah.length aW] 25 (0, 0)) (tk_ aa.out) hb); have n3_ := Aside0.mk (below_step (tb_ HB.out) hb); clear ab ac aa HB; have ab := n0_; have ac := n1_; have aa := n2_; have HB := n3_; clear n0_ n1_ n2_ n3_; (try clear hb); (try clear hb2); (try clear hk); (try clear hi)))
     go_ret
     exact ⟨tw_, (tb_ HB.out)⟩
   ·
    rw [if_neg c7] at H
    have bL : (ao.toList == ([] : List UInt8)) = false := beq_eq_false_iff_ne.mpr c7
    have dM : (ao.toList != ([] : List UInt8)) = true := bne_iff_ne.mpr c7
    obtain ⟨⟨ax, aH, ay, dS⟩, A32, H⟩ := bnd_ H
    try dsimp only at H
    by_cases c33 : dS = true
    ·
     subst c33
     have H1 : ((laws_samePlace.f k ax aH ay ag aj ah).bind fun bk => (some bk)) = some r := by rw [if_pos rfl] at H; exact H
     clear H
     have H := H1
     clear H1
     obtain ⟨bk, A34, H⟩ := bnd_ H
     try dsimp only at H
     obtain rfl := Option.some.inj H
     go_enter Tryd.func14, Tryd.ntmps14
     go_wp2_with (first | ((with_reducible refine gate_callee (f := 61) rfl ?_); refine gl_ (some 11) Tryd.func61 #[.slice A0 l0.length c0] ?_; (with_reducible refine (spec_DrawPlaceText.calls k _ _ l0 ag aj ah _ ?s1 ?s2 A3.out).mono ?_); (case s1 => exact td_); (case s2 => exact HC0.out); rintro e eP ⟨bz, bB, rfl, ho0, ho1, hb⟩; refine ⟨_, rfl, ?_⟩; have ab := rx_ ho0 HB; have ac := rx_ ho1 HB; replace HB := bs_ HB hb; (try clear hb); (try clear hb2); (try clear hk); (try clear hi); (try clear ho0); (try clear ho1)) | ((with_reducible refine gate_dst (N := 3) rfl ?_); refine box_event ?hg (N := 3) ?hd (cs := #[.slice none 0 0, .int .i64 0, .slice none 0 0]) (t := 25) ?hr ?_; (case hd => rfl); (case hg => rfl); (case hr => first | (go_simp; done) | (go_simp; rfl)); intro ad hg e3 hbox hb; replace ab := rb_ ab hb; replace ac := rb_ ac hb; have aa := Aside0.mk (hbox); have bm := gx_ HB hg; have bn := gx_ HB hg; replace HB := bs_ HB hb; clear hb hbox hg; obtain ⟨aN, aF, dT⟩ := Kd.R_slice ab.out; subst dT; have cF := cz_ aa 0; have cG := cz_ aa 1; have cH := cz_ aa 2; have cI := blk_frozen aa.out 0; have cJ := blk_frozen aa.out 1; have cK := blk_frozen aa.out 2; obtain ⟨aO, aG, dU⟩ := Kd.R_slice ac.out; subst dU) | ((with_reducible refine gate_callee (f := 60) rfl ?_); refine gl_ (some 13) Tryd.func60 #[.agg #[.slice aN ag.length aF, .int .i64 aj, .slice aO ah.length aG]] ?_; (with_reducible refine (impl_PlaceText.calls k _ _ ag aj _ _ ah ao _ ?s1 ?s2 ?s3 ?s4 ?s5 A4.out).mono ?_); (case s1 => refine (Kd.R_reads' (e := 3) (base := w.heap.size) (ok := fun k_ => some k_ ≠ (.slice aO ah.length aG : Value).ownBlock) (n := ag.length) (c := aF) ?_).2.2; exact (by refine qR_ ?_; exact (Kd.R_mono (Kd.R_far (p := ⟨ad, 2, none⟩) (Kd.R_far (p := ⟨ad, 1, none⟩) (Kd.R_far (p := ⟨ad, 0, none⟩) (Kd.R_types ab.out aa.out (by decide)) (fun _ hk => hk.2) (.slice aN ag.length aF)) (fun _ hk => hk.2) (.int .i64 aj)) (fun _ hk => hk.2) (.slice aO ah.length aG)) (fun _ h_ => h_.1)))); (case s2 => exact (Kd.R_reads' ab.out).2.1); (case s3 => refine (Kd.R_reads' (e := 3) (base := w.heap.size) (ok := fun k_ => some k_ ≠ (.slice aN ag.length aF : Value).ownBlock) (n := ah.length) (c := aG) ?_).2.2; exact (by refine qR_ ?_; exact (Kd.R_mono (Kd.R_far (p := ⟨ad, 2, none⟩) (Kd.R_far (p := ⟨ad, 1, none⟩) (Kd.R_far (p := ⟨ad, 0, none⟩) (Kd.R_types ac.out aa.out (by decide)) (fun _ hk => hk.2) (.slice aN ag.length aF)) (fun _ hk => hk.2) (.int .i64 aj)) (fun _ hk => hk.2) (.slice aO ah.length aG)) (fun _ h_ => h_.1)))); (case s4 => exact (Kd.R_reads' ac.out).2.1); (case s5 => exact GWb.below HG.out (tb_ HB.out)); rintro e e4 ⟨rfl, hb⟩; refine ⟨_, rfl, ?_⟩; replace ab := Aside0.mk (Kd.R_below (by refine qR_ ?_; exact (Kd.R_mono (Kd.R_far (p := ⟨ad, 2, none⟩) (Kd.R_far (p := ⟨ad, 1, none⟩) (Kd.R_far (p := ⟨ad, 0, none⟩) (Kd.R_types ab.out aa.out (by decide)) (fun _ hk => hk.2) (.slice aN ag.length aF)) (fun _ hk => hk.2) (.int .i64 aj)) (fun _ hk => hk.2) (.slice aO ah.length aG)) (fun _ h_ => h_.1))) hb); replace ac := Aside0.mk (Kd.R_below (by refine qR_ ?_; exact (Kd.R_mono (Kd.R_far (p := ⟨ad, 2, none⟩) (Kd.R_far (p := ⟨ad, 1, none⟩) (Kd.R_far (p := ⟨ad, 0, none⟩) (Kd.R_types ac.out aa.out (by decide)) (fun _ hk => hk.2) (.slice aN ag.length aF)) (fun _ hk => hk.2) (.int .i64 aj)) (fun _ hk => hk.2) (.slice aO ah.length aG)) (fun _ h_ => h_.1))) hb); replace aa := Aside0.mk (blk_below (g := ad) (o := .cells #[.slice aN ag.length aF, .int .i64 aj, .slice aO ah.length aG] 25 (0, 0)) (ps_ aa.out) hb); replace HB := bs_ HB hb; (try clear hb); (try clear hb2); (try clear hk); (try clear hi); have cL := cz_ aa 0; have cM := cz_ aa 1; have cN := cz_ aa 2; have cO := blk_frozen aa.out 0; have cP := blk_frozen aa.out 1; have cQ := blk_frozen aa.out 2) | ((with_reducible refine gate_callee (f := 62) rfl ?_); refine gl_ (some 16) Tryd.func62 #[.agg #[.slice aN ag.length aF, .int .i64 aj, .slice aO ah.length aG]] ?_; (with_reducible refine (spec_PlaceText.calls k _ _ ag aj _ _ ah aD _ ?s1 ?s2 ?s3 ?s4 A5.out).mono ?_); (case s1 => repeat (first | exact (Kd.R_reads' ab.out).2.2 | (with_reducible refine Kd.C_alloc ?_ _) | (with_reducible refine Kd.C_drewN ?_ _) | (with_reducible refine Kd.C_drew ?_))); (case s2 => exact (Kd.R_reads' ab.out).2.1); (case s3 => repeat (first | exact (Kd.R_reads' ac.out).2.2 | (with_reducible refine Kd.C_alloc ?_ _) | (with_reducible refine Kd.C_drewN ?_ _) | (with_reducible refine Kd.C_drew ?_))); (case s4 => exact (Kd.R_reads' ac.out).2.1); rintro e e5 ⟨rfl, hb⟩; refine ⟨_, rfl, ?_⟩; replace ab := rb_ ab hb; replace ac := rb_ ac hb; replace aa := bb_ aa hb; replace HB := bs_ HB hb; (try clear hb); (try clear hb2); (try clear hk); (try clear hi)) | ((with_reducible refine gate_callee (f := 54) rfl ?_); refine gl_ (some 28) Tryd.func54 #[.string ao] ?_; (with_reducible refine (impl_ReadPlace.calls k ao ax aH ay true _ ?s1 A32.out).mono ?_); (case s1 => exact GWb.below HG.out (tb_ HB.out)); rintro e e6 ⟨dV, dW, rfl, ho0, ho1, hb⟩; refine ⟨_, rfl, ?_⟩; have ar := Aside0.mk (Kd.R_lower (Kd.R_new' (Kd.R_new' ho0 (Kd.R_lt (rR_ ab.out))) (Kd.R_lt (rR_ ac.out))) (below_size (tb_ HB.out))); have au := Aside0.mk (Kd.R_lower (Kd.R_new' (Kd.R_new' ho1 (Kd.R_lt (rR_ ab.out))) (Kd.R_lt (rR_ ac.out))) (below_size (tb_ HB.out))); replace ab := Aside0.mk (Kd.R_mono (Kd.R_told (Kd.R_told (Kd.R_old (rR_ ab.out) hb) (Kd.R_base ho0)) (Kd.R_base ho1)) (fun _ h_ => h_.1)); replace ac := Aside0.mk (Kd.R_mono (Kd.R_told (Kd.R_told (Kd.R_old (rR_ ac.out) hb) (Kd.R_base ho0)) (Kd.R_base ho1)) (fun _ h_ => h_.1)); replace aa := bb_ aa hb; replace HB := bs_ HB hb; (try clear hb); (try clear hb2); (try clear hk); (try clear hi); (try clear ho0); (try clear ho1)) | ((with_reducible refine gate_dst (N := 5) rfl ?_); refine box_event ?hg (N := 5) ?hd (cs := #[.slice none 0 0, .int .i64 0, .slice none 0 0]) (t := 25) ?hr ?_; (case hd => rfl); (case hg => rfl); (case hr => first | (go_simp; done) | (go_simp; rfl)); intro al hg e7 hbox hb; replace ab := rb_ ab hb; replace ac := rb_ ac hb; replace ar := rb_ ar hb; replace au := rb_ au hb; have an := Aside0.mk (hbox); have bO := gx_ HB hg; have bP := gx_ HB hg; replace HB := bs_ HB hb; have aI := nl_ aa hg; have aJ := ng_ aa hg; replace aa := bb_ aa hb; clear hb hbox hg; obtain ⟨aP, aK, dX⟩ := Kd.R_slice ar.out; subst dX; have eG := aJ.out; have eH := aI.out; have cR := cz_ an 0; have cS := cz_ an 1; have cT := cz_ an 2; have cU := blk_frozen an.out 0; have cV := blk_frozen an.out 1; have cW := blk_frozen an.out 2; obtain ⟨aQ, aL, dY⟩ := Kd.R_slice au.out; subst dY; have cX := cz_ aa 0; have cY := cz_ aa 1; have cZ := cz_ aa 2; have c1 := blk_frozen aa.out 0; have c4 := blk_frozen aa.out 1; have c5 := blk_frozen aa.out 2) | (go_at_call 59; (with_reducible refine (laws_samePlace.calls k _ _ ax aH _ _ ay _ _ ag aj _ _ ah bk _ ?s1 ?s2 ?s3 ?s4 ?s5 ?s6 ?s7 ?s8 A34.out).mono ?_); (case s1 => refine (Kd.R_reads' (e := 3) (base := w.heap.size) (ok := fun k_ => ((some k_ ≠ (.slice aQ ay.length aL : Value).ownBlock ∧ some k_ ≠ (.slice aN ag.length aF : Value).ownBlock) ∧ some k_ ≠ (.slice aO ah.length aG : Value).ownBlock)) (n := ax.length) (c := aK) ?_).2.2; exact (by refine qR_ ?_; exact (Kd.R_mono (Kd.R_far (p := ⟨al, 2, none⟩) (Kd.R_far (p := ⟨al, 1, none⟩) (Kd.R_far (p := ⟨al, 0, none⟩) (Kd.R_types ar.out an.out (by decide)) (fun _ hk => hk.2) (.slice aP ax.length aK)) (fun _ hk => hk.2) (.int .i64 aH)) (fun _ hk => hk.2) (.slice aQ ay.length aL)) (fun _ h_ => h_.1)))); (case s2 => exact (Kd.R_reads' ar.out).2.1); (case s3 => refine (Kd.R_reads' (e := 3) (base := w.heap.size) (ok := fun k_ => ((some k_ ≠ (.slice aP ax.length aK : Value).ownBlock ∧ some k_ ≠ (.slice aN ag.length aF : Value).ownBlock) ∧ some k_ ≠ (.slice aO ah.length aG : Value).ownBlock)) (n := ay.length) (c := aL) ?_).2.2; exact (by refine qR_ ?_; exact (Kd.R_mono (Kd.R_far (p := ⟨al, 2, none⟩) (Kd.R_far (p := ⟨al, 1, none⟩) (Kd.R_far (p := ⟨al, 0, none⟩) (Kd.R_types au.out an.out (by decide)) (fun _ hk => hk.2) (.slice aP ax.length aK)) (fun _ hk => hk.2) (.int .i64 aH)) (fun _ hk => hk.2) (.slice aQ ay.length aL)) (fun _ h_ => h_.1)))); (case s4 => exact (Kd.R_reads' au.out).2.1); (case s5 => refine (Kd.R_reads' (e := 3) (base := w.heap.size) (ok := fun k_ => ((some k_ ≠ (.slice aO ah.length aG : Value).ownBlock ∧ some k_ ≠ (.slice aP ax.length aK : Value).ownBlock) ∧ some k_ ≠ (.slice aQ ay.length aL : Value).ownBlock)) (n := ag.length) (c := aF) ?_).2.2; exact (by refine qR_ ?_; exact (Kd.R_mono (Kd.R_far (p := ⟨al, 2, none⟩) (Kd.R_far (p := ⟨al, 1, none⟩) (Kd.R_far (p := ⟨al, 0, none⟩) (Kd.R_types ab.out an.out (by decide)) (fun _ hk => hk.2) (.slice aP ax.length aK)) (fun _ hk => hk.2) (.int .i64 aH)) (fun _ hk => hk.2) (.slice aQ ay.length aL)) (fun _ h_ => h_.1)))); (case s6 => exact (Kd.R_reads' ab.out).2.1); (case s7 => refine (Kd.R_reads' (e := 3) (base := w.heap.size) (ok := fun k_ => ((some k_ ≠ (.slice aN ag.length aF : Value).ownBlock ∧ some k_ ≠ (.slice aP ax.length aK : Value).ownBlock) ∧ some k_ ≠ (.slice aQ ay.length aL : Value).ownBlock)) (n := ah.length) (c := aG) ?_).2.2; exact (by refine qR_ ?_; exact (Kd.R_mono (Kd.R_far (p := ⟨al, 2, none⟩) (Kd.R_far (p := ⟨al, 1, none⟩) (Kd.R_far (p := ⟨al, 0, none⟩) (Kd.R_types ac.out an.out (by decide)) (fun _ hk => hk.2) (.slice aP ax.length aK)) (fun _ hk => hk.2) (.int .i64 aH)) (fun _ hk => hk.2) (.slice aQ ay.length aL)) (fun _ h_ => h_.1)))); (case s8 => exact (Kd.R_reads' ac.out).2.1); rintro e e8 ⟨rfl, hb⟩; have n0_ := Aside0.mk (Kd.R_below (by refine qR_ ?_; exact (Kd.R_mono (Kd.R_far (p := ⟨al, 2, none⟩) (Kd.R_far (p := ⟨al, 1, none⟩) (Kd.R_far (p := ⟨al, 0, none⟩) (Kd.R_types ab.out an.out (by decide)) (fun _ hk => hk.2) (.slice aP ax.length aK)) (fun _ hk => hk.2) (.int .i64 aH)) (fun _ hk => hk.2) (.slice aQ ay.length aL)) (fun _ h_ => h_.1))) hb); have n1_ := Aside0.mk (Kd.R_below (by refine qR_ ?_; exact (Kd.R_mono (Kd.R_far (p := ⟨al, 2, none⟩) (Kd.R_far (p := ⟨al, 1, none⟩) (Kd.R_far (p := ⟨al, 0, none⟩) (Kd.R_types ac.out an.out (by decide)) (fun _ hk => hk.2) (.slice aP ax.length aK)) (fun _ hk => hk.2) (.int .i64 aH)) (fun _ hk => hk.2) (.slice aQ ay.length aL)) (fun _ h_ => h_.1))) hb); have n2_ := Aside0.mk (Kd.R_below (by refine qR_ ?_; exact (Kd.R_mono (Kd.R_far (p := ⟨al, 2, none⟩) (Kd.R_far (p := ⟨al, 1, none⟩) (Kd.R_far (p := ⟨al, 0, none⟩) (Kd.R_types ar.out an.out (by decide)) (fun _ hk => hk.2) (.slice aP ax.length aK)) (fun _ hk => hk.2) (.int .i64 aH)) (fun _ hk => hk.2) (.slice aQ ay.length aL)) (fun _ h_ => h_.1))) hb); have n3_ := Aside0.mk (Kd.R_below (by refine qR_ ?_; exact (Kd.R_mono (Kd.R_far (p := ⟨al, 2, none⟩) (Kd.R_far (p := ⟨al, 1, none⟩) (Kd.R_far (p := ⟨al, 0, none⟩) (Kd.R_types au.out an.out (by decide)) (fun _ hk => hk.2) (.slice aP ax.length aK)) (fun _ hk => hk.2) (.int .i64 aH)) (fun _ hk => hk.2) (.slice aQ ay.length aL)) (fun _ h_ => h_.1))) hb); have n4_ := Aside0.mk (blk_below (g := ad) (o := .cells #[.slice aN ag.length aF, .int .i64 aj, .slice aO ah.length aG] 25 (0, 0)) (tk_ aa.out) hb); have n5_ := Aside0.mk (blk_below (g := al) (o := .cells #[.slice aP ax.length aK, .int .i64 aH, .slice aQ ay.length aL] 25 (0, 0)) (ps_ an.out) hb); have n6_ := Aside0.mk (below_step (tb_ HB.out) hb); clear ab ac ar au aa an HB; have ab := n0_; have ac := n1_; have ar := n2_; have au := n3_; have aa := n4_; have an := n5_; have HB := n6_; clear n0_ n1_ n2_ n3_ n4_ n5_ n6_; (try clear hb); (try clear hb2); (try clear hk); (try clear hi)))
     go_ret
     exact ⟨tw_, (tb_ HB.out)⟩
    ·
     replace c33 := Bool.eq_false_iff.mpr c33
     subst c33
     have H1 : (some false) = some r := by rw [if_neg (show ¬ (false = true) by decide)] at H; exact H
     clear H
     have H := H1
     clear H1
     obtain rfl := Option.some.inj H
     go_enter Tryd.func14, Tryd.ntmps14
     go_wp2_with (first | ((with_reducible refine gate_callee (f := 61) rfl ?_); refine gl_ (some 11) Tryd.func61 #[.slice A0 l0.length c0] ?_; (with_reducible refine (spec_DrawPlaceText.calls k _ _ l0 ag aj ah _ ?s1 ?s2 A3.out).mono ?_); (case s1 => exact td_); (case s2 => exact HC0.out); rintro e e9 ⟨bz, bB, rfl, ho0, ho1, hb⟩; refine ⟨_, rfl, ?_⟩; have ab := rx_ ho0 HB; have ac := rx_ ho1 HB; replace HB := bs_ HB hb; (try clear hb); (try clear hb2); (try clear hk); (try clear hi); (try clear ho0); (try clear ho1)) | ((with_reducible refine gate_dst (N := 3) rfl ?_); refine box_event ?hg (N := 3) ?hd (cs := #[.slice none 0 0, .int .i64 0, .slice none 0 0]) (t := 25) ?hr ?_; (case hd => rfl); (case hg => rfl); (case hr => first | (go_simp; done) | (go_simp; rfl)); intro ad hg fa hbox hb; replace ab := rb_ ab hb; replace ac := rb_ ac hb; have aa := Aside0.mk (hbox); have bm := gx_ HB hg; have bn := gx_ HB hg; replace HB := bs_ HB hb; clear hb hbox hg; obtain ⟨bf, a9, dZ⟩ := Kd.R_slice ab.out; subst dZ; have da := cz_ aa 0; have db := cz_ aa 1; have dc := cz_ aa 2; have dd := blk_frozen aa.out 0; have de := blk_frozen aa.out 1; have df := blk_frozen aa.out 2; obtain ⟨bg, bb, d0⟩ := Kd.R_slice ac.out; subst d0) | ((with_reducible refine gate_callee (f := 60) rfl ?_); refine gl_ (some 13) Tryd.func60 #[.agg #[.slice bf ag.length a9, .int .i64 aj, .slice bg ah.length bb]] ?_; (with_reducible refine (impl_PlaceText.calls k _ _ ag aj _ _ ah ao _ ?s1 ?s2 ?s3 ?s4 ?s5 A4.out).mono ?_); (case s1 => refine (Kd.R_reads' (e := 3) (base := w.heap.size) (ok := fun k_ => some k_ ≠ (.slice bg ah.length bb : Value).ownBlock) (n := ag.length) (c := a9) ?_).2.2; exact (by refine qR_ ?_; exact (Kd.R_mono (Kd.R_far (p := ⟨ad, 2, none⟩) (Kd.R_far (p := ⟨ad, 1, none⟩) (Kd.R_far (p := ⟨ad, 0, none⟩) (Kd.R_types ab.out aa.out (by decide)) (fun _ hk => hk.2) (.slice bf ag.length a9)) (fun _ hk => hk.2) (.int .i64 aj)) (fun _ hk => hk.2) (.slice bg ah.length bb)) (fun _ h_ => h_.1)))); (case s2 => exact (Kd.R_reads' ab.out).2.1); (case s3 => refine (Kd.R_reads' (e := 3) (base := w.heap.size) (ok := fun k_ => some k_ ≠ (.slice bf ag.length a9 : Value).ownBlock) (n := ah.length) (c := bb) ?_).2.2; exact (by refine qR_ ?_; exact (Kd.R_mono (Kd.R_far (p := ⟨ad, 2, none⟩) (Kd.R_far (p := ⟨ad, 1, none⟩) (Kd.R_far (p := ⟨ad, 0, none⟩) (Kd.R_types ac.out aa.out (by decide)) (fun _ hk => hk.2) (.slice bf ag.length a9)) (fun _ hk => hk.2) (.int .i64 aj)) (fun _ hk => hk.2) (.slice bg ah.length bb)) (fun _ h_ => h_.1)))); (case s4 => exact (Kd.R_reads' ac.out).2.1); (case s5 => exact GWb.below HG.out (tb_ HB.out)); rintro e fb ⟨rfl, hb⟩; refine ⟨_, rfl, ?_⟩; replace ab := Aside0.mk (Kd.R_below (by refine qR_ ?_; exact (Kd.R_mono (Kd.R_far (p := ⟨ad, 2, none⟩) (Kd.R_far (p := ⟨ad, 1, none⟩) (Kd.R_far (p := ⟨ad, 0, none⟩) (Kd.R_types ab.out aa.out (by decide)) (fun _ hk => hk.2) (.slice bf ag.length a9)) (fun _ hk => hk.2) (.int .i64 aj)) (fun _ hk => hk.2) (.slice bg ah.length bb)) (fun _ h_ => h_.1))) hb); replace ac := Aside0.mk (Kd.R_below (by refine qR_ ?_; exact (Kd.R_mono (Kd.R_far (p := ⟨ad, 2, none⟩) (Kd.R_far (p := ⟨ad, 1, none⟩) (Kd.R_far (p := ⟨ad, 0, none⟩) (Kd.R_types ac.out aa.out (by decide)) (fun _ hk => hk.2) (.slice bf ag.length a9)) (fun _ hk => hk.2) (.int .i64 aj)) (fun _ hk => hk.2) (.slice bg ah.length bb)) (fun _ h_ => h_.1))) hb); replace aa := Aside0.mk (blk_below (g := ad) (o := .cells #[.slice bf ag.length a9, .int .i64 aj, .slice bg ah.length bb] 25 (0, 0)) (ps_ aa.out) hb); replace HB := bs_ HB hb; (try clear hb); (try clear hb2); (try clear hk); (try clear hi); have dg := cz_ aa 0; have dh := cz_ aa 1; have di := cz_ aa 2; have dj := blk_frozen aa.out 0; have dk := blk_frozen aa.out 1; have dl := blk_frozen aa.out 2) | ((with_reducible refine gate_callee (f := 62) rfl ?_); refine gl_ (some 16) Tryd.func62 #[.agg #[.slice bf ag.length a9, .int .i64 aj, .slice bg ah.length bb]] ?_; (with_reducible refine (spec_PlaceText.calls k _ _ ag aj _ _ ah aD _ ?s1 ?s2 ?s3 ?s4 A5.out).mono ?_); (case s1 => repeat (first | exact (Kd.R_reads' ab.out).2.2 | (with_reducible refine Kd.C_alloc ?_ _) | (with_reducible refine Kd.C_drewN ?_ _) | (with_reducible refine Kd.C_drew ?_))); (case s2 => exact (Kd.R_reads' ab.out).2.1); (case s3 => repeat (first | exact (Kd.R_reads' ac.out).2.2 | (with_reducible refine Kd.C_alloc ?_ _) | (with_reducible refine Kd.C_drewN ?_ _) | (with_reducible refine Kd.C_drew ?_))); (case s4 => exact (Kd.R_reads' ac.out).2.1); rintro e fc ⟨rfl, hb⟩; refine ⟨_, rfl, ?_⟩; replace ab := rb_ ab hb; replace ac := rb_ ac hb; replace aa := bb_ aa hb; replace HB := bs_ HB hb; (try clear hb); (try clear hb2); (try clear hk); (try clear hi)) | ((with_reducible refine gate_callee (f := 54) rfl ?_); refine gl_ (some 28) Tryd.func54 #[.string ao] ?_; (with_reducible refine (impl_ReadPlace.calls k ao ax aH ay false _ ?s1 A32.out).mono ?_); (case s1 => exact GWb.below HG.out (tb_ HB.out)); rintro e fd ⟨dV, dW, rfl, ho0, ho1, hb⟩; refine ⟨_, rfl, ?_⟩; have ar := Aside0.mk (Kd.R_lower (Kd.R_new' (Kd.R_new' ho0 (Kd.R_lt (rR_ ab.out))) (Kd.R_lt (rR_ ac.out))) (below_size (tb_ HB.out))); have au := Aside0.mk (Kd.R_lower (Kd.R_new' (Kd.R_new' ho1 (Kd.R_lt (rR_ ab.out))) (Kd.R_lt (rR_ ac.out))) (below_size (tb_ HB.out))); replace ab := Aside0.mk (Kd.R_mono (Kd.R_told (Kd.R_told (Kd.R_old (rR_ ab.out) hb) (Kd.R_base ho0)) (Kd.R_base ho1)) (fun _ h_ => h_.1)); replace ac := Aside0.mk (Kd.R_mono (Kd.R_told (Kd.R_told (Kd.R_old (rR_ ac.out) hb) (Kd.R_base ho0)) (Kd.R_base ho1)) (fun _ h_ => h_.1)); replace aa := bb_ aa hb; replace HB := bs_ HB hb; (try clear hb); (try clear hb2); (try clear hk); (try clear hi); (try clear ho0); (try clear ho1)) | ((with_reducible refine gate_dst (N := 5) rfl ?_); refine box_event ?hg (N := 5) ?hd (cs := #[.slice none 0 0, .int .i64 0, .slice none 0 0]) (t := 25) ?hr ?_; (case hd => rfl); (case hg => rfl); (case hr => first | (go_simp; done) | (go_simp; rfl)); intro al hg fe hbox hb; replace ab := rb_ ab hb; replace ac := rb_ ac hb; replace ar := rb_ ar hb; replace au := rb_ au hb; have an := Aside0.mk (hbox); have bO := gx_ HB hg; have bP := gx_ HB hg; replace HB := bs_ HB hb; have aI := nl_ aa hg; have aJ := ng_ aa hg; replace aa := bb_ aa hb; clear hb hbox hg; obtain ⟨eQ, eR, d1⟩ := Kd.R_slice ar.out; subst d1; have eI := aJ.out; have eJ := aI.out; have dm := cz_ an 0; have dn := cz_ an 1; have dp := cz_ an 2; have dq := blk_frozen an.out 0; have dr := blk_frozen an.out 1; have dt := blk_frozen an.out 2; obtain ⟨eS, eT, d2⟩ := Kd.R_slice au.out; subst d2))
     go_ret
     exact ⟨tw_, (tb_ HB.out)⟩
  ·
   rw [if_neg c6] at H
   have dK : (ao.toList == aD.toList) = false := beq_eq_false_iff_ne.mpr c6
   have dL : (ao.toList != aD.toList) = true := bne_iff_ne.mpr c6
   obtain rfl := Option.some.inj H
   go_enter Tryd.func14, Tryd.ntmps14
   go_wp2_with (first | ((with_reducible refine gate_callee (f := 61) rfl ?_); refine gl_ (some 11) Tryd.func61 #[.slice A0 l0.length c0] ?_; (with_reducible refine (spec_DrawPlaceText.calls k _ _ l0 ag aj ah _ ?s1 ?s2 A3.out).mono ?_); (case s1 => exact td_); (case s2 => exact HC0.out); rintro e ff ⟨bz, bB, rfl, ho0, ho1, hb⟩; refine ⟨_, rfl, ?_⟩; have ab := rx_ ho0 HB; have ac := rx_ ho1 HB; replace HB := bs_ HB hb; (try clear hb); (try clear hb2); (try clear hk); (try clear hi); (try clear ho0); (try clear ho1)) | ((with_reducible refine gate_dst (N := 3) rfl ?_); refine box_event ?hg (N := 3) ?hd (cs := #[.slice none 0 0, .int .i64 0, .slice none 0 0]) (t := 25) ?hr ?_; (case hd => rfl); (case hg => rfl); (case hr => first | (go_simp; done) | (go_simp; rfl)); intro ad hg fg hbox hb; replace ab := rb_ ab hb; replace ac := rb_ ac hb; have aa := Aside0.mk (hbox); have bm := gx_ HB hg; have bn := gx_ HB hg; replace HB := bs_ HB hb; clear hb hbox hg; obtain ⟨bh, bc, d3⟩ := Kd.R_slice ab.out; subst d3; have du := cz_ aa 0; have dv := cz_ aa 1; have dw := cz_ aa 2; have dx := blk_frozen aa.out 0; have dy := blk_frozen aa.out 1; have dz := blk_frozen aa.out 2; obtain ⟨bi, bd, d4⟩ := Kd.R_slice ac.out; subst d4) | ((with_reducible refine gate_callee (f := 60) rfl ?_); refine gl_ (some 13) Tryd.func60 #[.agg #[.slice bh ag.length bc, .int .i64 aj, .slice bi ah.length bd]] ?_; (with_reducible refine (impl_PlaceText.calls k _ _ ag aj _ _ ah ao _ ?s1 ?s2 ?s3 ?s4 ?s5 A4.out).mono ?_); (case s1 => refine (Kd.R_reads' (e := 3) (base := w.heap.size) (ok := fun k_ => some k_ ≠ (.slice bi ah.length bd : Value).ownBlock) (n := ag.length) (c := bc) ?_).2.2; exact (by refine qR_ ?_; exact (Kd.R_mono (Kd.R_far (p := ⟨ad, 2, none⟩) (Kd.R_far (p := ⟨ad, 1, none⟩) (Kd.R_far (p := ⟨ad, 0, none⟩) (Kd.R_types ab.out aa.out (by decide)) (fun _ hk => hk.2) (.slice bh ag.length bc)) (fun _ hk => hk.2) (.int .i64 aj)) (fun _ hk => hk.2) (.slice bi ah.length bd)) (fun _ h_ => h_.1)))); (case s2 => exact (Kd.R_reads' ab.out).2.1); (case s3 => refine (Kd.R_reads' (e := 3) (base := w.heap.size) (ok := fun k_ => some k_ ≠ (.slice bh ag.length bc : Value).ownBlock) (n := ah.length) (c := bd) ?_).2.2; exact (by refine qR_ ?_; exact (Kd.R_mono (Kd.R_far (p := ⟨ad, 2, none⟩) (Kd.R_far (p := ⟨ad, 1, none⟩) (Kd.R_far (p := ⟨ad, 0, none⟩) (Kd.R_types ac.out aa.out (by decide)) (fun _ hk => hk.2) (.slice bh ag.length bc)) (fun _ hk => hk.2) (.int .i64 aj)) (fun _ hk => hk.2) (.slice bi ah.length bd)) (fun _ h_ => h_.1)))); (case s4 => exact (Kd.R_reads' ac.out).2.1); (case s5 => exact GWb.below HG.out (tb_ HB.out)); rintro e fh ⟨rfl, hb⟩; refine ⟨_, rfl, ?_⟩; replace ab := Aside0.mk (Kd.R_below (by refine qR_ ?_; exact (Kd.R_mono (Kd.R_far (p := ⟨ad, 2, none⟩) (Kd.R_far (p := ⟨ad, 1, none⟩) (Kd.R_far (p := ⟨ad, 0, none⟩) (Kd.R_types ab.out aa.out (by decide)) (fun _ hk => hk.2) (.slice bh ag.length bc)) (fun _ hk => hk.2) (.int .i64 aj)) (fun _ hk => hk.2) (.slice bi ah.length bd)) (fun _ h_ => h_.1))) hb); replace ac := Aside0.mk (Kd.R_below (by refine qR_ ?_; exact (Kd.R_mono (Kd.R_far (p := ⟨ad, 2, none⟩) (Kd.R_far (p := ⟨ad, 1, none⟩) (Kd.R_far (p := ⟨ad, 0, none⟩) (Kd.R_types ac.out aa.out (by decide)) (fun _ hk => hk.2) (.slice bh ag.length bc)) (fun _ hk => hk.2) (.int .i64 aj)) (fun _ hk => hk.2) (.slice bi ah.length bd)) (fun _ h_ => h_.1))) hb); replace aa := Aside0.mk (blk_below (g := ad) (o := .cells #[.slice bh ag.length bc, .int .i64 aj, .slice bi ah.length bd] 25 (0, 0)) (ps_ aa.out) hb); replace HB := bs_ HB hb; (try clear hb); (try clear hb2); (try clear hk); (try clear hi); have dA := cz_ aa 0; have dB := cz_ aa 1; have dC := cz_ aa 2; have dD := blk_frozen aa.out 0; have dE := blk_frozen aa.out 1; have dF := blk_frozen aa.out 2) | ((with_reducible refine gate_callee (f := 62) rfl ?_); refine gl_ (some 16) Tryd.func62 #[.agg #[.slice bh ag.length bc, .int .i64 aj, .slice bi ah.length bd]] ?_; (with_reducible refine (spec_PlaceText.calls k _ _ ag aj _ _ ah aD _ ?s1 ?s2 ?s3 ?s4 A5.out).mono ?_); (case s1 => repeat (first | exact (Kd.R_reads' ab.out).2.2 | (with_reducible refine Kd.C_alloc ?_ _) | (with_reducible refine Kd.C_drewN ?_ _) | (with_reducible refine Kd.C_drew ?_))); (case s2 => exact (Kd.R_reads' ab.out).2.1); (case s3 => repeat (first | exact (Kd.R_reads' ac.out).2.2 | (with_reducible refine Kd.C_alloc ?_ _) | (with_reducible refine Kd.C_drewN ?_ _) | (with_reducible refine Kd.C_drew ?_))); (case s4 => exact (Kd.R_reads' ac.out).2.1); rintro e fi ⟨rfl, hb⟩; refine ⟨_, rfl, ?_⟩; replace ab := rb_ ab hb; replace ac := rb_ ac hb; replace aa := bb_ aa hb; replace HB := bs_ HB hb; (try clear hb); (try clear hb2); (try clear hk); (try clear hi)))
   go_ret
   exact ⟨tw_, (tb_ HB.out)⟩

/-- THE ONE PURE STATEMENT of laws_FnPlaceText: yours. -/
def laws_FnPlaceText.Pure : Prop := ∀ (l0 : List Int), l0.length ≤ maxLen → l0.length * 1 ≤ 140737488351232 → (∀ x ∈ l0, (Lit.int .u8 x).wf = true) → ∃ k, laws_FnPlaceText.f k l0 = some true
theorem laws_FnPlaceText.walk (P : laws_FnPlaceText.Pure) (a0 : Option Addr) (len0 cap0 : Nat) (z0 : List Int) (w : World) (hG : GWb w) (w0 : (a0 = none ∧ len0 = 0 ∧ cap0 = 0 ∧ z0 = []) ∨ ∃ x, a0 = some x ∧ len0 ≤ cap0 ∧ cap0 ≤ maxLen ∧ z0.length = cap0 ∧ (∀ i, i < z0.length → w.cell? (x.add i) = some (.int .u8 (z0.getD i 0))) ∧ ∀ n ∈ z0, (Lit.int .u8 n).wf = true) (y0 : len0 * 1 ≤ 140737488351232) :
  Calls Tryd.prog 14 #[.slice a0 len0 cap0] w fun e w' => e = .returned (.bool true) ∧ Below w.heap.size w w' := by
 obtain ⟨l0, rfl, hr0, hm0, hw0, hc0⟩ := ReadsInt.ofRowC w0
 obtain ⟨k, h⟩ := P l0 hm0 y0 hw0
 refine (laws_FnPlaceText.calls k _ _ l0 true w (Kd.C_of_reads (d := (0 : Int)) (h1 := fun _ => rfl) hr0) hc0 hG h).mono ?_
 rintro e w' ⟨rfl, hd⟩
 exact ⟨rfl, hd⟩

end Go.Proofs.YtlhiienanbpdlaaDoor.MFnPlaceText
