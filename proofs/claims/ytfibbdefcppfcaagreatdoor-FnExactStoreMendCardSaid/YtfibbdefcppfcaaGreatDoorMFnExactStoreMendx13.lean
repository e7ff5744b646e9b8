/- For the law FnExactStoreMend: walks of the functions that it reaches: each call returns what the plain function beside it tells. The conditions stand in each statement. -/
import Derived.Test.YtfibbdefcppfcaaGreatDoorV
import Derived.Test.YtfibbdefcppfcaaGreatDoorMFnExactStoreMendx0
import Derived.Test.YtfibbdefcppfcaaGreatDoorMFnExactStoreMendx12
namespace Go.Proofs.YtfibbdefcppfcaaGreatDoor.MFnExactStoreMend
open Go.RowKit Go.Proofs.YtfibbdefcppfcaaGreatDoorW.PrintWords Go.Proofs.YtfibbdefcppfcaaGreatDoorW.PrintLast Go.Proofs.YtfibbdefcppfcaaGreatDoorW.PrintMore
attribute [local go_sem] max2_int min2_int max_two min_two max_three min_three max_four min_four   -- for this text's walks alone
set_option linter.unusedVariables false
set_option linter.unusedSimpArgs false

/-! ### impl_PlaceText: function 44 -/
def impl_PlaceText.l0 : Nat → List Int → List Int → Int → Int → List Int → Int → List Int → Option (ByteArray)
 | 0, _, _, _, _, _, _, _ => none
 | k + 1, x3, x11, x12, x13, ap, aq, aC => if x13 < x12 then (if 0 ≤ x13 then (if x13 < (x11.length : Int) then (if x3.length < 140737488355328 then (impl_PlaceText.l0 k (x3 ++ [(wrap64 (97 + (rd x11 x13))) % 256]) x11 x12 (wrap64 (x13 + 1)) ap aq aC) else (none)) else (none)) else (none)) else (if (x3.length : Int) = 0 then (if x3.length < 140737488355328 then ((some (x3 ++ [46] : List Int)).bind fun ao => ((impl_rowText.f k ap).bind fun ac => (if ac.size + 1 ≤ 9223372036854775807 then ((strconv_Itoa.f aq).bind fun af => (if (ac ++ (⟨#[32]⟩ : ByteArray)).size + af.size ≤ 9223372036854775807 then (if ((ac ++ (⟨#[32]⟩ : ByteArray)) ++ af).size + 1 ≤ 9223372036854775807 then (if (((ac ++ (⟨#[32]⟩ : ByteArray)) ++ af) ++ (⟨#[32]⟩ : ByteArray)).size + (strOfNums ao).size ≤ 9223372036854775807 then (some ((((ac ++ (⟨#[32]⟩ : ByteArray)) ++ af) ++ (⟨#[32]⟩ : ByteArray)) ++ (strOfNums ao))) else (none)) else (none)) else (none))) else (none)))) else (none)) else ((impl_rowText.f k ap).bind fun ag => (if ag.size + 1 ≤ 9223372036854775807 then ((strconv_Itoa.f aq).bind fun ai => (if (ag ++ (⟨#[32]⟩ : ByteArray)).size + ai.size ≤ 9223372036854775807 then (if ((ag ++ (⟨#[32]⟩ : ByteArray)) ++ ai).size + 1 ≤ 9223372036854775807 then (if (((ag ++ (⟨#[32]⟩ : ByteArray)) ++ ai) ++ (⟨#[32]⟩ : ByteArray)).size + (strOfNums x3).size ≤ 9223372036854775807 then (some ((((ag ++ (⟨#[32]⟩ : ByteArray)) ++ ai) ++ (⟨#[32]⟩ : ByteArray)) ++ (strOfNums x3))) else (none)) else (none)) else (none))) else (none))))
def impl_PlaceText.f (k : Nat) (ad : List Int) (a0_1 : Int) (ab : List Int) : Option (ByteArray) := (impl_PlaceOk.f k ad a0_1 ab).bind fun ax => (if ax = true then (impl_PlaceText.l0 k (([] : List Int)) ab (ab.length : Int) 0 ad a0_1 ab) else (some (⟨#[]⟩ : ByteArray)))
theorem impl_PlaceText.mono_l : ∀ k, (∀ y0 y1 y2 y3 y4 y5 y6, LeO (impl_PlaceText.l0 k y0 y1 y2 y3 y4 y5 y6) (impl_PlaceText.l0 (k + 1) y0 y1 y2 y3 y4 y5 y6))
 | 0 => fun _ _ _ _ _ _ _ r h => by simp [impl_PlaceText.l0] at h
 | k + 1 => by
  have ih0 := impl_PlaceText.mono_l k
  ·
   intro y0 y1 y2 y3 y4 y5 y6
   unfold impl_PlaceText.l0
   repeat' (with_reducible first | exact ih0 _ _ _ _ _ _ _ | exact impl_PlaceOk.mono _ _ _ _ | exact impl_rowText.mono _ _ | exact mr_ | exact mn_ | refine mi_ ?_ ?_ | refine mb_ ?_ (fun _ => ?_))
theorem impl_PlaceText.mono : ∀ a0 a1 a2 k, LeO (impl_PlaceText.f k a0 a1 a2) (impl_PlaceText.f (k + 1) a0 a1 a2) := by
 intro a0 a1 a2 k
 have ih0 := impl_PlaceText.mono_l k
 unfold impl_PlaceText.f
 repeat' (with_reducible first | exact ih0 _ _ _ _ _ _ _ | exact impl_PlaceOk.mono _ _ _ _ | exact impl_rowText.mono _ _ | exact mr_ | exact mn_ | refine mi_ ?_ ?_ | refine mb_ ?_ (fun _ => ?_))
def impl_PlaceText.T11 : Bool × List (List Nat × List Nat) := (true, [([], []), ([0], [0]), ([1], [1]), ([2], [2]), ([], []), ([4], [4]), ([5, 2], [5]), ([3, 6], [3, 6]), ([7], [7]), ([], []), ([9], [9]), ([8, 10], [8, 10]), ([11, 6, 0, 1, 2, 3, 4, 5, 6, 7, 8, 9, 10, 11], [11])])
def impl_PlaceText.B11 : List Nat := [0, 1, 3, 7, 0, 16, 55, 127, 255, 0, 512, 2047, 4095]
theorem impl_PlaceText.tab11 : rtab .any (opsOf Tryz.f44 11) = impl_PlaceText.T11 := by kernel_rfl
theorem impl_PlaceText.bits11 : waitsOk impl_PlaceText.T11.2 impl_PlaceText.B11 = true := by kernel_rfl
set_option maxHeartbeats 8000000 in
set_option maxRecDepth 100000 in
theorem impl_PlaceText.calls (k : Nat) (am : Option Addr) (an : Nat) (ad : List Int) (a0_1 : Int) (ar : Option Addr) (au : Nat) (ab : List Int) (r : ByteArray) (w : World) (hr0_0 : Kd.C (Kd.int .i64) w am ad.length ad) (hc0_0 : ad.length ≤ an) (hr0_2 : Kd.C (Kd.int .i64) w ar ab.length ab) (hc0_2 : ab.length ≤ au) (hG : GWb w) (h : impl_PlaceText.f k ad a0_1 ab = some r) :
  Calls Tryz.prog 44 #[.agg #[.slice am ad.length an, .int .i64 a0_1, .slice ar ab.length au]] w fun e w' => e = .returned (.string r) ∧ Below w.heap.size w w' := by
 have HG := Aside0.mk hG
 clear hG
 have hu39 := Tryz.underlying39
 have bs := Aside0.mk hr0_0
 have aw := Aside0.mk hc0_0
 clear hr0_0 hc0_0
 have aX := Aside0.mk hr0_2
 have aD := Aside0.mk hc0_2
 clear hr0_2 hc0_2
 have HB := Aside0.mk (Below.refl w.heap.size w)
 have H : ((impl_PlaceOk.f k ad a0_1 ab).bind fun ax => (if ax = true then (impl_PlaceText.l0 k (([] : List Int)) ab (ab.length : Int) 0 ad a0_1 ab) else (some (⟨#[]⟩ : ByteArray)))) = some r := h
 clear h
 obtain ⟨ax, A2, H⟩ := bnd_ H
 try dsimp only at H
 by_cases c3 : ax = true
 ·
  subst c3
  have H1 : (impl_PlaceText.l0 k (([] : List Int)) ab (ab.length : Int) 0 ad a0_1 ab) = some r := by rw [if_pos rfl] at H; exact H
  clear H
  have H := H1
  clear H1
  obtain ⟨aY, ay⟩ : ∃ y_ : List Int, y_ = (([] : List Int)) := ⟨_, rfl⟩
  replace H : (impl_PlaceText.l0 k aY ab (ab.length : Int) 0 ad a0_1 ab) = some r := yq_ ay H
  have aE := Aside0.mk ay
  clear ay
  have H' := Aside0.mk H
  clear H
  go_enter Tryz.func44, Tryz.ntmps44
  go_wp2_with (first | ((with_reducible refine gate_dst (N := 1) rfl ?_); refine box_event ?hg (N := 1) ?hd (cs := #[.slice am ad.length an, .int .i64 a0_1, .slice ar ab.length au]) (t := 39) ?hr ?_; (case hd => rfl); (case hg => rfl); (case hr => first | (go_simp; done) | (go_simp; rfl)); intro al hg w4 hbox hb; have aa := Aside0.mk (hbox); have aZ := gx_ HB hg; have a3 := gx_ HB hg; replace HB := bs_ HB hb; clear hb hbox hg; have aG := cz_ aa 0; have aH := cz_ aa 1; have aI := cz_ aa 2; have aJ := blk_frozen aa.out 0; have aK := blk_frozen aa.out 1; have aM := blk_frozen aa.out 2) | ((with_reducible refine gate_callee (f := 60) rfl ?_); refine gl_ (some 7) Tryz.func60 #[.agg #[.slice am ad.length an, .int .i64 a0_1, .slice ar ab.length au]] ?_; (with_reducible refine (impl_PlaceOk.calls k _ _ ad a0_1 _ _ ab true _ ?s1 ?s2 ?s3 ?s4 A2.out).mono ?_); (case s1 => exact tD_); (case s2 => exact aw.out); (case s3 => exact tD_); (case s4 => exact aD.out); rintro e w6 ⟨rfl, hb⟩; refine ⟨_, rfl, ?_⟩; replace aa := bb_ aa hb; replace HB := bs_ HB hb; (try clear hb); (try clear hb2); (try clear hk); (try clear hi)) | ((with_reducible refine gate_dst (N := 9) rfl ?_); refine Kd.R_lit (Kd.int .u8) _ 5 ?hg (N := 9) ?hd (xs := ([] : List Int)) (inner := []) (ok := fun _ => True) (okp := fun _ => True) ?hr ?hp (fun _ hk => hk) trivial (Below.refl _ _) (Nat.le_refl _) (by simp) ?_; (case hd => rfl); (case hg => rfl); (case hr => first | (go_simp; done) | (go_simp; rfl)); (case hp => exact (Reps.none _ _)); intro b5 w7 ho8 hb hg_ hnew_; clear hg_ hnew_; (first | rw [← aE.out] at ho8 | (simp only [Int.reduceToNat] at ho8; rw [← aE.out] at ho8)); have a4 := rx_ ho8 HB; replace aa := bb_ aa hb; replace HB := bs_ HB hb; clear hb ho8; have aN := cz_ aa 0; have aQ := cz_ aa 1; have aR := cz_ aa 2; have aU := blk_frozen aa.out 0; have aV := blk_frozen aa.out 1; have aW := blk_frozen aa.out 2))
  go_loopg [3, 13] k (fun kq v3 b6 w' => ∃ (ah : List Int) (ae : Int), b6 = .int .i64 ae ∧ Aside0 (impl_PlaceText.l0 kq ah ab (ab.length : Int) ae ad a0_1 ab = some r) ∧ Aside0 (kq ≤ k) ∧ Aside0 (Kd.R (Kd.int .u8) 5 w' w.heap.size (fun _ => True) v3 ah) ∧ Aside0 (w'.heap[al]? = some (.cells #[(.slice am ad.length an), .int .i64 a0_1, (.slice ar ab.length au)] 39 (0, 0))) ∧ Aside0 (Below w.heap.size w w'))
  case atStart => exact ⟨(aY), (0), tx_, H', ⟨Nat.le_refl _⟩, ⟨rR_ a4.out⟩, ⟨tk_ aa.out⟩, ⟨(tb_ HB.out)⟩⟩
  case round =>
   clear H'
   try clear p2
   try clear c3
   try clear c4
   try clear c6
   try clear aG
   try clear aH
   try clear aI
   try clear aN
   try clear aQ
   try clear aR
   try clear aJ
   try clear aK
   try clear aM
   try clear aU
   try clear aV
   try clear aW
   obtain ⟨ah, ae, rfl, HA, HK1, aj, aa, HB⟩ := hrel
   cases gk with
   | zero => exact absurd HA.out (by simp [impl_PlaceText.l0])
   | succ k1 =>
    have H := HA.out
    clear HA
    simp only [impl_PlaceText.l0] at H
    by_cases c10 : ae < (ab.length : Int)
    ·
     rw [if_pos c10] at H
     have a5 : decide (ae < (ab.length : Int)) = true := decide_eq_true c10
     clear c10
     by_cases c11 : 0 ≤ ae
     ·
      rw [if_pos c11] at H
      have bu : decide (0 ≤ ae) = true := decide_eq_true c11
      clear c11
      by_cases c12 : ae < (ab.length : Int)
      ·
       rw [if_pos c12] at H
       have bv : decide (ae < (ab.length : Int)) = true := decide_eq_true c12
       clear c12
       by_cases c13 : ah.length < 140737488355328
       ·
        rw [if_pos c13] at H
        have a6 := Aside0.mk c13
        clear c13
        obtain ⟨a7, az⟩ : ∃ y_ : List Int, y_ = (ah ++ [(wrap64 (97 + (rd ab ae))) % 256]) := ⟨_, rfl⟩
        replace H : (impl_PlaceText.l0 k1 a7 ab (ab.length : Int) (wrap64 (ae + 1)) ad a0_1 ab) = some r := yq_ az H
        have a8 := Aside0.mk az
        clear az
        have H' := Aside0.mk H
        clear H
        have p349 : 0 ≤ (ae : Int) := od_
        have q349 : ae < (ab.length : Int) := od_
        obtain ⟨ad349, e349, av⟩ := Kd.at_int aX.out ae p349 q349
        cases e349
        replace av := (HB.out.cell (World.block_lt_of_cell? w _ av)).trans av
        replace p349 := eq_true p349
        replace q349 := eq_true q349
        go_wp2_with (first | ((with_reducible refine gate_builtin (b := .append) (xs := #[.tmp 17, .tmp 21]) rfl ?_); at_builtin; refine Kd.R_append (Kd.int .u8) (w0 := w) w.heap.size rfl (.tmp 17) (.tmp 21) 47 5 (.int .u8 0) 1 rfl Tryz.underlying47 info5 rfl (by decide) (by omega) u3 ah ((wrap64 (97 + (rd ab ae))) % 256) [.int .u8 ((wrap64 (97 + (rd ab ae))) % 256)] (fun _ => True) (fun _ => False) rfl rfl ?aP (fun _ hk => hk.elim) ?aF ?aO ?aB ?aS ?aL ?_; (case aP => exact rfl); (case aB => exact (tb_ HB.out)); (case aF => exact (fun _ _ => trivial)); (case aO => exact (rR_ aj.out)); (case aS => exact (below_size (tb_ HB.out))); (case aL => have := a6.out; omega); intro b7 b9 ho hb hg hat; rw [← a8.out] at ho; replace aa := bg_ aa hg (Kd.R_ne aj.out aa.out (by decide)); replace HB := Aside0.mk (hb); have a9 := Aside0.mk (ho); clear aj ho hb hg hat))
        go_roundg k1
        case measure => have := HK1.out; omega
        case rel => exact ⟨(a7), (wrap64 (ae + 1)), tx_, H', ⟨by have := HK1.out; omega⟩, ⟨rR_ a9.out⟩, ⟨tk_ aa.out⟩, ⟨(tb_ HB.out)⟩⟩
       ·
        rw [if_neg c13] at H
        exact absurd H (by simp)
      ·
       rw [if_neg c12] at H
       exact absurd H (by simp)
     ·
      rw [if_neg c11] at H
      exact absurd H (by simp)
    ·
     rw [if_neg c10] at H
     have a5 : decide (ae < (ab.length : Int)) = false := decide_eq_false c10
     clear c10
     by_cases c15 : (ah.length : Int) = 0
     ·
      rw [if_pos c15] at H
      have bb : ((ah.length : Int) == 0) = true := beq_iff_eq.mpr c15
      have bc : ((ah.length : Int) != 0) = false := bne_eq_false_iff_eq.mpr c15
      clear c15
      by_cases c16 : ah.length < 140737488355328
      ·
       rw [if_pos c16] at H
       have bd := Aside0.mk c16
       clear c16
       obtain ⟨ao, aA⟩ : ∃ y_ : List Int, y_ = (ah ++ [46]) := ⟨_, rfl⟩
       replace H : ((impl_rowText.f k1 ad).bind fun ac => (if ac.size + 1 ≤ 9223372036854775807 then ((strconv_Itoa.f a0_1).bind fun af => (if (ac ++ (⟨#[32]⟩ : ByteArray)).size + af.size ≤ 9223372036854775807 then (if ((ac ++ (⟨#[32]⟩ : ByteArray)) ++ af).size + 1 ≤ 9223372036854775807 then (if (((ac ++ (⟨#[32]⟩ : ByteArray)) ++ af) ++ (⟨#[32]⟩ : ByteArray)).size + (strOfNums ao).size ≤ 9223372036854775807 then (some ((((ac ++ (⟨#[32]⟩ : ByteArray)) ++ af) ++ (⟨#[32]⟩ : ByteArray)) ++ (strOfNums ao))) else (none)) else (none)) else (none))) else (none))) = some r := yq_ aA H
       have be := Aside0.mk aA
       clear aA
       obtain ⟨ac, A17, H⟩ := bnd_ H
       try dsimp only at H
       by_cases c18 : ac.size + 1 ≤ 9223372036854775807
       ·
        rw [if_pos c18] at H
        have bw := eq_true c18
        have bx : decide (ac.size + 1 ≤ 9223372036854775807) = true := decide_eq_true c18
        try have bz : (9223372036854775807 < ac.size + 1) = False := eq_false (Nat.not_lt.2 c18)
        obtain ⟨af, A19, H⟩ := bnd_ H
        try dsimp only at H
        by_cases c20 : (ac ++ (⟨#[32]⟩ : ByteArray)).size + af.size ≤ 9223372036854775807
        ·
         rw [if_pos c20] at H
         have bB := eq_true c20
         have bC : decide ((ac ++ (⟨#[32]⟩ : ByteArray)).size + af.size ≤ 9223372036854775807) = true := decide_eq_true c20
         try have bD : (9223372036854775807 < (ac ++ (⟨#[32]⟩ : ByteArray)).size + af.size) = False := eq_false (Nat.not_lt.2 c20)
         try have bE : (9223372036854775807 < ac.size + 1 + af.size) = False := eq_false (by have h := c20; simp only [ByteArray.size_append] at h; simp only [ByteArray.size] at h ⊢; simp at h ⊢; omega)
         by_cases c21 : ((ac ++ (⟨#[32]⟩ : ByteArray)) ++ af).size + 1 ≤ 9223372036854775807
         ·
          rw [if_pos c21] at H
          have bF := eq_true c21
          have bG : decide (((ac ++ (⟨#[32]⟩ : ByteArray)) ++ af).size + 1 ≤ 9223372036854775807) = true := decide_eq_true c21
          try have bH : (9223372036854775807 < ((ac ++ (⟨#[32]⟩ : ByteArray)) ++ af).size + 1) = False := eq_false (Nat.not_lt.2 c21)
          try have bI : (9223372036854775807 < ac.size + 1 + af.size + 1) = False := eq_false (by have h := c21; simp only [ByteArray.size_append] at h; simp only [ByteArray.size] at h ⊢; simp at h ⊢; omega)
          by_cases c22 : (((ac ++ (⟨#[32]⟩ : ByteArray)) ++ af) ++ (⟨#[32]⟩ : ByteArray)).size + (strOfNums ao).size ≤ 9223372036854775807
          ·
           rw [if_pos c22] at H
           have bJ := eq_true c22
           have bK : decide ((((ac ++ (⟨#[32]⟩ : ByteArray)) ++ af) ++ (⟨#[32]⟩ : ByteArray)).size + (strOfNums ao).size ≤ 9223372036854775807) = true := decide_eq_true c22
           try have bL : (9223372036854775807 < (((ac ++ (⟨#[32]⟩ : ByteArray)) ++ af) ++ (⟨#[32]⟩ : ByteArray)).size + (strOfNums ao).size) = False := eq_false (Nat.not_lt.2 c22)
           try have bM : (9223372036854775807 < ac.size + 1 + af.size + 1 + (strOfNums ao).size) = False := eq_false (by have h := c22; simp only [ByteArray.size_append] at h; simp only [ByteArray.size] at h ⊢; simp at h ⊢; omega)
           obtain rfl := Option.some.inj H
           obtain ⟨bl, bm, bn⟩ := Kd.R_slice aj.out
           subst bn
           try go_wp2_with (first | ((with_reducible refine gate_builtin (b := .append) (xs := #[.tmp 27, .tmp 28]) rfl ?_); at_builtin; refine Kd.R_append (Kd.int .u8) (w0 := w) w.heap.size rfl (.tmp 27) (.tmp 28) 47 5 (.int .u8 0) 1 rfl Tryz.underlying47 info5 rfl (by decide) (by omega) (.slice bl ah.length bm) ah 46 [.int .u8 46] (fun _ => True) (fun _ => False) rfl rfl ?aP (fun _ hk => hk.elim) ?aF ?aO ?aB ?aS ?aL ?_; (case aP => exact rfl); (case aB => exact (tb_ HB.out)); (case aF => exact (fun _ _ => trivial)); (case aO => exact (rR_ aj.out)); (case aS => exact (below_size (tb_ HB.out))); (case aL => have := bd.out; omega); intro bo b8 ho hb hg hat; rw [← be.out] at ho; replace aa := bg_ aa hg (Kd.R_ne aj.out aa.out (by decide)); replace HB := Aside0.mk (hb); have ak := Aside0.mk (ho); clear aj ho hb hg hat))
           replace ak := rd_ ak
           replace aa := dB_ aa
           replace HB := Aside0.mk (ld_ HB.out)
           refine start_ (n := 13) (S := fun w' => w'.cell? ⟨al, 0, none⟩ = some (.slice am ad.length an) ∧ w'.cell? ⟨al, 1, none⟩ = some (.int .i64 a0_1) ∧ w'.cell? ⟨al, 2, none⟩ = some (.slice ar ab.length au) ∧ (convert 47 9 bo).run Tryz.prog w' = .ok (.string (strOfNums ao)) w') (ds := []) #[false, false, false, false, false, false, false, false, false, false, false, false, false] (by kernel_rfl) rfl rfl ⟨(blk_cell aa.out 0).trans rfl, (blk_cell aa.out 1).trans rfl, (blk_cell aa.out 2).trans rfl, own_string (P := Tryz.prog) Tryz.underlying47 Tryz.underlying5 Tryz.underlying9 (Kd.own_of_R ak.out)⟩ (fun hHeld => ?_); refine with_tabW impl_PlaceText.tab11 impl_PlaceText.bits11 (fun HT_ HW_ => ?_)
           generalize b8.drew = ca at ak aa HB hHeld ⊢
           refine pu_ 0 (some 30) #[true, false, false, false, false, false, false, false, false, false, false, false, false] HT_ rfl rfl ?_
           refine pu_ 4 (some 34) #[true, false, false, false, true, false, false, false, false, false, false, false, false] HT_ rfl rfl ?_
           refine pu_ 9 (some 39) #[true, false, false, false, true, false, false, false, false, true, false, false, false] HT_ rfl rfl ?_
           refine ta_ 1 (some 31) #[true, true, false, false, true, false, false, false, false, true, false, false, false] HT_ HW_ hHeld rfl rfl ?_
           refine ta_ 5 (some 35) #[true, true, false, false, true, true, false, false, false, true, false, false, false] HT_ HW_ hHeld rfl rfl ?_
           refine ta_ 10 (some 40) #[true, true, false, false, true, true, false, false, false, true, true, false, false] HT_ HW_ hHeld rfl rfl ?_
           refine one_ (i := 2) (N := some 32) #[true, true, true, false, true, true, false, false, false, true, true, false, false] rfl rfl (one_of HT_.out (by kernel_rfl)) (by decide) (fun K hK => ?_)
           refine goes_ Tryz.func74 (by kernel_rfl) rfl #[.slice am ad.length an] (by rfl) rfl rfl tz_ ?_
           with_reducible refine (impl_rowText.calls k1 _ _ ad ac _ ?s1 ?s2 ?s3 A17.out).mono ?_
           (case s1 => exact tD_)
           (case s2 => exact aw.out)
           (case s3 => exact GWb.below HG.out (tb_ HB.out))
           rintro e cb ⟨rfl, hb⟩
           refine ⟨_, rfl, ?_⟩
           replace ak := rb_ ak hb
           replace aa := bb_ aa hb
           replace HB := bs_ HB hb
           (try clear hb)
           (try clear hb2)
           (try clear hk)
           (try clear hi)
           refine hK.out _ _ ⟨(blk_cell aa.out 0).trans rfl, (blk_cell aa.out 1).trans rfl, (blk_cell aa.out 2).trans rfl, own_string (P := Tryz.prog) Tryz.underlying47 Tryz.underlying5 Tryz.underlying9 (Kd.own_of_R ak.out)⟩ (fun hHeld => ?_)
           clear hK K
           refine nr_ 32 ?_
           refine pu_ 3 (some 33) #[true, true, true, true, true, true, false, false, false, true, true, false, false] HT_ rfl rfl ?_
           refine one_ (i := 6) (N := some 36) #[true, true, true, true, true, true, true, false, false, true, true, false, false] rfl rfl (one_of HT_.out (by kernel_rfl)) (by decide) (fun K hK => ?_)
           refine goes_ Tryz.func75 (by kernel_rfl) rfl #[.int .i64 a0_1] (by rfl) rfl rfl tz_ ?_
           with_reducible refine (strconv_Itoa.calls a0_1 af _ ?s1 A19.out).mono ?_
           (case s1 => exact GWb.below HG.out (tb_ HB.out))
           rintro e cc ⟨rfl, hb⟩
           refine ⟨_, rfl, ?_⟩
           replace ak := rb_ ak hb
           replace aa := bb_ aa hb
           replace HB := bs_ HB hb
           (try clear hb)
           (try clear hb2)
           (try clear hk)
           (try clear hi)
           refine hK.out _ _ ⟨(blk_cell aa.out 0).trans rfl, (blk_cell aa.out 1).trans rfl, (blk_cell aa.out 2).trans rfl, own_string (P := Tryz.prog) Tryz.underlying47 Tryz.underlying5 Tryz.underlying9 (Kd.own_of_R ak.out)⟩ (fun hHeld => ?_)
           clear hK K
           refine nr_ 36 ?_
           refine pu_ 7 (some 37) #[true, true, true, true, true, true, true, true, false, true, true, false, false] HT_ rfl rfl ?_
           refine pu_ 8 (some 38) #[true, true, true, true, true, true, true, true, true, true, true, false, false] HT_ rfl rfl ?_
           refine pu_ 11 (some 41) #[true, true, true, true, true, true, true, true, true, true, true, true, false] HT_ rfl rfl ?_
           refine pu_ 12 (some 2) #[true, true, true, true, true, true, true, true, true, true, true, true, true] HT_ rfl rfl ?_
           refine done_ (done_of HT_.out (by kernel_rfl)) ?_
           try go_wp2
           go_ret
           exact ⟨tw_, (tb_ HB.out)⟩
          ·
           rw [if_neg c22] at H
           exact absurd H (by simp)
         ·
          rw [if_neg c21] at H
          exact absurd H (by simp)
        ·
         rw [if_neg c20] at H
         exact absurd H (by simp)
       ·
        rw [if_neg c18] at H
        exact absurd H (by simp)
      ·
       rw [if_neg c16] at H
       exact absurd H (by simp)
     ·
      rw [if_neg c15] at H
      have bb : ((ah.length : Int) == 0) = false := beq_eq_false_iff_ne.mpr c15
      have bc : ((ah.length : Int) != 0) = true := bne_iff_ne.mpr c15
      have bN : ¬ (ah = []) := fun h_ => c15 (by rw [h_]; rfl)
      obtain ⟨ag, A29, H⟩ := bnd_ H
      try dsimp only at H
      by_cases c30 : ag.size + 1 ≤ 9223372036854775807
      ·
       rw [if_pos c30] at H
       have bO := eq_true c30
       have bP : decide (ag.size + 1 ≤ 9223372036854775807) = true := decide_eq_true c30
       try have bQ : (9223372036854775807 < ag.size + 1) = False := eq_false (Nat.not_lt.2 c30)
       obtain ⟨ai, A31, H⟩ := bnd_ H
       try dsimp only at H
       by_cases c32 : (ag ++ (⟨#[32]⟩ : ByteArray)).size + ai.size ≤ 9223372036854775807
       ·
        rw [if_pos c32] at H
        have bR := eq_true c32
        have bS : decide ((ag ++ (⟨#[32]⟩ : ByteArray)).size + ai.size ≤ 9223372036854775807) = true := decide_eq_true c32
        try have bU : (9223372036854775807 < (ag ++ (⟨#[32]⟩ : ByteArray)).size + ai.size) = False := eq_false (Nat.not_lt.2 c32)
        try have bV : (9223372036854775807 < ag.size + 1 + ai.size) = False := eq_false (by have h := c32; simp only [ByteArray.size_append] at h; simp only [ByteArray.size] at h ⊢; simp at h ⊢; omega)
        by_cases c33 : ((ag ++ (⟨#[32]⟩ : ByteArray)) ++ ai).size + 1 ≤ 9223372036854775807
        ·
         rw [if_pos c33] at H
         have bW := eq_true c33
         have bX : decide (((ag ++ (⟨#[32]⟩ : ByteArray)) ++ ai).size + 1 ≤ 9223372036854775807) = true := decide_eq_true c33
         try have bZ : (9223372036854775807 < ((ag ++ (⟨#[32]⟩ : ByteArray)) ++ ai).size + 1) = False := eq_false (Nat.not_lt.2 c33)
         try have b0 : (9223372036854775807 < ag.size + 1 + ai.size + 1) = False := eq_false (by have h := c33; simp only [ByteArray.size_append] at h; simp only [ByteArray.size] at h ⊢; simp at h ⊢; omega)
         by_cases c34 : (((ag ++ (⟨#[32]⟩ : ByteArray)) ++ ai) ++ (⟨#[32]⟩ : ByteArray)).size + (strOfNums ah).size ≤ 9223372036854775807
         ·
          rw [if_pos c34] at H
          have b1 := eq_true c34
          have b2 : decide ((((ag ++ (⟨#[32]⟩ : ByteArray)) ++ ai) ++ (⟨#[32]⟩ : ByteArray)).size + (strOfNums ah).size ≤ 9223372036854775807) = true := decide_eq_true c34
          try have b3 : (9223372036854775807 < (((ag ++ (⟨#[32]⟩ : ByteArray)) ++ ai) ++ (⟨#[32]⟩ : ByteArray)).size + (strOfNums ah).size) = False := eq_false (Nat.not_lt.2 c34)
          try have b4 : (9223372036854775807 < ag.size + 1 + ai.size + 1 + (strOfNums ah).size) = False := eq_false (by have h := c34; simp only [ByteArray.size_append] at h; simp only [ByteArray.size] at h ⊢; simp at h ⊢; omega)
          obtain rfl := Option.some.inj H
          obtain ⟨bp, bq, br⟩ := Kd.R_slice aj.out
          subst br
          try go_wp2
          replace aj := rd_ aj
          replace aa := dB_ aa
          replace HB := Aside0.mk (ld_ HB.out)
          refine start_ (n := 13) (S := fun w' => w'.cell? ⟨al, 0, none⟩ = some (.slice am ad.length an) ∧ w'.cell? ⟨al, 1, none⟩ = some (.int .i64 a0_1) ∧ w'.cell? ⟨al, 2, none⟩ = some (.slice ar ab.length au) ∧ (convert 47 9 (.slice bp ah.length bq)).run Tryz.prog w' = .ok (.string (strOfNums ah)) w') (ds := []) #[false, false, false, false, false, false, false, false, false, false, false, false, false] (by kernel_rfl) rfl rfl ⟨(blk_cell aa.out 0).trans rfl, (blk_cell aa.out 1).trans rfl, (blk_cell aa.out 2).trans rfl, own_string (P := Tryz.prog) Tryz.underlying47 Tryz.underlying5 Tryz.underlying9 (Kd.own_of_R aj.out)⟩ (fun hHeld => ?_); refine with_tabW impl_PlaceText.tab11 impl_PlaceText.bits11 (fun HT_ HW_ => ?_)
          generalize wr.drew = cd at aj aa HB hHeld ⊢
          refine pu_ 0 (some 30) #[true, false, false, false, false, false, false, false, false, false, false, false, false] HT_ rfl rfl ?_
          refine pu_ 4 (some 34) #[true, false, false, false, true, false, false, false, false, false, false, false, false] HT_ rfl rfl ?_
          refine pu_ 9 (some 39) #[true, false, false, false, true, false, false, false, false, true, false, false, false] HT_ rfl rfl ?_
          refine ta_ 1 (some 31) #[true, true, false, false, true, false, false, false, false, true, false, false, false] HT_ HW_ hHeld rfl rfl ?_
          refine ta_ 5 (some 35) #[true, true, false, false, true, true, false, false, false, true, false, false, false] HT_ HW_ hHeld rfl rfl ?_
          refine ta_ 10 (some 40) #[true, true, false, false, true, true, false, false, false, true, true, false, false] HT_ HW_ hHeld rfl rfl ?_
          refine one_ (i := 2) (N := some 32) #[true, true, true, false, true, true, false, false, false, true, true, false, false] rfl rfl (one_of HT_.out (by kernel_rfl)) (by decide) (fun K hK => ?_)
          refine goes_ Tryz.func74 (by kernel_rfl) rfl #[.slice am ad.length an] (by rfl) rfl rfl tz_ ?_
          with_reducible refine (impl_rowText.calls k1 _ _ ad ag _ ?s1 ?s2 ?s3 A29.out).mono ?_
          (case s1 => exact tD_)
          (case s2 => exact aw.out)
          (case s3 => exact GWb.below HG.out (tb_ HB.out))
          rintro e ce ⟨rfl, hb⟩
          refine ⟨_, rfl, ?_⟩
          replace aj := rb_ aj hb
          replace aa := bb_ aa hb
          replace HB := bs_ HB hb
          (try clear hb)
          (try clear hb2)
          (try clear hk)
          (try clear hi)
          refine hK.out _ _ ⟨(blk_cell aa.out 0).trans rfl, (blk_cell aa.out 1).trans rfl, (blk_cell aa.out 2).trans rfl, own_string (P := Tryz.prog) Tryz.underlying47 Tryz.underlying5 Tryz.underlying9 (Kd.own_of_R aj.out)⟩ (fun hHeld => ?_)
          clear hK K
          refine nr_ 32 ?_
          refine pu_ 3 (some 33) #[true, true, true, true, true, true, false, false, false, true, true, false, false] HT_ rfl rfl ?_
          refine one_ (i := 6) (N := some 36) #[true, true, true, true, true, true, true, false, false, true, true, false, false] rfl rfl (one_of HT_.out (by kernel_rfl)) (by decide) (fun K hK => ?_)
          refine goes_ Tryz.func75 (by kernel_rfl) rfl #[.int .i64 a0_1] (by rfl) rfl rfl tz_ ?_
          with_reducible refine (strconv_Itoa.calls a0_1 ai _ ?s1 A31.out).mono ?_
          (case s1 => exact GWb.below HG.out (tb_ HB.out))
          rintro e cf ⟨rfl, hb⟩
          refine ⟨_, rfl, ?_⟩
          replace aj := rb_ aj hb
          replace aa := bb_ aa hb
          replace HB := bs_ HB hb
          (try clear hb)
          (try clear hb2)
          (try clear hk)
          (try clear hi)
          refine hK.out _ _ ⟨(blk_cell aa.out 0).trans rfl, (blk_cell aa.out 1).trans rfl, (blk_cell aa.out 2).trans rfl, own_string (P := Tryz.prog) Tryz.underlying47 Tryz.underlying5 Tryz.underlying9 (Kd.own_of_R aj.out)⟩ (fun hHeld => ?_)
          clear hK K
          refine nr_ 36 ?_
          refine pu_ 7 (some 37) #[true, true, true, true, true, true, true, true, false, true, true, false, false] HT_ rfl rfl ?_
          refine pu_ 8 (some 38) #[true, true, true, true, true, true, true, true, true, true, true, false, false] HT_ rfl rfl ?_
          refine pu_ 11 (some 41) #[true, true, true, true, true, true, true, true, true, true, true, true, false] HT_ rfl rfl ?_
          refine pu_ 12 (some 2) #[true, true, true, true, true, true, true, true, true, true, true, true, true] HT_ rfl rfl ?_
          refine done_ (done_of HT_.out (by kernel_rfl)) ?_
          try go_wp2
          go_ret
          exact ⟨tw_, (tb_ HB.out)⟩
         ·
          rw [if_neg c34] at H
          exact absurd H (by simp)
        ·
         rw [if_neg c33] at H
         exact absurd H (by simp)
       ·
        rw [if_neg c32] at H
        exact absurd H (by simp)
      ·
       rw [if_neg c30] at H
       exact absurd H (by simp)
 ·
  replace c3 := Bool.eq_false_iff.mpr c3
  subst c3
  have H1 : (some (⟨#[]⟩ : ByteArray)) = some r := by rw [if_neg (show ¬ (false = true) by decide)] at H; exact H
  clear H
  have H := H1
  clear H1
  obtain rfl := Option.some.inj H
  go_enter Tryz.func44, Tryz.ntmps44
  go_wp2_with (first | ((with_reducible refine gate_dst (N := 1) rfl ?_); refine box_event ?hg (N := 1) ?hd (cs := #[.slice am ad.length an, .int .i64 a0_1, .slice ar ab.length au]) (t := 39) ?hr ?_; (case hd => rfl); (case hg => rfl); (case hr => first | (go_simp; done) | (go_simp; rfl)); intro al hg cg hbox hb; have aa := Aside0.mk (hbox); have aZ := gx_ HB hg; have a3 := gx_ HB hg; replace HB := bs_ HB hb; clear hb hbox hg; have bf := cz_ aa 0; have bg := cz_ aa 1; have bh := cz_ aa 2; have bi := blk_frozen aa.out 0; have bj := blk_frozen aa.out 1; have bk := blk_frozen aa.out 2) | ((with_reducible refine gate_callee (f := 60) rfl ?_); refine gl_ (some 7) Tryz.func60 #[.agg #[.slice am ad.length an, .int .i64 a0_1, .slice ar ab.length au]] ?_; (with_reducible refine (impl_PlaceOk.calls k _ _ ad a0_1 _ _ ab false _ ?s1 ?s2 ?s3 ?s4 A2.out).mono ?_); (case s1 => exact tD_); (case s2 => exact aw.out); (case s3 => exact tD_); (case s4 => exact aD.out); rintro e ch ⟨rfl, hb⟩; refine ⟨_, rfl, ?_⟩; replace aa := bb_ aa hb; replace HB := bs_ HB hb; (try clear hb); (try clear hb2); (try clear hk); (try clear hi)))
  go_ret
  exact ⟨tw_, (tb_ HB.out)⟩

/-! ### strings_Split: function 101 -/
def strings_Split.f (a0 : ByteArray) (a1 : ByteArray) : Option (List ByteArray) := if a0.size < 4294967281 ∧ 1 ≤ a1.size then some (Lib.splitB a1 0 (Lib.countB a0 a1) a0) else none
theorem strings_Split.calls (a0 : ByteArray) (a1 : ByteArray) (r : List ByteArray) (w : World) (hG : GWb w) (h : strings_Split.f a0 a1 = some r) :
  Calls Tryz.prog 101 #[.string a0, .string a1] w fun e w' => ∃ v0_ : Value, e = .returned (v0_) ∧ Kd.R Kd.string 9 w' w.heap.size (fun _ => True) v0_ r ∧ Below w.heap.size w w' := by
 unfold strings_Split.f at h
 split at h
 ·
  rename_i hb
  obtain rfl := Option.some.inj h
  refine (Sh.Tryz.strings_Split_shaped a0 a1 w hG.shape hb.1 hb.2).mono fun e w' ⟨he, hw⟩ => ?_
  have hl : (Lib.splitB a1 0 (Lib.countB a0 a1) a0).length = Lib.countB a0 a1 + 1 := Lib.splitB_all a1 hb.2 0 _ a0 rfl
  have hle := Lib.countB_le a1 hb.2 a0.size a0 (Nat.le_refl _)
  have ho := own_lit_of (enc := Value.string) w w.heap.size 9 (Lib.splitB a1 0 (Lib.countB a0 a1) a0) (Nat.le_refl _) (by rw [hl]; omega)
  refine ⟨_, he, ?_, ?_⟩
  ·
   rw [hw]
   rw [hl] at ho
   exact Kd.R_of_own (by rw [hl]; exact ho) (fun _ _ => trivial)
  ·
   rw [hw]
   exact (Below.refl _ _).alloc (Nat.le_refl _) _
 ·
  cases h

/-! ### strconv_Atoi: function 102 -/
def strconv_Atoi.f (a0 : ByteArray) : Option (Int × Option Int) := if a0.size ≤ 140737488355328 then some (match Lib.atoiAll a0.data.toList with | .ok v => (v, none) | Lib.NumEnd.syntax => (0, some 0) | .range => (Lib.atoiSat a0.data.toList, some 0)) else none
theorem strconv_Atoi.calls (a0 : ByteArray) (r1 : Int) (r2 : Option Int) (w : World) (hG : GWb w) (h : strconv_Atoi.f a0 = some (r1, r2)) :
  Calls Tryz.prog 102 #[.string a0] w fun e w' => ∃ N_ : Int, e = .returned (.tuple #[.int .i64 r1, errW (r2.map fun _ => N_)]) ∧ Below w.heap.size w w' := by
 unfold strconv_Atoi.f at h
 split at h
 ·
  rename_i hb
  rcases ha : Lib.atoiAll a0.data.toList with v | _ | _
  ·
   simp only [ha, Option.some.injEq, Prod.mk.injEq] at h
   obtain ⟨rfl, rfl⟩ := h
   exact (Sh.Tryz.strconv_Atoi_ok a0 (by omega) v ha w).mono fun e w' ⟨he, hw⟩ => ⟨0, he, atoi_below hw⟩
  ·
   simp only [ha, Option.some.injEq, Prod.mk.injEq] at h
   obtain ⟨rfl, rfl⟩ := h
   obtain ⟨t, p, hv⟩ := hG.esyn
   exact (Sh.Tryz.strconv_Atoi_syntax_var a0 (by omega) ha t p w hv).mono fun e w' ⟨N, he, _, _, hw⟩ => ⟨(N : Int), he, hw⟩
  ·
   simp only [ha, Option.some.injEq, Prod.mk.injEq] at h
   obtain ⟨rfl, rfl⟩ := h
   obtain ⟨t, p, hv⟩ := hG.erng
   exact (Sh.Tryz.strconv_Atoi_range_var a0 (by omega) ha t p w hv).mono fun e w' ⟨N, he, _, _, hw⟩ => ⟨(N : Int), he, hw⟩
 ·
  cases h

end Go.Proofs.YtfibbdefcppfcaaGreatDoor.MFnExactStoreMend
