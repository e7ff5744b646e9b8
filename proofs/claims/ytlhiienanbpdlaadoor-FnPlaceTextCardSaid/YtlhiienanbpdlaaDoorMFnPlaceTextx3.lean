/- For the law FnPlaceText: walks of the functions that it reaches: each call returns what the plain function beside it tells. The conditions stand in each statement. -/
import Derived.Test.YtlhiienanbpdlaaDoorV
import Derived.Test.YtlhiienanbpdlaaDoorMFnPlaceTextx0
import Derived.Test.YtlhiienanbpdlaaDoorMFnPlaceTextx2
namespace Go.Proofs.YtlhiienanbpdlaaDoor.MFnPlaceText
open Go.RowKit Go.Proofs.YtlhiienanbpdlaaDoorW.PrintWords Go.Proofs.YtlhiienanbpdlaaDoorW.PrintLast Go.Proofs.YtlhiienanbpdlaaDoorW.PrintMore
attribute [local go_sem] max2_int min2_int max_two min_two max_three min_three max_four min_four   -- for this text's walks alone
set_option linter.unusedVariables false
set_option linter.unusedSimpArgs false

/-! ### impl_rowText: function 109 -/
def impl_rowText.l0 : Nat → List ByteArray → List Int → Int → Int → Option (ByteArray)
 | 0, _, _, _, _ => none
 | k + 1, x3, x7, x8, x9 => if x9 < x8 then (if 0 ≤ x9 then (if x9 < (x7.length : Int) then ((strconv_Itoa.f (rd x7 x9)).bind fun az => (if x3.length < 8796093022208 then (impl_rowText.l0 k (x3 ++ [az]) x7 x8 (wrap64 (x9 + 1))) else (none))) else (none)) else (none)) else ((strings_Join.f x3 (⟨#[44]⟩ : ByteArray)).bind fun aN => (some aN))
def impl_rowText.f (k : Nat) (l0 : List Int) : Option (ByteArray) := impl_rowText.l0 k (([] : List ByteArray)) l0 (l0.length : Int) 0
theorem impl_rowText.mono_l : ∀ k, (∀ y0 y1 y2 y3, LeO (impl_rowText.l0 k y0 y1 y2 y3) (impl_rowText.l0 (k + 1) y0 y1 y2 y3))
 | 0 => fun _ _ _ _ r h => by simp [impl_rowText.l0] at h
 | k + 1 => by
  have ih0 := impl_rowText.mono_l k
  ·
   intro y0 y1 y2 y3
   unfold impl_rowText.l0
   repeat' (with_reducible first | exact ih0 _ _ _ _ | exact mr_ | exact mn_ | refine mi_ ?_ ?_ | refine mb_ ?_ (fun _ => ?_))
theorem impl_rowText.mono : ∀ a0 k, LeO (impl_rowText.f k a0) (impl_rowText.f (k + 1) a0) := by
 intro a0 k
 have ih0 := impl_rowText.mono_l k
 unfold impl_rowText.f
 repeat' (with_reducible first | exact ih0 _ _ _ _ | exact mr_ | exact mn_ | refine mi_ ?_ ?_ | refine mb_ ?_ (fun _ => ?_))
set_option maxHeartbeats 8000000 in
set_option maxRecDepth 100000 in
theorem impl_rowText.calls (k : Nat) (A0 : Option Addr) (c0 : Nat) (l0 : List Int) (r : ByteArray) (w : World) (hr0 : Kd.C (Kd.int .i64) w A0 l0.length l0) (hc0 : l0.length ≤ c0) (hG : GWb w) (h : impl_rowText.f k l0 = some r) :
  Calls Tryd.prog 109 #[.slice A0 l0.length c0] w fun e w' => e = .returned (.string r) ∧ Below w.heap.size w w' := by
 have HG := Aside0.mk hG
 clear hG
 have HR0 := Aside0.mk hr0
 have HC0 := Aside0.mk hc0
 clear hr0 hc0
 have HB := Aside0.mk (Below.refl w.heap.size w)
 have H : (impl_rowText.l0 k (([] : List ByteArray)) l0 (l0.length : Int) 0) = some r := h
 clear h
 obtain ⟨a7, aA⟩ : ∃ y_ : List ByteArray, y_ = (([] : List ByteArray)) := ⟨_, rfl⟩
 replace H : (impl_rowText.l0 k a7 l0 (l0.length : Int) 0) = some r := yq_ aA H
 have aJ := Aside0.mk aA
 clear aA
 have H' := Aside0.mk H
 clear H
 go_enter Tryd.func109, Tryd.ntmps109
 go_wp2_with (first | ((with_reducible refine gate_dst (N := 6) rfl ?_); refine Kd.R_lit Kd.string _ 9 ?hg (N := 6) ?hd (xs := ([] : List ByteArray)) (inner := []) (ok := fun _ => True) (okp := fun _ => True) ?hr ?hp (fun _ hk => hk) trivial (Below.refl _ _) (Nat.le_refl _) (by simp) ?_; (case hd => rfl); (case hg => rfl); (case hr => first | (go_simp; done) | (go_simp; rfl)); (case hp => exact (Reps.none _ _)); intro cm w2 ho3 hb hg_ hnew_; clear hg_ hnew_; (first | rw [← aJ.out] at ho3 | (simp only [Int.reduceToNat] at ho3; rw [← aJ.out] at ho3)); have a8 := rx_ ho3 HB; replace HB := bs_ HB hb; clear hb ho3))
 go_loopg [3, 9] k (fun kq v3 v9 w' => ∃ (ac : List ByteArray) (ak : Int), v9 = .int .i64 ak ∧ Aside0 (impl_rowText.l0 kq ac l0 (l0.length : Int) ak = some r) ∧ Aside0 (kq ≤ k) ∧ Aside0 (Kd.R Kd.string 9 w' w.heap.size (fun _ => True) v3 ac) ∧ Aside0 (Below w.heap.size w w'))
 case atStart => exact ⟨(a7), (0), tx_, H', ⟨Nat.le_refl _⟩, ⟨rR_ a8.out⟩, ⟨(tb_ HB.out)⟩⟩
 case round =>
  clear H'
  try clear c1
  try clear p2
  obtain ⟨ac, ak, rfl, HA, HK1, ad, HB⟩ := hrel
  cases gk with
  | zero => exact absurd HA.out (by simp [impl_rowText.l0])
  | succ k1 =>
   have H := HA.out
   clear HA
   simp only [impl_rowText.l0] at H
   by_cases c4 : ak < (l0.length : Int)
   ·
    rw [if_pos c4] at H
    have bz : decide (ak < (l0.length : Int)) = true := decide_eq_true c4
    clear c4
    by_cases c5 : 0 ≤ ak
    ·
     rw [if_pos c5] at H
     have cn : decide (0 ≤ ak) = true := decide_eq_true c5
     clear c5
     by_cases c6 : ak < (l0.length : Int)
     ·
      rw [if_pos c6] at H
      have co : decide (ak < (l0.length : Int)) = true := decide_eq_true c6
      clear c6
      obtain ⟨az, A7, H⟩ := bnd_ H
      try dsimp only at H
      by_cases c8 : ac.length < 8796093022208
      ·
       rw [if_pos c8] at H
       have bB := Aside0.mk c8
       clear c8
       obtain ⟨a9, aC⟩ : ∃ y_ : List ByteArray, y_ = (ac ++ [az]) := ⟨_, rfl⟩
       replace H : (impl_rowText.l0 k1 a9 l0 (l0.length : Int) (wrap64 (ak + 1))) = some r := yq_ aC H
       have bb := Aside0.mk aC
       clear aC
       have H' := Aside0.mk H
       clear H
       have p156 : 0 ≤ (ak : Int) := od_
       have q156 : ak < (l0.length : Int) := od_
       obtain ⟨ad156, e156, aq⟩ := Kd.at_int HR0.out ak p156 q156
       cases e156
       replace aq := (HB.out.cell (World.block_lt_of_cell? w _ aq)).trans aq
       replace p156 := eq_true p156
       replace q156 := eq_true q156
       go_wp2_with (first | ((with_reducible refine gate_callee (f := 98) rfl ?_); refine gl_ (some 15) Tryd.func98 #[.int .i64 (rd l0 ak)] ?_; (with_reducible refine (strconv_Itoa.calls (rd l0 ak) az _ ?s1 A7.out).mono ?_); (case s1 => exact GWb.below HG.out (tb_ HB.out)); rintro e w9 ⟨rfl, hb⟩; refine ⟨_, rfl, ?_⟩; replace ad := rb_ ad hb; replace HB := bs_ HB hb; (try clear hb); (try clear hb2); (try clear hk); (try clear hi)) | ((with_reducible refine gate_builtin (b := .append) (xs := #[.tmp 13, .tmp 16]) rfl ?_); at_builtin; refine Kd.R_append Kd.string (w0 := w) w.heap.size rfl (.tmp 13) (.tmp 16) 105 9 (.string ⟨#[]⟩) 16 rfl Tryd.underlying105 info9 rfl (by decide) (by omega) u3 ac az [.string az] (fun _ => True) (fun _ => False) rfl rfl ?aP (fun _ hk => hk.elim) ?aF ?aO ?aB ?aS ?aL ?_; (case aP => exact rfl); (case aB => exact (tb_ HB.out)); (case aF => exact (fun _ _ => trivial)); (case aO => exact (rR_ ad.out)); (case aS => exact (below_size (tb_ HB.out))); (case aL => have := bB.out; omega); intro cp cv ho hb hg hat; rw [← bb.out] at ho; replace HB := Aside0.mk (hb); have bc := Aside0.mk (ho); clear ad ho hb hg hat))
       go_roundg k1
       case measure => have := HK1.out; omega
       case rel => exact ⟨(a9), (wrap64 (ak + 1)), tx_, H', ⟨by have := HK1.out; omega⟩, ⟨rR_ bc.out⟩, ⟨(tb_ HB.out)⟩⟩
      ·
       rw [if_neg c8] at H
       exact absurd H (by simp)
     ·
      rw [if_neg c6] at H
      exact absurd H (by simp)
    ·
     rw [if_neg c5] at H
     exact absurd H (by simp)
   ·
    rw [if_neg c4] at H
    have bz : decide (ak < (l0.length : Int)) = false := decide_eq_false c4
    clear c4
    obtain ⟨aN, A11, H⟩ := bnd_ H
    try dsimp only at H
    obtain rfl := Option.some.inj H
    obtain ⟨bC, bD, bE⟩ := Kd.R_slice ad.out
    subst bE
    go_wp2_with (first | ((with_reducible refine gate_callee (f := 130) rfl ?_); refine gl_ (some 20) Tryd.func130 #[.slice bC ac.length bD, .string (⟨#[44]⟩ : ByteArray)] ?_; (with_reducible refine (strings_Join.calls _ _ ac (⟨#[44]⟩ : ByteArray) aN _ ?s1 ?s2 A11.out).mono ?_); (case s1 => repeat (first | exact (Kd.R_reads' ad.out).2.2 | (with_reducible refine Kd.C_alloc ?_ _) | (with_reducible refine Kd.C_drewN ?_ _) | (with_reducible refine Kd.C_drew ?_))); (case s2 => exact (Kd.R_reads' ad.out).2.1); rintro e cw ⟨rfl, hb⟩; refine ⟨_, rfl, ?_⟩; replace ad := rb_ ad hb; replace HB := bs_ HB hb; (try clear hb); (try clear hb2); (try clear hk); (try clear hi)))
    go_ret
    exact ⟨tw_, (tb_ HB.out)⟩

/-! ### impl_PlaceText: function 60 -/
def impl_PlaceText.l0 : Nat → List Int → List Int → Int → Int → List Int → Int → List Int → Option (ByteArray)
 | 0, _, _, _, _, _, _, _ => none
 | k + 1, x3, x11, x12, x13, ar, au, aI => if x13 < x12 then (if 0 ≤ x13 then (if x13 < (x11.length : Int) then (if x3.length < 140737488355328 then (impl_PlaceText.l0 k (x3 ++ [(wrap64 (97 + (rd x11 x13))) % 256]) x11 x12 (wrap64 (x13 + 1)) ar au aI) else (none)) else (none)) else (none)) else (if (x3.length : Int) = 0 then (if x3.length < 140737488355328 then ((some (x3 ++ [46] : List Int)).bind fun ap => ((impl_rowText.f k ar).bind fun ae => (if ae.size + 1 ≤ 9223372036854775807 then ((strconv_Itoa.f au).bind fun ah => (if (ae ++ (⟨#[32]⟩ : ByteArray)).size + ah.size ≤ 9223372036854775807 then (if ((ae ++ (⟨#[32]⟩ : ByteArray)) ++ ah).size + 1 ≤ 9223372036854775807 then (if (((ae ++ (⟨#[32]⟩ : ByteArray)) ++ ah) ++ (⟨#[32]⟩ : ByteArray)).size + (strOfNums ap).size ≤ 9223372036854775807 then (some ((((ae ++ (⟨#[32]⟩ : ByteArray)) ++ ah) ++ (⟨#[32]⟩ : ByteArray)) ++ (strOfNums ap))) else (none)) else (none)) else (none))) else (none)))) else (none)) else ((impl_rowText.f k ar).bind fun ai => (if ai.size + 1 ≤ 9223372036854775807 then ((strconv_Itoa.f au).bind fun aj => (if (ai ++ (⟨#[32]⟩ : ByteArray)).size + aj.size ≤ 9223372036854775807 then (if ((ai ++ (⟨#[32]⟩ : ByteArray)) ++ aj).size + 1 ≤ 9223372036854775807 then (if (((ai ++ (⟨#[32]⟩ : ByteArray)) ++ aj) ++ (⟨#[32]⟩ : ByteArray)).size + (strOfNums x3).size ≤ 9223372036854775807 then (some ((((ai ++ (⟨#[32]⟩ : ByteArray)) ++ aj) ++ (⟨#[32]⟩ : ByteArray)) ++ (strOfNums x3))) else (none)) else (none)) else (none))) else (none))))
def impl_PlaceText.f (k : Nat) (af : List Int) (a0_1 : Int) (ab : List Int) : Option (ByteArray) := (impl_PlaceOk.f k af a0_1 ab).bind fun aD => (if aD = true then (impl_PlaceText.l0 k (([] : List Int)) ab (ab.length : Int) 0 af a0_1 ab) else (some (⟨#[]⟩ : ByteArray)))
theorem impl_PlaceText.mono_l : ∀ k, (∀ y0 y1 y2 y3 y4 y5 y6, LeO (impl_PlaceText.l0 k y0 y1 y2 y3 y4 y5 y6) (impl_PlaceText.l0 (k + 1) y0 y1 y2 y3 y4 y5 y6))
 | 0 => fun _ _ _ _ _ _ _ r h => by simp [impl_PlaceText.l0] at h
 | k + 1 => by
  have ih0 := impl_PlaceText.mono_l k
  ·
   intro y0 y1 y2 y3 y4 y5 y6
   unfold impl_PlaceText.l0
   repeat' (with_reducible first | exact ih0 _ _ _ _ _ _ _ | exact impl_PlaceOk.mono _ _ _ _ | exact impl_rowText.mono _ _ | exact mr_ | exact mn_ | refine mi_ ?_ ?_ | refine mb_ ?_ (fun _ => ?_))
theorem impl_PlaceText.mono : ∀ a0 a1 a2 k, LeO (impl_PlaceText.f k a0 a1 a2) (impl_PlaceText.f (k + 1) a0 a1 a2) := by
 intro a0 a1 a2 k
 have ih0 := impl_PlaceText.mono_l k
 unfold impl_PlaceText.f
 repeat' (with_reducible first | exact ih0 _ _ _ _ _ _ _ | exact impl_PlaceOk.mono _ _ _ _ | exact impl_rowText.mono _ _ | exact mr_ | exact mn_ | refine mi_ ?_ ?_ | refine mb_ ?_ (fun _ => ?_))
def impl_PlaceText.T11 : Bool × List (List Nat × List Nat) := (true, [([], []), ([0], [0]), ([1], [1]), ([2], [2]), ([], []), ([4], [4]), ([5, 2], [5]), ([3, 6], [3, 6]), ([7], [7]), ([], []), ([9], [9]), ([8, 10], [8, 10]), ([11, 6, 0, 1, 2, 3, 4, 5, 6, 7, 8, 9, 10, 11], [11])])
def impl_PlaceText.B11 : List Nat := [0, 1, 3, 7, 0, 16, 55, 127, 255, 0, 512, 2047, 4095]
theorem impl_PlaceText.tab11 : rtab .any (opsOf Tryd.f60 11) = impl_PlaceText.T11 := by kernel_rfl
theorem impl_PlaceText.bits11 : waitsOk impl_PlaceText.T11.2 impl_PlaceText.B11 = true := by kernel_rfl
set_option maxHeartbeats 8000000 in
set_option maxRecDepth 100000 in
theorem impl_PlaceText.calls (k : Nat) (an : Option Addr) (ao : Nat) (af : List Int) (a0_1 : Int) (av : Option Addr) (aw : Nat) (ab : List Int) (r : ByteArray) (w : World) (hr0_0 : Kd.C (Kd.int .i64) w an af.length af) (hc0_0 : af.length ≤ ao) (hr0_2 : Kd.C (Kd.int .i64) w av ab.length ab) (hc0_2 : ab.length ≤ aw) (hG : GWb w) (h : impl_PlaceText.f k af a0_1 ab = some r) :
  Calls Tryd.prog 60 #[.agg #[.slice an af.length ao, .int .i64 a0_1, .slice av ab.length aw]] w fun e w' => e = .returned (.string r) ∧ Below w.heap.size w w' := by
 have HG := Aside0.mk hG
 clear hG
 have hu25 := Tryd.underlying25
 have bM := Aside0.mk hr0_0
 have ay := Aside0.mk hc0_0
 clear hr0_0 hc0_0
 have bd := Aside0.mk hr0_2
 have aK := Aside0.mk hc0_2
 clear hr0_2 hc0_2
 have HB := Aside0.mk (Below.refl w.heap.size w)
 have H : ((impl_PlaceOk.f k af a0_1 ab).bind fun aD => (if aD = true then (impl_PlaceText.l0 k (([] : List Int)) ab (ab.length : Int) 0 af a0_1 ab) else (some (⟨#[]⟩ : ByteArray)))) = some r := h
 clear h
 obtain ⟨aD, A2, H⟩ := bnd_ H
 try dsimp only at H
 by_cases c3 : aD = true
 ·
  subst c3
  have H1 : (impl_PlaceText.l0 k (([] : List Int)) ab (ab.length : Int) 0 af a0_1 ab) = some r := by rw [if_pos rfl] at H; exact H
  clear H
  have H := H1
  clear H1
  obtain ⟨be, aE⟩ : ∃ y_ : List Int, y_ = (([] : List Int)) := ⟨_, rfl⟩
  replace H : (impl_PlaceText.l0 k be ab (ab.length : Int) 0 af a0_1 ab) = some r := yq_ aE H
  have aM := Aside0.mk aE
  clear aE
  have H' := Aside0.mk H
  clear H
  go_enter Tryd.func60, Tryd.ntmps60
  go_wp2_with (first | ((with_reducible refine gate_dst (N := 1) rfl ?_); refine box_event ?hg (N := 1) ?hd (cs := #[.slice an af.length ao, .int .i64 a0_1, .slice av ab.length aw]) (t := 25) ?hr ?_; (case hd => rfl); (case hg => rfl); (case hr => first | (go_simp; done) | (go_simp; rfl)); intro am hg w4 hbox hb; have aa := Aside0.mk (hbox); have bf := gx_ HB hg; have bg := gx_ HB hg; replace HB := bs_ HB hb; clear hb hbox hg; have aQ := cz_ aa 0; have aR := cz_ aa 1; have aU := cz_ aa 2; have aV := blk_frozen aa.out 0; have aW := blk_frozen aa.out 1; have aX := blk_frozen aa.out 2) | ((with_reducible refine gate_callee (f := 63) rfl ?_); refine gl_ (some 7) Tryd.func63 #[.agg #[.slice an af.length ao, .int .i64 a0_1, .slice av ab.length aw]] ?_; (with_reducible refine (impl_PlaceOk.calls k _ _ af a0_1 _ _ ab true _ ?s1 ?s2 ?s3 ?s4 A2.out).mono ?_); (case s1 => exact tD_); (case s2 => exact ay.out); (case s3 => exact tD_); (case s4 => exact aK.out); rintro e w6 ⟨rfl, hb⟩; refine ⟨_, rfl, ?_⟩; replace aa := bb_ aa hb; replace HB := bs_ HB hb; (try clear hb); (try clear hb2); (try clear hk); (try clear hi)) | ((with_reducible refine gate_dst (N := 9) rfl ?_); refine Kd.R_lit (Kd.int .u8) _ 5 ?hg (N := 9) ?hd (xs := ([] : List Int)) (inner := []) (ok := fun _ => True) (okp := fun _ => True) ?hr ?hp (fun _ hk => hk) trivial (Below.refl _ _) (Nat.le_refl _) (by simp) ?_; (case hd => rfl); (case hg => rfl); (case hr => first | (go_simp; done) | (go_simp; rfl)); (case hp => exact (Reps.none _ _)); intro cq w7 ho8 hb hg_ hnew_; clear hg_ hnew_; (first | rw [← aM.out] at ho8 | (simp only [Int.reduceToNat] at ho8; rw [← aM.out] at ho8)); have bh := rx_ ho8 HB; replace aa := bb_ aa hb; replace HB := bs_ HB hb; clear hb ho8; have aY := cz_ aa 0; have aZ := cz_ aa 1; have a3 := cz_ aa 2; have a4 := blk_frozen aa.out 0; have a5 := blk_frozen aa.out 1; have a6 := blk_frozen aa.out 2))
  go_loopg [3, 13] k (fun kq v3 cr w' => ∃ (ac : List Int) (ag : Int), cr = .int .i64 ag ∧ Aside0 (impl_PlaceText.l0 kq ac ab (ab.length : Int) ag af a0_1 ab = some r) ∧ Aside0 (kq ≤ k) ∧ Aside0 (Kd.R (Kd.int .u8) 5 w' w.heap.size (fun _ => True) v3 ac) ∧ Aside0 (w'.heap[am]? = some (.cells #[(.slice an af.length ao), .int .i64 a0_1, (.slice av ab.length aw)] 25 (0, 0))) ∧ Aside0 (Below w.heap.size w w'))
  case atStart => exact ⟨(be), (0), tx_, H', ⟨Nat.le_refl _⟩, ⟨rR_ bh.out⟩, ⟨tk_ aa.out⟩, ⟨(tb_ HB.out)⟩⟩
  case round =>
   clear H'
   try clear p2
   try clear c3
   try clear c6
   try clear aQ
   try clear aR
   try clear aU
   try clear aY
   try clear aZ
   try clear a3
   try clear aV
   try clear aW
   try clear aX
   try clear a4
   try clear a5
   try clear a6
   obtain ⟨ac, ag, rfl, HA, HK1, ad, aa, HB⟩ := hrel
   cases gk with
   | zero => exact absurd HA.out (by simp [impl_PlaceText.l0])
   | succ k1 =>
    have H := HA.out
    clear HA
    simp only [impl_PlaceText.l0] at H
    by_cases c10 : ag < (ab.length : Int)
    ·
     rw [if_pos c10] at H
     have bi : decide (ag < (ab.length : Int)) = true := decide_eq_true c10
     clear c10
     by_cases c11 : 0 ≤ ag
     ·
      rw [if_pos c11] at H
      have bN : decide (0 ≤ ag) = true := decide_eq_true c11
      clear c11
      by_cases c12 : ag < (ab.length : Int)
      ·
       rw [if_pos c12] at H
       have bO : decide (ag < (ab.length : Int)) = true := decide_eq_true c12
       clear c12
       by_cases c13 : ac.length < 140737488355328
       ·
        rw [if_pos c13] at H
        have bj := Aside0.mk c13
        clear c13
        obtain ⟨bk, aG⟩ : ∃ y_ : List Int, y_ = (ac ++ [(wrap64 (97 + (rd ab ag))) % 256]) := ⟨_, rfl⟩
        replace H : (impl_PlaceText.l0 k1 bk ab (ab.length : Int) (wrap64 (ag + 1)) af a0_1 ab) = some r := yq_ aG H
        have bl := Aside0.mk aG
        clear aG
        have H' := Aside0.mk H
        clear H
        have p167 : 0 ≤ (ag : Int) := od_
        have q167 : ag < (ab.length : Int) := od_
        obtain ⟨ad167, e167, ax⟩ := Kd.at_int bd.out ag p167 q167
        cases e167
        replace ax := (HB.out.cell (World.block_lt_of_cell? w _ ax)).trans ax
        replace p167 := eq_true p167
        replace q167 := eq_true q167
        go_wp2_with (first | ((with_reducible refine gate_builtin (b := .append) (xs := #[.tmp 17, .tmp 21]) rfl ?_); at_builtin; refine Kd.R_append (Kd.int .u8) (w0 := w) w.heap.size rfl (.tmp 17) (.tmp 21) 22 5 (.int .u8 0) 1 rfl Tryd.underlying22 info5 rfl (by decide) (by omega) u3 ac ((wrap64 (97 + (rd ab ag))) % 256) [.int .u8 ((wrap64 (97 + (rd ab ag))) % 256)] (fun _ => True) (fun _ => False) rfl rfl ?aP (fun _ hk => hk.elim) ?aF ?aO ?aB ?aS ?aL ?_; (case aP => exact rfl); (case aB => exact (tb_ HB.out)); (case aF => exact (fun _ _ => trivial)); (case aO => exact (rR_ ad.out)); (case aS => exact (below_size (tb_ HB.out))); (case aL => have := bj.out; omega); intro ct cx ho hb hg hat; rw [← bl.out] at ho; replace aa := bg_ aa hg (Kd.R_ne ad.out aa.out (by decide)); replace HB := Aside0.mk (hb); have bm := Aside0.mk (ho); clear ad ho hb hg hat))
        go_roundg k1
        case measure => have := HK1.out; omega
        case rel => exact ⟨(bk), (wrap64 (ag + 1)), tx_, H', ⟨by have := HK1.out; omega⟩, ⟨rR_ bm.out⟩, ⟨tk_ aa.out⟩, ⟨(tb_ HB.out)⟩⟩
       ·
        rw [if_neg c13] at H
        exact absurd H (by simp)
      ·
       rw [if_neg c12] at H
       exact absurd H (by simp)
     ·
      rw [if_neg c11] at H
      exact absurd H (by simp)
    ·
     rw [if_neg c10] at H
     have bi : decide (ag < (ab.length : Int)) = false := decide_eq_false c10
     clear c10
     by_cases c15 : (ac.length : Int) = 0
     ·
      rw [if_pos c15] at H
      have bn : ((ac.length : Int) == 0) = true := beq_iff_eq.mpr c15
      have bo : ((ac.length : Int) != 0) = false := bne_eq_false_iff_eq.mpr c15
      clear c15
      by_cases c16 : ac.length < 140737488355328
      ·
       rw [if_pos c16] at H
       have bp := Aside0.mk c16
       clear c16
       obtain ⟨ap, aH⟩ : ∃ y_ : List Int, y_ = (ac ++ [46]) := ⟨_, rfl⟩
       replace H : ((impl_rowText.f k1 af).bind fun ae => (if ae.size + 1 ≤ 9223372036854775807 then ((strconv_Itoa.f a0_1).bind fun ah => (if (ae ++ (⟨#[32]⟩ : ByteArray)).size + ah.size ≤ 9223372036854775807 then (if ((ae ++ (⟨#[32]⟩ : ByteArray)) ++ ah).size + 1 ≤ 9223372036854775807 then (if (((ae ++ (⟨#[32]⟩ : ByteArray)) ++ ah) ++ (⟨#[32]⟩ : ByteArray)).size + (strOfNums ap).size ≤ 9223372036854775807 then (some ((((ae ++ (⟨#[32]⟩ : ByteArray)) ++ ah) ++ (⟨#[32]⟩ : ByteArray)) ++ (strOfNums ap))) else (none)) else (none)) else (none))) else (none))) = some r := yq_ aH H
       have bq := Aside0.mk aH
       clear aH
       obtain ⟨ae, A17, H⟩ := bnd_ H
       try dsimp only at H
       by_cases c18 : ae.size + 1 ≤ 9223372036854775807
       ·
        rw [if_pos c18] at H
        have bP := eq_true c18
        have bQ : decide (ae.size + 1 ≤ 9223372036854775807) = true := decide_eq_true c18
        try have bR : (9223372036854775807 < ae.size + 1) = False := eq_false (Nat.not_lt.2 c18)
        obtain ⟨ah, A19, H⟩ := bnd_ H
        try dsimp only at H
        by_cases c20 : (ae ++ (⟨#[32]⟩ : ByteArray)).size + ah.size ≤ 9223372036854775807
        ·
         rw [if_pos c20] at H
         have bS := eq_true c20
         have bU : decide ((ae ++ (⟨#[32]⟩ : ByteArray)).size + ah.size ≤ 9223372036854775807) = true := decide_eq_true c20
         try have bV : (9223372036854775807 < (ae ++ (⟨#[32]⟩ : ByteArray)).size + ah.size) = False := eq_false (Nat.not_lt.2 c20)
         try have bW : (9223372036854775807 < ae.size + 1 + ah.size) = False := eq_false (by have h := c20; simp only [ByteArray.size_append] at h; simp only [ByteArray.size] at h ⊢; simp at h ⊢; omega)
         by_cases c21 : ((ae ++ (⟨#[32]⟩ : ByteArray)) ++ ah).size + 1 ≤ 9223372036854775807
         ·
          rw [if_pos c21] at H
          have bX := eq_true c21
          have bZ : decide (((ae ++ (⟨#[32]⟩ : ByteArray)) ++ ah).size + 1 ≤ 9223372036854775807) = true := decide_eq_true c21
          try have b0 : (9223372036854775807 < ((ae ++ (⟨#[32]⟩ : ByteArray)) ++ ah).size + 1) = False := eq_false (Nat.not_lt.2 c21)
          try have b1 : (9223372036854775807 < ae.size + 1 + ah.size + 1) = False := eq_false (by have h := c21; simp only [ByteArray.size_append] at h; simp only [ByteArray.size] at h ⊢; simp at h ⊢; omega)
          by_cases c22 : (((ae ++ (⟨#[32]⟩ : ByteArray)) ++ ah) ++ (⟨#[32]⟩ : ByteArray)).size + (strOfNums ap).size ≤ 9223372036854775807
          ·
           rw [if_pos c22] at H
           have b2 := eq_true c22
           have b3 : decide ((((ae ++ (⟨#[32]⟩ : ByteArray)) ++ ah) ++ (⟨#[32]⟩ : ByteArray)).size + (strOfNums ap).size ≤ 9223372036854775807) = true := decide_eq_true c22
           try have b4 : (9223372036854775807 < (((ae ++ (⟨#[32]⟩ : ByteArray)) ++ ah) ++ (⟨#[32]⟩ : ByteArray)).size + (strOfNums ap).size) = False := eq_false (Nat.not_lt.2 c22)
           try have b5 : (9223372036854775807 < ae.size + 1 + ah.size + 1 + (strOfNums ap).size) = False := eq_false (by have h := c22; simp only [ByteArray.size_append] at h; simp only [ByteArray.size] at h ⊢; simp at h ⊢; omega)
           obtain rfl := Option.some.inj H
           obtain ⟨bF, bG, bH⟩ := Kd.R_slice ad.out
           subst bH
           try go_wp2_with (first | ((with_reducible refine gate_builtin (b := .append) (xs := #[.tmp 27, .tmp 28]) rfl ?_); at_builtin; refine Kd.R_append (Kd.int .u8) (w0 := w) w.heap.size rfl (.tmp 27) (.tmp 28) 22 5 (.int .u8 0) 1 rfl Tryd.underlying22 info5 rfl (by decide) (by omega) (.slice bF ac.length bG) ac 46 [.int .u8 46] (fun _ => True) (fun _ => False) rfl rfl ?aP (fun _ hk => hk.elim) ?aF ?aO ?aB ?aS ?aL ?_; (case aP => exact rfl); (case aB => exact (tb_ HB.out)); (case aF => exact (fun _ _ => trivial)); (case aO => exact (rR_ ad.out)); (case aS => exact (below_size (tb_ HB.out))); (case aL => have := bp.out; omega); intro bI cu ho hb hg hat; rw [← bq.out] at ho; replace aa := bg_ aa hg (Kd.R_ne ad.out aa.out (by decide)); replace HB := Aside0.mk (hb); have al := Aside0.mk (ho); clear ad ho hb hg hat))
           replace al := rd_ al
           replace aa := dB_ aa
           replace HB := Aside0.mk (ld_ HB.out)
           refine start_ (n := 13) (S := fun w' => w'.cell? ⟨am, 0, none⟩ = some (.slice an af.length ao) ∧ w'.cell? ⟨am, 1, none⟩ = some (.int .i64 a0_1) ∧ w'.cell? ⟨am, 2, none⟩ = some (.slice av ab.length aw) ∧ (convert 22 9 bI).run Tryd.prog w' = .ok (.string (strOfNums ap)) w') (ds := []) #[false, false, false, false, false, false, false, false, false, false, false, false, false] (by kernel_rfl) rfl rfl ⟨(blk_cell aa.out 0).trans rfl, (blk_cell aa.out 1).trans rfl, (blk_cell aa.out 2).trans rfl, own_string (P := Tryd.prog) Tryd.underlying22 Tryd.underlying5 Tryd.underlying9 (Kd.own_of_R al.out)⟩ (fun hHeld => ?_); refine with_tabW impl_PlaceText.tab11 impl_PlaceText.bits11 (fun HT_ HW_ => ?_)
           generalize cu.drew = cy at al aa HB hHeld ⊢
           refine pu_ 0 (some 30) #[true, false, false, false, false, false, false, false, false, false, false, false, false] HT_ rfl rfl ?_
           refine pu_ 4 (some 34) #[true, false, false, false, true, false, false, false, false, false, false, false, false] HT_ rfl rfl ?_
           refine pu_ 9 (some 39) #[true, false, false, false, true, false, false, false, false, true, false, false, false] HT_ rfl rfl ?_
           refine ta_ 1 (some 31) #[true, true, false, false, true, false, false, false, false, true, false, false, false] HT_ HW_ hHeld rfl rfl ?_
           refine ta_ 5 (some 35) #[true, true, false, false, true, true, false, false, false, true, false, false, false] HT_ HW_ hHeld rfl rfl ?_
           refine ta_ 10 (some 40) #[true, true, false, false, true, true, false, false, false, true, true, false, false] HT_ HW_ hHeld rfl rfl ?_
           refine one_ (i := 2) (N := some 32) #[true, true, true, false, true, true, false, false, false, true, true, false, false] rfl rfl (one_of HT_.out (by kernel_rfl)) (by decide) (fun K hK => ?_)
           refine goes_ Tryd.func109 (by kernel_rfl) rfl #[.slice an af.length ao] (by rfl) rfl rfl tz_ ?_
           with_reducible refine (impl_rowText.calls k1 _ _ af ae _ ?s1 ?s2 ?s3 A17.out).mono ?_
           (case s1 => exact tD_)
           (case s2 => exact ay.out)
           (case s3 => exact GWb.below HG.out (tb_ HB.out))
           rintro e cz ⟨rfl, hb⟩
           refine ⟨_, rfl, ?_⟩
           replace al := rb_ al hb
           replace aa := bb_ aa hb
           replace HB := bs_ HB hb
           (try clear hb)
           (try clear hb2)
           (try clear hk)
           (try clear hi)
           refine hK.out _ _ ⟨(blk_cell aa.out 0).trans rfl, (blk_cell aa.out 1).trans rfl, (blk_cell aa.out 2).trans rfl, own_string (P := Tryd.prog) Tryd.underlying22 Tryd.underlying5 Tryd.underlying9 (Kd.own_of_R al.out)⟩ (fun hHeld => ?_)
           clear hK K
           refine nr_ 32 ?_
           refine pu_ 3 (some 33) #[true, true, true, true, true, true, false, false, false, true, true, false, false] HT_ rfl rfl ?_
           refine one_ (i := 6) (N := some 36) #[true, true, true, true, true, true, true, false, false, true, true, false, false] rfl rfl (one_of HT_.out (by kernel_rfl)) (by decide) (fun K hK => ?_)
           refine goes_ Tryd.func98 (by kernel_rfl) rfl #[.int .i64 a0_1] (by rfl) rfl rfl tz_ ?_
           with_reducible refine (strconv_Itoa.calls a0_1 ah _ ?s1 A19.out).mono ?_
           (case s1 => exact GWb.below HG.out (tb_ HB.out))
           rintro e cA ⟨rfl, hb⟩
           refine ⟨_, rfl, ?_⟩
           replace al := rb_ al hb
           replace aa := bb_ aa hb
           replace HB := bs_ HB hb
           (try clear hb)
           (try clear hb2)
           (try clear hk)
           (try clear hi)
           refine hK.out _ _ ⟨(blk_cell aa.out 0).trans rfl, (blk_cell aa.out 1).trans rfl, (blk_cell aa.out 2).trans rfl, own_string (P := Tryd.prog) Tryd.underlying22 Tryd.underlying5 Tryd.underlying9 (Kd.own_of_R al.out)⟩ (fun hHeld => ?_)
           clear hK K
           refine nr_ 36 ?_
           refine pu_ 7 (some 37) #[true, true, true, true, true, true, true, true, false, true, true, false, false] HT_ rfl rfl ?_
           refine pu_ 8 (some 38) #[true, true, true, true, true, true, true, true, true, true, true, false, false] HT_ rfl rfl ?_
           refine pu_ 11 (some 41) #[true, true, true, true, true, true, true, true, true, true, true, true, false] HT_ rfl rfl ?_
           refine pu_ 12 (some 2) #[true, true, true, true, true, true, true, true, true, true, true, true, true] HT_ rfl rfl ?_
           refine done_ (done_of HT_.out (by kernel_rfl)) ?_
           try go_wp2
           go_ret
           exact ⟨tw_, (tb_ HB.out)⟩
          ·
           rw [if_neg c22] at H
           exact absurd H (by simp)
         ·
          rw [if_neg c21] at H
          exact absurd H (by simp)
        ·
         rw [if_neg c20] at H
         exact absurd H (by simp)
       ·
        rw [if_neg c18] at H
        exact absurd H (by simp)
      ·
       rw [if_neg c16] at H
       exact absurd H (by simp)
     ·
      rw [if_neg c15] at H
      have bn : ((ac.length : Int) == 0) = false := beq_eq_false_iff_ne.mpr c15
      have bo : ((ac.length : Int) != 0) = true := bne_iff_ne.mpr c15
      have b6 : ¬ (ac = []) := fun h_ => c15 (by rw [h_]; rfl)
      obtain ⟨ai, A29, H⟩ := bnd_ H
      try dsimp only at H
      by_cases c30 : ai.size + 1 ≤ 9223372036854775807
      ·
       rw [if_pos c30] at H
       have b7 := eq_true c30
       have b8 : decide (ai.size + 1 ≤ 9223372036854775807) = true := decide_eq_true c30
       try have b9 : (9223372036854775807 < ai.size + 1) = False := eq_false (Nat.not_lt.2 c30)
       obtain ⟨aj, A31, H⟩ := bnd_ H
       try dsimp only at H
       by_cases c32 : (ai ++ (⟨#[32]⟩ : ByteArray)).size + aj.size ≤ 9223372036854775807
       ·
        rw [if_pos c32] at H
        have ca := eq_true c32
        have cb : decide ((ai ++ (⟨#[32]⟩ : ByteArray)).size + aj.size ≤ 9223372036854775807) = true := decide_eq_true c32
        try have cc : (9223372036854775807 < (ai ++ (⟨#[32]⟩ : ByteArray)).size + aj.size) = False := eq_false (Nat.not_lt.2 c32)
        try have cd : (9223372036854775807 < ai.size + 1 + aj.size) = False := eq_false (by have h := c32; simp only [ByteArray.size_append] at h; simp only [ByteArray.size] at h ⊢; simp at h ⊢; omega)
        by_cases c33 : ((ai ++ (⟨#[32]⟩ : ByteArray)) ++ aj).size + 1 ≤ 9223372036854775807
        ·
         rw [if_pos c33] at H
         have ce := eq_true c33
         have cf : decide (((ai ++ (⟨#[32]⟩ : ByteArray)) ++ aj).size + 1 ≤ 9223372036854775807) = true := decide_eq_true c33
         try have cg : (9223372036854775807 < ((ai ++ (⟨#[32]⟩ : ByteArray)) ++ aj).size + 1) = False := eq_false (Nat.not_lt.2 c33)
         try have ch : (9223372036854775807 < ai.size + 1 + aj.size + 1) = False := eq_false (by have h := c33; simp only [ByteArray.size_append] at h; simp only [ByteArray.size] at h ⊢; simp at h ⊢; omega)
         by_cases c34 : (((ai ++ (⟨#[32]⟩ : ByteArray)) ++ aj) ++ (⟨#[32]⟩ : ByteArray)).size + (strOfNums ac).size ≤ 9223372036854775807
         ·
          rw [if_pos c34] at H
          have ci := eq_true c34
          have cj : decide ((((ai ++ (⟨#[32]⟩ : ByteArray)) ++ aj) ++ (⟨#[32]⟩ : ByteArray)).size + (strOfNums ac).size ≤ 9223372036854775807) = true := decide_eq_true c34
          try have ck : (9223372036854775807 < (((ai ++ (⟨#[32]⟩ : ByteArray)) ++ aj) ++ (⟨#[32]⟩ : ByteArray)).size + (strOfNums ac).size) = False := eq_false (Nat.not_lt.2 c34)
          try have cl : (9223372036854775807 < ai.size + 1 + aj.size + 1 + (strOfNums ac).size) = False := eq_false (by have h := c34; simp only [ByteArray.size_append] at h; simp only [ByteArray.size] at h ⊢; simp at h ⊢; omega)
          obtain rfl := Option.some.inj H
          obtain ⟨bJ, bK, bL⟩ := Kd.R_slice ad.out
          subst bL
          try go_wp2
          replace ad := rd_ ad
          replace aa := dB_ aa
          replace HB := Aside0.mk (ld_ HB.out)
          refine start_ (n := 13) (S := fun w' => w'.cell? ⟨am, 0, none⟩ = some (.slice an af.length ao) ∧ w'.cell? ⟨am, 1, none⟩ = some (.int .i64 a0_1) ∧ w'.cell? ⟨am, 2, none⟩ = some (.slice av ab.length aw) ∧ (convert 22 9 (.slice bJ ac.length bK)).run Tryd.prog w' = .ok (.string (strOfNums ac)) w') (ds := []) #[false, false, false, false, false, false, false, false, false, false, false, false, false] (by kernel_rfl) rfl rfl ⟨(blk_cell aa.out 0).trans rfl, (blk_cell aa.out 1).trans rfl, (blk_cell aa.out 2).trans rfl, own_string (P := Tryd.prog) Tryd.underlying22 Tryd.underlying5 Tryd.underlying9 (Kd.own_of_R ad.out)⟩ (fun hHeld => ?_); refine with_tabW impl_PlaceText.tab11 impl_PlaceText.bits11 (fun HT_ HW_ => ?_)
          generalize wr.drew = cB at ad aa HB hHeld ⊢
          refine pu_ 0 (some 30) #[true, false, false, false, false, false, false, false, false, false, false, false, false] HT_ rfl rfl ?_
          refine pu_ 4 (some 34) #[true, false, false, false, true, false, false, false, false, false, false, false, false] HT_ rfl rfl ?_
          refine pu_ 9 (some 39) #[true, false, false, false, true, false, false, false, false, true, false, false, false] HT_ rfl rfl ?_
          refine ta_ 1 (some 31) #[true, true, false, false, true, false, false, false, false, true, false, false, false] HT_ HW_ hHeld rfl rfl ?_
          refine ta_ 5 (some 35) #[true, true, false, false, true, true, false, false, false, true, false, false, false] HT_ HW_ hHeld rfl rfl ?_
          refine ta_ 10 (some 40) #[true, true, false, false, true, true, false, false, false, true, true, false, false] HT_ HW_ hHeld rfl rfl ?_
          refine one_ (i := 2) (N := some 32) #[true, true, true, false, true, true, false, false, false, true, true, false, false] rfl rfl (one_of HT_.out (by kernel_rfl)) (by decide) (fun K hK => ?_)
          refine goes_ Tryd.func109 (by kernel_rfl) rfl #[.slice an af.length ao] (by rfl) rfl rfl tz_ ?_
          with_reducible refine (impl_rowText.calls k1 _ _ af ai _ ?s1 ?s2 ?s3 A29.out).mono ?_
          (case s1 => exact tD_)
          (case s2 => exact ay.out)
          (case s3 => exact GWb.below HG.out (tb_ HB.out))
          rintro e cC ⟨rfl, hb⟩
          refine ⟨_, rfl, ?_⟩
          replace ad := rb_ ad hb
          replace aa := bb_ aa hb
          replace HB := bs_ HB hb
          (try clear hb)
          (try clear hb2)
          (try clear hk)
          (try clear hi)
          refine hK.out _ _ ⟨(blk_cell aa.out 0).trans rfl, (blk_cell aa.out 1).trans rfl, (blk_cell aa.out 2).trans rfl, own_string (P := Tryd.prog) Tryd.underlying22 Tryd.underlying5 Tryd.underlying9 (Kd.own_of_R ad.out)⟩ (fun hHeld => ?_)
          clear hK K
          refine nr_ 32 ?_
          refine pu_ 3 (some 33) #[true, true, true, true, true, true, false, false, false, true, true, false, false] HT_ rfl rfl ?_
          refine one_ (i := 6) (N := some 36) #[true, true, true, true, true, true, true, false, false, true, true, false, false] rfl rfl (one_of HT_.out (by kernel_rfl)) (by decide) (fun K hK => ?_)
          refine goes_ Tryd.func98 (by kernel_rfl) rfl #[.int .i64 a0_1] (by rfl) rfl rfl tz_ ?_
          with_reducible refine (strconv_Itoa.calls a0_1 aj _ ?s1 A31.out).mono ?_
          (case s1 => exact GWb.below HG.out (tb_ HB.out))
          rintro e cD ⟨rfl, hb⟩
          refine ⟨_, rfl, ?_⟩
          replace ad := rb_ ad hb
          replace aa := bb_ aa hb
          replace HB := bs_ HB hb
          (try clear hb)
          (try clear hb2)
          (try clear hk)
          (try clear hi)
          refine hK.out _ _ ⟨(blk_cell aa.out 0).trans rfl, (blk_cell aa.out 1).trans rfl, (blk_cell aa.out 2).trans rfl, own_string (P := Tryd.prog) Tryd.underlying22 Tryd.underlying5 Tryd.underlying9 (Kd.own_of_R ad.out)⟩ (fun hHeld => ?_)
          clear hK K
          refine nr_ 36 ?_
          refine pu_ 7 (some 37) #[true, true, true, true, true, true, true, true, false, true, true, false, false] HT_ rfl rfl ?_
          refine pu_ 8 (some 38) #[true, true, true, true, true, true, true, true, true, true, true, false, false] HT_ rfl rfl ?_
          refine pu_ 11 (some 41) #[true, true, true, true, true, true, true, true, true, true, true, true, false] HT_ rfl rfl ?_
          refine pu_ 12 (some 2) #[true, true, true, true, true, true, true, true, true, true, true, true, true] HT_ rfl rfl ?_
          refine done_ (done_of HT_.out (by kernel_rfl)) ?_
          try go_wp2
          go_ret
          exact ⟨tw_, (tb_ HB.out)⟩
         ·
          rw [if_neg c34] at H
          exact absurd H (by simp)
        ·
         rw [if_neg c33] at H
         exact absurd H (by simp)
       ·
        rw [if_neg c32] at H
        exact absurd H (by simp)
      ·
       rw [if_neg c30] at H
       exact absurd H (by simp)
 ·
  replace c3 := Bool.eq_false_iff.mpr c3
  subst c3
  have H1 : (some (⟨#[]⟩ : ByteArray)) = some r := by rw [if_neg (show ¬ (false = true) by decide)] at H; exact H
  clear H
  have H := H1
  clear H1
  obtain rfl := Option.some.inj H
  go_enter Tryd.func60, Tryd.ntmps60
  go_wp2_with (first | ((with_reducible refine gate_dst (N := 1) rfl ?_); refine box_event ?hg (N := 1) ?hd (cs := #[.slice an af.length ao, .int .i64 a0_1, .slice av ab.length aw]) (t := 25) ?hr ?_; (case hd => rfl); (case hg => rfl); (case hr => first | (go_simp; done) | (go_simp; rfl)); intro am hg cE hbox hb; have aa := Aside0.mk (hbox); have bf := gx_ HB hg; have bg := gx_ HB hg; replace HB := bs_ HB hb; clear hb hbox hg; have br := cz_ aa 0; have bs := cz_ aa 1; have bu := cz_ aa 2; have bv := blk_frozen aa.out 0; have bw := blk_frozen aa.out 1; have bx := blk_frozen aa.out 2) | ((with_reducible refine gate_callee (f := 63) rfl ?_); refine gl_ (some 7) Tryd.func63 #[.agg #[.slice an af.length ao, .int .i64 a0_1, .slice av ab.length aw]] ?_; (with_reducible refine (impl_PlaceOk.calls k _ _ af a0_1 _ _ ab false _ ?s1 ?s2 ?s3 ?s4 A2.out).mono ?_); (case s1 => exact tD_); (case s2 => exact ay.out); (case s3 => exact tD_); (case s4 => exact aK.out); rintro e cF ⟨rfl, hb⟩; refine ⟨_, rfl, ?_⟩; replace aa := bb_ aa hb; replace HB := bs_ HB hb; (try clear hb); (try clear hb2); (try clear hk); (try clear hi)))
  go_ret
  exact ⟨tw_, (tb_ HB.out)⟩

/-! ### strings_Split: function 93 -/
def strings_Split.f (a0 : ByteArray) (a1 : ByteArray) : Option (List ByteArray) := if a0.size < 4294967281 ∧ 1 ≤ a1.size then some (Lib.splitB a1 0 (Lib.countB a0 a1) a0) else none
theorem strings_Split.calls (a0 : ByteArray) (a1 : ByteArray) (r : List ByteArray) (w : World) (hG : GWb w) (h : strings_Split.f a0 a1 = some r) :
  Calls Tryd.prog 93 #[.string a0, .string a1] w fun e w' => ∃ v0_ : Value, e = .returned (v0_) ∧ Kd.R Kd.string 9 w' w.heap.size (fun _ => True) v0_ r ∧ Below w.heap.size w w' := by
 unfold strings_Split.f at h
 split at h
 ·
  rename_i hb
  obtain rfl := Option.some.inj h
  refine (Sh.Tryd.strings_Split_shaped a0 a1 w hG.shape hb.1 hb.2).mono fun e w' ⟨he, hw⟩ => ?_
  have hl : (Lib.splitB a1 0 (Lib.countB a0 a1) a0).length = Lib.countB a0 a1 + 1 := Lib.splitB_all a1 hb.2 0 _ a0 rfl
  have hle := Lib.countB_le a1 hb.2 a0.size a0 (Nat.le_refl _)
  have ho := own_lit_of (enc := Value.string) w w.heap.size 9 (Lib.splitB a1 0 (Lib.countB a0 a1) a0) (Nat.le_refl _) (by rw [hl]; omega)
  refine ⟨_, he, ?_, ?_⟩
  ·
   rw [hw]
   rw [hl] at ho
   exact Kd.R_of_own (by rw [hl]; exact ho) (fun _ _ => trivial)
  ·
   rw [hw]
   exact (Below.refl _ _).alloc (Nat.le_refl _) _
 ·
  cases h

/-! ### strconv_Atoi: function 95 -/
def strconv_Atoi.f (a0 : ByteArray) : Option (Int × Option Int) := if a0.size ≤ 140737488355328 then some (match Lib.atoiAll a0.data.toList with | .ok v => (v, none) | Lib.NumEnd.syntax => (0, some 0) | .range => (Lib.atoiSat a0.data.toList, some 0)) else none
theorem strconv_Atoi.calls (a0 : ByteArray) (r1 : Int) (r2 : Option Int) (w : World) (hG : GWb w) (h : strconv_Atoi.f a0 = some (r1, r2)) :
  Calls Tryd.prog 95 #[.string a0] w fun e w' => ∃ N_ : Int, e = .returned (.tuple #[.int .i64 r1, errW (r2.map fun _ => N_)]) ∧ Below w.heap.size w w' := by
 unfold strconv_Atoi.f at h
 split at h
 ·
  rename_i hb
  rcases ha : Lib.atoiAll a0.data.toList with v | _ | _
  ·
   simp only [ha, Option.some.injEq, Prod.mk.injEq] at h
   obtain ⟨rfl, rfl⟩ := h
   exact (Sh.Tryd.strconv_Atoi_ok a0 (by omega) v ha w).mono fun e w' ⟨he, hw⟩ => ⟨0, he, atoi_below hw⟩
  ·
   simp only [ha, Option.some.injEq, Prod.mk.injEq] at h
   obtain ⟨rfl, rfl⟩ := h
   obtain ⟨t, p, hv⟩ := hG.esyn
   exact (Sh.Tryd.strconv_Atoi_syntax_var a0 (by omega) ha t p w hv).mono fun e w' ⟨N, he, _, _, hw⟩ => ⟨(N : Int), he, hw⟩
  ·
   simp only [ha, Option.some.injEq, Prod.mk.injEq] at h
   obtain ⟨rfl, rfl⟩ := h
   obtain ⟨t, p, hv⟩ := hG.erng
   exact (Sh.Tryd.strconv_Atoi_range_var a0 (by omega) ha t p w hv).mono fun e w' ⟨N, he, _, _, hw⟩ => ⟨(N : Int), he, hw⟩
 ·
  cases h

end Go.Proofs.YtlhiienanbpdlaaDoor.MFnPlaceText
