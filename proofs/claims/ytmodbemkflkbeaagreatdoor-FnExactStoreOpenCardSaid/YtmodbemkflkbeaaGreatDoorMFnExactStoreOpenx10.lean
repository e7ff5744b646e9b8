/- For the law FnExactStoreOpen: walks of the functions that it reaches: each call returns what the plain function beside it tells. The conditions stand in each statement. -/
import Derived.Test.YtmodbemkflkbeaaGreatDoorV
import Derived.Test.YtmodbemkflkbeaaGreatDoorMFnExactStoreOpenx0
import Derived.Test.YtmodbemkflkbeaaGreatDoorMFnExactStoreOpenx9
namespace Go.Proofs.YtmodbemkflkbeaaGreatDoor.MFnExactStoreOpen
open Go.RowKit Go.Proofs.YtmodbemkflkbeaaGreatDoorW.PrintWords Go.Proofs.YtmodbemkflkbeaaGreatDoorW.PrintLast Go.Proofs.YtmodbemkflkbeaaGreatDoorW.PrintMore
attribute [local go_sem] max2_int min2_int max_two min_two max_three min_three max_four min_four   -- for this text's walks alone
set_option linter.unusedVariables false
set_option linter.unusedSimpArgs false
set_option maxHeartbeats 8000000
set_option maxRecDepth 100000

/-! ### impl_ruleWays: function 83 -/
def impl_ruleWays.l0 : Nat → List Int → List (List Int) → List Int → Int → List Int → Int → Int → Option (Int)
 | 0, _, _, _, _, _, _, _ => none
 | k + 1, x0, x1, x2, x7, x10, x11, x12 => if x12 < x11 then (if 0 ≤ x12 then (if x12 < (x10.length : Int) then (if x12 ≤ (x2.length : Int) then ((impl_after.f k x0 x1 (x2.take (x12 : Int).toNat)).bind fun au => (if 0 ≤ (rd x10 x12) then (if (rd x10 x12) < (au.length : Int) then (if (wrap64 (x7 * (mx 0 (rd au (rd x10 x12))))) = 0 then (some 0) else (impl_ruleWays.l0 k x0 x1 x2 (wrap64 (x7 * (mx 0 (rd au (rd x10 x12))))) x10 x11 (wrap64 (x12 + 1)))) else (none)) else (none))) else (none)) else (none)) else (none)) else (some x7)
def impl_ruleWays.f (k : Nat) (l0 : List Int) (l1 : List (List Int)) (l2 : List Int) : Option (Int) := impl_ruleWays.l0 k l0 l1 l2 1 l2 (l2.length : Int) 0
theorem impl_ruleWays.mono_l : ∀ k, (∀ y0 y1 y2 y3 y4 y5 y6, LeO (impl_ruleWays.l0 k y0 y1 y2 y3 y4 y5 y6) (impl_ruleWays.l0 (k + 1) y0 y1 y2 y3 y4 y5 y6))
 | 0 => fun _ _ _ _ _ _ _ r h => by simp [impl_ruleWays.l0] at h
 | k + 1 => by
  have ih0 := impl_ruleWays.mono_l k
  ·
   intro y0 y1 y2 y3 y4 y5 y6
   unfold impl_ruleWays.l0
   repeat' (with_reducible first | exact ih0 _ _ _ _ _ _ _ | exact impl_after.mono _ _ _ _ | exact mr_ | exact mn_ | refine mi_ ?_ ?_ | refine mb_ ?_ (fun _ => ?_))
theorem impl_ruleWays.mono : ∀ a0 a1 a2 k, LeO (impl_ruleWays.f k a0 a1 a2) (impl_ruleWays.f (k + 1) a0 a1 a2) := by
 intro a0 a1 a2 k; have ih0 := impl_ruleWays.mono_l k; unfold impl_ruleWays.f; repeat' (with_reducible first | exact ih0 _ _ _ _ _ _ _ | exact impl_after.mono _ _ _ _ | exact mr_ | exact mn_ | refine mi_ ?_ ?_ | refine mb_ ?_ (fun _ => ?_))
theorem impl_ruleWays.calls (k : Nat) (A0 : Option Addr) (c0 : Nat) (l0 : List Int) (A1 : Option Addr) (c1 : Nat) (l1 : List (List Int)) (A2 : Option Addr) (c2 : Nat) (l2 : List Int) (r : Int) (w : World) (hr0 : Kd.C (Kd.int .i64) w A0 l0.length l0) (hc0 : l0.length ≤ c0) (hr1 : Kd.C (Kd.slice 3 (Kd.int .i64)) w A1 l1.length l1) (hc1 : l1.length ≤ c1) (hr2 : Kd.C (Kd.int .i64) w A2 l2.length l2) (hc2 : l2.length ≤ c2) (h : impl_ruleWays.f k l0 l1 l2 = some r) :
  Calls Tryz.prog 83 #[.slice A0 l0.length c0, .slice A1 l1.length c1, .slice A2 l2.length c2] w fun e w' => e = .returned (.int .i64 r) ∧ Below w.heap.size w w' := by
 have HR0 := A_ hr0; have HC0 := A_ hc0; clear hr0 hc0; have HR1 := A_ hr1; have HC1 := A_ hc1; clear hr1 hc1; have HR2 := A_ hr2; have HC2 := A_ hc2; clear hr2 hc2; have HB := A_ (Below.refl w.heap.size w); have H : (impl_ruleWays.l0 k l0 l1 l2 1 l2 (l2.length : Int) 0) = some r := h; clear h; have H' := A_ H; clear H; go_enter Tryz.func83, Tryz.ntmps83; go_wp2
 go_loopg [7, 12] k (fun kq v7 b8 w' => ∃ (ax : Int) (aa : Int), v7 = .int .i64 ax ∧ b8 = .int .i64 aa ∧ Aside0 (impl_ruleWays.l0 kq l0 l1 l2 ax l2 (l2.length : Int) aa = some r) ∧ Aside0 (kq ≤ k) ∧ Aside0 (Below w.heap.size w w'))
 case atStart => exact ⟨(1), (0), tx_, tx_, H', ⟨Nat.le_refl _⟩, ⟨(tb_ HB.out)⟩⟩
 case round =>
  clear H'; obtain ⟨ax, aa, rfl, rfl, HA, HK1, HB⟩ := hrel
  cases gk with
  | zero => exact absurd HA.out (by simp [impl_ruleWays.l0])
  | succ k1 =>
   have H := HA.out; clear HA; simp only [impl_ruleWays.l0] at H; replace H := it_ H; rcases H with ⟨aA, H⟩ | ⟨aA, H⟩
   ·
    replace H := in_ H; obtain ⟨a5, H⟩ := H; replace H := in_ H; obtain ⟨aI, H⟩ := H; have bl := eq_true (od_ : 0 ≤ aa); replace H := i0_ H; obtain ⟨c8, H⟩ := H; have b9 := eq_true c8; have ca : decide (aa ≤ (l2.length : Int)) = true := decide_eq_true c8; clear c8; obtain ⟨au, A9, H⟩ := bnd_ H; (try dsimp only at H); replace H := in_ H; obtain ⟨aQ, H⟩ := H; replace H := in_ H; obtain ⟨bc, H⟩ := H; obtain ⟨aC, az⟩ : ∃ j_ : Int, (mx 0 (rd au (rd l2 aa))) = j_ := ⟨_, rfl⟩
    replace H : (if (wrap64 (ax * (aC))) = 0 then (some 0) else (impl_ruleWays.l0 k1 l0 l1 l2 (wrap64 (ax * (aC))) l2 (l2.length : Int) (wrap64 (aa + 1)))) = some r := by first | (rw [az] at H; exact H) | (simp only [az] at H ⊢; exact H)
    (try rw [az] at A9); have hji12_ : (if 0 < (rd au (rd l2 aa)) then (rd au (rd l2 aa)) else 0) = aC := az; by_cases c13 : (wrap64 (ax * (aC))) = 0
    ·
     rw [if_pos c13] at H; have aR : ((wrap64 (ax * (aC))) == 0) = true := beq_iff_eq.mpr c13; have bd : ((wrap64 (ax * (aC))) != 0) = false := bne_eq_false_iff_eq.mpr c13; clear c13; obtain rfl := Option.some.inj H; obtain ⟨p469, q469, ad469, e469, aj⟩ := a2_ (Kd.at_int HR2.out aa); cases e469; replace aj := (HB.out.cell (World.block_lt_of_cell? w _ aj)).trans aj; obtain ⟨i014, hi014, _, hsz14, _⟩ := info_parts info3; obtain ⟨hcut14, hA14, hC14⟩ := print_take_of (P := Tryz.prog) (Value.int .i64) 0 25 3 .i64 Tryz.underlying25 hi014 hsz14 (some ad469) c2 l2 aa (od_) (od_) HC2.out; have HR470 := A_ (Kd.C_of_reads (h1 := fun _ => rfl) (hA14 _ (Kd.reads_of_C HR2.out))); have HC470 := A_ hC14; clear hA14 hC14 hi014 hsz14; go_wp2_with (first | ((with_reducible refine gate_callee (f := 97) rfl ?_); refine goesL_ (some 23) rfl rfl Tryz.func97 (by kernel_rfl) rfl #[.slice A0 l0.length c0, .slice A1 l1.length c1, .slice (some ad469) (l2.take (aa : Int).toNat).length c2] rfl (by (try simp only [List.map_toArray, List.map_cons, List.map_nil]); first | done | (rw [show (l2.take (aa : Int).toNat).length = aa.toNat from (by rw [List.length_take]; have h_ : (aa : Int) ≤ (l2.length : Int) := od_; omega)] <;> rfl) | rfl | (simp only [List.length_drop, List.length_take]; rfl)) ?_; (with_reducible refine (impl_after.calls k1 _ _ l0 _ _ l1 _ _ (l2.take (aa : Int).toNat) au _ ?s1 ?s2 ?s3 ?s4 ?s5 ?s6 A9.out).mono ?_); (case s1 => exact tD_); (case s2 => exact HC0.out); (case s3 => exact tD_); (case s4 => exact HC1.out); (case s5 => exact tD_); (case s6 => exact HC470.out); rintro e cr ⟨bG, rfl, ho0, hb⟩; refine ⟨_, rfl, ?_⟩; have aJ := rx_ ho0 HB; replace HB := bs_ HB hb; (try clear hb ho0); obtain ⟨cb, cc, bH⟩ := Kd.R_slice aJ.out; subst bH; obtain ⟨p474, q474, ad474, e474, a6⟩ := a2_ (Kd.at_int (Kd.R_reads' aJ.out).2.2 (rd l2 aa)); cases e474)); go_ret; exact ⟨by first | rfl | (simp [errW_none, errW_some, Option.map_none, Option.map_some] <;> rfl) | (simp only [← az]; first | rfl | (simp [errW_none, errW_some, Option.map_none, Option.map_some] <;> rfl)) | (simp [*, errW_none, errW_some] <;> rfl), (tb_ HB.out)⟩
    ·
     rw [if_neg c13] at H; have aR : ((wrap64 (ax * (aC))) == 0) = false := beq_eq_false_iff_ne.mpr c13; have bd : ((wrap64 (ax * (aC))) != 0) = true := bne_iff_ne.mpr c13; have H' := A_ H; clear H; obtain ⟨p469, q469, ad469, e469, aj⟩ := a2_ (Kd.at_int HR2.out aa); cases e469; replace aj := (HB.out.cell (World.block_lt_of_cell? w _ aj)).trans aj; obtain ⟨i017, hi017, _, hsz17, _⟩ := info_parts info3; obtain ⟨hcut17, hA17, hC17⟩ := print_take_of (P := Tryz.prog) (Value.int .i64) 0 25 3 .i64 Tryz.underlying25 hi017 hsz17 (some ad469) c2 l2 aa (od_) (od_) HC2.out; have HR470 := A_ (Kd.C_of_reads (h1 := fun _ => rfl) (hA17 _ (Kd.reads_of_C HR2.out))); have HC470 := A_ hC17; clear hA17 hC17 hi017 hsz17; go_wp2_with (first | ((with_reducible refine gate_callee (f := 97) rfl ?_); refine goesL_ (some 23) rfl rfl Tryz.func97 (by kernel_rfl) rfl #[.slice A0 l0.length c0, .slice A1 l1.length c1, .slice (some ad469) (l2.take (aa : Int).toNat).length c2] rfl (by (try simp only [List.map_toArray, List.map_cons, List.map_nil]); first | done | (rw [show (l2.take (aa : Int).toNat).length = aa.toNat from (by rw [List.length_take]; have h_ : (aa : Int) ≤ (l2.length : Int) := od_; omega)] <;> rfl) | rfl | (simp only [List.length_drop, List.length_take]; rfl)) ?_; (with_reducible refine (impl_after.calls k1 _ _ l0 _ _ l1 _ _ (l2.take (aa : Int).toNat) au _ ?s1 ?s2 ?s3 ?s4 ?s5 ?s6 A9.out).mono ?_); (case s1 => exact tD_); (case s2 => exact HC0.out); (case s3 => exact tD_); (case s4 => exact HC1.out); (case s5 => exact tD_); (case s6 => exact HC470.out); rintro e cs ⟨bG, rfl, ho0, hb⟩; refine ⟨_, rfl, ?_⟩; have aJ := rx_ ho0 HB; replace HB := bs_ HB hb; (try clear hb ho0); obtain ⟨cd, ce, bI⟩ := Kd.R_slice aJ.out; subst bI; obtain ⟨p474, q474, ad474, e474, a6⟩ := a2_ (Kd.at_int (Kd.R_reads' aJ.out).2.2 (rd l2 aa)); cases e474))
     go_roundg k1
     case measure => have := HK1.out; omega
     case rel => exact ⟨(wrap64 (ax * (aC))), (wrap64 (aa + 1)), (by first | rfl | (simp; done) | (simp only [← az] <;> (first | rfl | simp)) | (simp [*]; done)), tx_, H', ⟨by have := HK1.out; omega⟩, ⟨(tb_ HB.out)⟩⟩
   ·
    obtain rfl := Option.some.inj H; go_wp2; go_ret; exact ⟨tw_, (tb_ HB.out)⟩

/-! ### impl_SameRule: function 84 -/
mutual
def impl_SameRule.j0 : Nat → Int → Int → Bool → Option ((List (List Int)))
 | 0, _, _, _ => none
 | k + 1, x0, x1, x18 => if x18 = true then (some ([] : List (List Int))) else (impl_SameRule.l0 k x0 x1 (([] : List (List Int))) x0 0)
def impl_SameRule.l0 : Nat → Int → Int → List (List Int) → Int → Int → Option ((List (List Int)))
 | 0, _, _, _, _, _ => none
 | k + 1, x0, x1, x5, x20, x21 => if x21 < x20 then (if 0 ≤ x0 then (if (x0 : Int).toNat ≤ 35184372088832 then ((some (List.replicate (x0 : Int).toNat 0 : List Int)).bind fun ar => (if 0 ≤ x21 then (if x21 < (ar.length : Int) then (if x5.length < 5864062014805 then (impl_SameRule.l0 k x0 x1 (x5 ++ [(ar.set (x21 : Int).toNat x1)]) x20 (wrap64 (x21 + 1))) else (none)) else (none)) else (none))) else (none)) else (none)) else (some x5)
end
def impl_SameRule.f (k : Nat) (a0 : Int) (a1 : Int) : Option ((List (List Int))) := (impl_coloursOk.f a0).bind fun aU => (if aU = true then (if a1 < (-1) then (impl_SameRule.j0 k a0 a1 true) else (impl_SameRule.j0 k a0 a1 (decide (a1 > 3)))) else (impl_SameRule.j0 k a0 a1 true))
theorem impl_SameRule.mono_l : ∀ k, (∀ y0 y1 y2, LeO (impl_SameRule.j0 k y0 y1 y2) (impl_SameRule.j0 (k + 1) y0 y1 y2)) ∧ (∀ y0 y1 y2 y3 y4, LeO (impl_SameRule.l0 k y0 y1 y2 y3 y4) (impl_SameRule.l0 (k + 1) y0 y1 y2 y3 y4))
 | 0 => ⟨fun _ _ _ r h => by simp [impl_SameRule.j0] at h, fun _ _ _ _ _ r h => by simp [impl_SameRule.l0] at h⟩
 | k + 1 => by
  obtain ⟨ih0, ih1⟩ := impl_SameRule.mono_l k
  refine ⟨?_, ?_⟩
  ·
   intro y0 y1 y2
   unfold impl_SameRule.j0
   repeat' (with_reducible first | exact ih0 _ _ _ | exact ih1 _ _ _ _ _ | exact mr_ | exact mn_ | refine mi_ ?_ ?_ | refine mb_ ?_ (fun _ => ?_))
  ·
   intro y0 y1 y2 y3 y4
   unfold impl_SameRule.l0
   repeat' (with_reducible first | exact ih0 _ _ _ | exact ih1 _ _ _ _ _ | exact mr_ | exact mn_ | refine mi_ ?_ ?_ | refine mb_ ?_ (fun _ => ?_))
theorem impl_SameRule.mono : ∀ a0 a1 k, LeO (impl_SameRule.f k a0 a1) (impl_SameRule.f (k + 1) a0 a1) := by
 intro a0 a1 k; obtain ⟨ih0, ih1⟩ := impl_SameRule.mono_l k; unfold impl_SameRule.f; repeat' (with_reducible first | exact ih0 _ _ _ | exact ih1 _ _ _ _ _ | exact mr_ | exact mn_ | refine mi_ ?_ ?_ | refine mb_ ?_ (fun _ => ?_))
theorem impl_SameRule.calls (k : Nat) (a0 : Int) (a1 : Int) (r : List (List Int)) (w : World) (h : impl_SameRule.f k a0 a1 = some r) :
  Calls Tryz.prog 84 #[.int .i64 a0, .int .i64 a1] w fun e w' => ∃ v0_ : Value, e = .returned (v0_) ∧ Kd.S (Kd.slice 3 (Kd.int .i64)) 25 w' w.heap.size (fun _ => True) v0_ r ∧ Below w.heap.size w w' := by
 have HB := A_ (Below.refl w.heap.size w); have H : ((impl_coloursOk.f a0).bind fun aU => (if aU = true then (if a1 < (-1) then (impl_SameRule.j0 k a0 a1 true) else (impl_SameRule.j0 k a0 a1 (decide (a1 > 3)))) else (impl_SameRule.j0 k a0 a1 true))) = some r := h; clear h; have HC3 := A_ H; clear H; go_enter Tryz.func84, Tryz.ntmps84
 go_upto_region 1 with (fail)
 go_cut [18] (fun cf wc => ∃ (kq : Nat) (aK : Bool), cf = .bool aK ∧ Aside0 (impl_SameRule.j0 kq a0 a1 aK = some r) ∧ Aside0 (kq ≤ k) ∧ Aside0 (Below w.heap.size w wc))
 case first =>
  have H := HC3.out; clear HC3; obtain ⟨aU, A4, H⟩ := bnd_ H; (try dsimp only at H); by_cases c5 : aU = true
  ·
   subst c5; replace H : (if a1 < (-1) then (impl_SameRule.j0 k a0 a1 true) else (impl_SameRule.j0 k a0 a1 (decide (a1 > 3)))) = some r := by rw [if_pos rfl] at H; exact H
   replace H := it_ H; rcases H with ⟨aI, H⟩ | ⟨aI, H⟩
   ·
    (first | rw [aI] | (simp only [i64_w, i32_w]; rw [aI]) | skip); have H' := A_ H; clear H; go_wp2_with (first | ((with_reducible refine gate_callee (f := 96) rfl ?_); refine gl_ (some 9) Tryz.func96 #[.int .i64 a0] ?_; (with_reducible refine (impl_coloursOk.calls a0 true _ A4.out).mono ?_); rintro e w' ⟨rfl, ⟨nd, rfl⟩⟩; refine ⟨_, rfl, ?_⟩)); go_meet
    case rel => exact ⟨_, (true), tx_, H', ⟨by first | omega | exact Nat.le_refl _⟩, ⟨(tb_ HB.out)⟩⟩
   ·
    (first | rw [aI] | (simp only [i64_w, i32_w]; rw [aI]) | skip); have H' := A_ H; clear H; go_wp2_with (first | ((with_reducible refine gate_callee (f := 96) rfl ?_); refine gl_ (some 9) Tryz.func96 #[.int .i64 a0] ?_; (with_reducible refine (impl_coloursOk.calls a0 true _ A4.out).mono ?_); rintro e w' ⟨rfl, ⟨nd, rfl⟩⟩; refine ⟨_, rfl, ?_⟩)); go_meet
    case rel => exact ⟨_, (decide (a1 > 3)), tx_, H', ⟨by first | omega | exact Nat.le_refl _⟩, ⟨(tb_ HB.out)⟩⟩
  ·
   replace c5 := Bool.eq_false_iff.mpr c5; subst c5; replace H : (impl_SameRule.j0 k a0 a1 true) = some r := by rw [if_neg (show ¬ (false = true) by decide)] at H; exact H
   have H' := A_ H; clear H; go_wp2_with (first | ((with_reducible refine gate_callee (f := 96) rfl ?_); refine gl_ (some 9) Tryz.func96 #[.int .i64 a0] ?_; (with_reducible refine (impl_coloursOk.calls a0 false _ A4.out).mono ?_); rintro e w' ⟨rfl, ⟨nd, rfl⟩⟩; refine ⟨_, rfl, ?_⟩)); go_meet
   case rel => exact ⟨_, (true), tx_, H', ⟨by first | omega | exact Nat.le_refl _⟩, ⟨(tb_ HB.out)⟩⟩
 case rest =>
  clear HC3; obtain ⟨kq, aK, rfl, HA, HJ2, HB⟩ := hcut
  cases kq with
  | zero => exact absurd HA.out (by simp [impl_SameRule.j0])
  | succ kj2 =>
   have H := HA.out; clear HA; simp only [impl_SameRule.j0] at H; by_cases c7 : aK = true
   ·
    subst c7; replace H : (some ([] : List (List Int))) = some r := by rw [if_pos rfl] at H; exact H
    obtain rfl := Option.some.inj H; go_wp2; go_ret; exact ⟨_, tw_, by first | exact Kd.S_nil _ _ _ _ _ | exact Kd.N_nil _ _ _ _ _ | exact Kd.V_nil _ _ _ _ _ | exact Kd.Q_nil _ _ _ _ _ | exact Kd.R_nil _ _ _ _ _, (tb_ HB.out)⟩
   ·
    replace c7 := Bool.eq_false_iff.mpr c7; subst c7; replace H : (impl_SameRule.l0 kj2 a0 a1 (([] : List (List Int))) a0 0) = some r := by rw [if_neg (show ¬ (false = true) by decide)] at H; exact H
    obtain ⟨bm, aV⟩ : ∃ y_ : List (List Int), y_ = (([] : List (List Int))) := ⟨_, rfl⟩
    replace H : (impl_SameRule.l0 kj2 a0 a1 bm a0 0) = some r := yq_ aV H; have be := A_ aV; clear aV; have H' := A_ H; clear H; go_wp2_with (first | ((with_reducible refine gate_dst (N := 19) rfl ?_); refine Kd.S_lit (Kd.slice 3 (Kd.int .i64)) _ 25 ?hg (N := 19) ?hd (xs := ([] : List (List Int))) (inner := []) (ok := fun _ => True) (okp := fun _ => True) ?hr ?hp (fun _ hk => hk) trivial (Below.refl _ _) (Nat.le_refl _) (by simp) ?_; (case hd => rfl); (case hg => rfl); (case hr => first | (go_simp; done) | (go_simp; rfl)); (case hp => exact (Reps.none _ _)); intro cg w8 ho9 hb hg_ hnew_; clear hg_ hnew_; (first | rw [← be.out] at ho9 | (simp only [Int.reduceToNat] at ho9; rw [← be.out] at ho9)); have bn := A_ (Kd.S_lower ho9 (below_size (tb_ HB.out))); replace HB := bs_ HB hb; clear hb ho9))
    go_loopg [5, 21] kj2 (fun kq v5 ch w' => ∃ (ay : List (List Int)) (ae : Int), ch = .int .i64 ae ∧ Aside0 (impl_SameRule.l0 kq a0 a1 ay a0 ae = some r) ∧ Aside0 (kq ≤ kj2) ∧ Aside0 (Kd.S (Kd.slice 3 (Kd.int .i64)) 25 w' w.heap.size (fun _ => True) v5 ay) ∧ Aside0 (Below w.heap.size w w'))
    case atStart => exact ⟨(bm), (0), tx_, H', ⟨Nat.le_refl _⟩, ⟨rS_ bn.out⟩, ⟨(tb_ HB.out)⟩⟩
    case round =>
     clear H'; (try clear c7); obtain ⟨ay, ae, rfl, HA, HK2, aD, HB⟩ := hrel
     cases gk with
     | zero => exact absurd HA.out (by simp [impl_SameRule.l0])
     | succ k2 =>
      have H := HA.out; clear HA; simp only [impl_SameRule.l0] at H; replace H := it_ H; rcases H with ⟨aQ, H⟩ | ⟨aQ, H⟩
      ·
       replace H := i0_ H; obtain ⟨c11, H⟩ := H; have bc := eq_true c11; have bo : decide (0 ≤ a0) = true := decide_eq_true c11; clear c11; replace H := i0_ H; obtain ⟨c12, H⟩ := H; have bp := eq_true c12; have bq : decide ((a0 : Int).toNat ≤ 35184372088832) = true := decide_eq_true c12; clear c12; obtain ⟨ar, aW⟩ : ∃ y_ : List Int, y_ = (List.replicate (a0 : Int).toNat 0) := ⟨_, rfl⟩
       replace H : (if 0 ≤ ae then (if ae < (ar.length : Int) then (if ay.length < 5864062014805 then (impl_SameRule.l0 k2 a0 a1 (ay ++ [(ar.set (ae : Int).toNat a1)]) a0 (wrap64 (ae + 1))) else (none)) else (none)) else (none)) = some r := yq_ aW H; have bf := A_ aW; clear aW; replace H := in_ H; obtain ⟨aR, H⟩ := H; replace H := in_ H; obtain ⟨br, H⟩ := H; obtain ⟨a7, aX⟩ : ∃ y_ : List Int, y_ = (ar.set (ae : Int).toNat a1) := ⟨_, rfl⟩
       replace H : (if ay.length < 5864062014805 then (impl_SameRule.l0 k2 a0 a1 (ay ++ [a7]) a0 (wrap64 (ae + 1))) else (none)) = some r := yq_ aX H; have bs := A_ aX; clear aX; replace H := il_ H; obtain ⟨bu, H⟩ := H; obtain ⟨bv, aY⟩ : ∃ y_ : List (List Int), y_ = (ay ++ [a7]) := ⟨_, rfl⟩
       replace H : (impl_SameRule.l0 k2 a0 a1 bv a0 (wrap64 (ae + 1))) = some r := yq_ aY H; have bw := A_ aY; clear aY; have H' := A_ H; clear H; go_wp2_with (first | ((with_reducible refine gate_dst (N := 25) rfl ?_); refine Kd.R_make (Kd.int .i64) _ 3 rfl (N := 25) rfl 25 _ _ rfl a0 rfl rfl Tryz.underlying25 (.int .i64 0) 8 info3 rfl (by decide) (by omega) 0 (ok := fun _ => True) (okp := fun _ => True) rfl (fun _ hk => hk) trivial (od_) (Nat.le_trans (Nat.mul_le_mul_right _ (od_ : a0.toNat ≤ 35184372088832)) (by omega)) (Below.refl _ _) (Nat.le_refl _) ?_; intro ci bM ho18 hb hg_ hnew_; clear hg_ hnew_; (first | rw [← bf.out] at ho18 | (simp only [Int.reduceToNat] at ho18; rw [← bf.out] at ho18)); replace aD := A_ (Kd.S_elder' (rS_ aD.out) (Kd.R_base ho18) hb); have av := rx_ ho18 HB; replace HB := bs_ HB hb; clear hb ho18; have p15 : 0 ≤ (ae : Int) := od_; have q15 : (ae : Int) < ((ar.length : Int) : Int) := od_; obtain ⟨go15, aZ, bx, bz, gl15, cl15, HG15⟩ := Kd.R_form av.out (by omega); (first | cases bx | (injection bx with ea_ en_ ec_; (first | subst ea_ | (injection ea_ with ea_; subst ea_)); subst ec_; clear en_)); have GB15 := A_ bz; have GG15 := A_ HG15; clear bz gl15 HG15; obtain ⟨bJ, hf15_0⟩ := Kd.R_celln 0 av.out (ae : Int) p15 q15; replace p15 := eq_true p15; replace q15 := eq_true q15; obtain ⟨hy19_, hz19_⟩ := Kd.R_celln 0 av.out (ae : Int) (od_) (od_); have HP19 := Kd.R_putg av.out (ae : Int) a1) | ((with_reducible refine gate_store (t := 3) (p := 29) rfl ?_); refine store_event (t := 3) (p := 29) (v := ?vo_w20) (w1 := (bM.setCell ⟨go15, (ae : Int).toNat, none⟩ (.int .i64 a1))) ?hg ?ho ?hn ?hr ?_; (case ho => rfl); (case hg => rfl); (case hn => rfl); (case hr => first | (go_simp; done) | (go_simp; rfl)); intro bK hw; have hg : bM.grownBy bK (some go15) := (by rw [hw]; exact HP19.2); have hp_ : Kd.R (Kd.int .i64) 3 bK w.heap.size (fun _ => True) (.slice (some ⟨go15, 0, none⟩) ar.length aZ) a7 := (by rw [hw, bs.out]; exact HP19.1); clear HP19; replace aD := A_ (Kd.S_after (v := (.slice (some ⟨go15, 0, none⟩) ar.length aZ)) (v1 := (.slice (some ⟨go15, 0, none⟩) ar.length aZ)) (ok := (fun _ => True)) (rS_ aD.out) hg (.inl rfl)); replace av := A_ (hp_); replace HB := A_ ((by rw [hw]; exact below_set (HB.out) GB15.out : Below w.heap.size w bK)); clear hg hw hp_) | ((with_reducible refine gate_builtin (b := .append) (xs := #[.tmp 30, .tmp 32]) rfl ?_); at_builtin; refine Kd.S_append (Kd.slice 3 (Kd.int .i64)) (w0 := w) w.heap.size rfl (.tmp 30) (.tmp 32) 81 25 (.slice none 0 0) 24 rfl Tryz.underlying81 info25 rfl (by decide) (by omega) u5 ay a7 [.slice (some ⟨go15, 0, none⟩) ar.length aZ] (fun _ => True) (fun k_ => some k_ = (.slice (some ⟨go15, 0, none⟩) ar.length aZ : Value).ownBlock) rfl rfl ?aP (fun k_ hk_ => ((Kd.R_mono (ok' := fun k_ => ((fun _ => True)) k_ ∧ some k_ ≠ (u5 : Value).ownBlock) (Kd.R_apart' (av.out) (Kd.S_typed aD.out) (by decide)) (fun k_ hk => ⟨trivial, hk.2⟩))).1 k_ hk_.symm) ?aF ?aO ?aB ?aS ?aL ?_; (case aP => exact Kd.M_row (Kd.R_mono (Kd.R_tight rfl (Kd.R_mono (ok' := fun k_ => ((fun _ => True)) k_ ∧ some k_ ≠ (u5 : Value).ownBlock) (Kd.R_apart' (av.out) (Kd.S_typed aD.out) (by decide)) (fun k_ hk => ⟨trivial, hk.2⟩))) (fun _ h_ => h_))); (case aB => exact (tb_ HB.out)); (case aF => exact (fun _ _ => trivial)); (case aO => exact (by refine qS_ ?_; exact Kd.S_mono aD.out (fun k_ hk => ⟨trivial, fun e_ => hk.2 e_⟩))); (case aS => exact (below_size (tb_ HB.out))); (case aL => have := bu.out; omega); intro cj ct ho hb hg hat; rw [← bw.out] at ho; replace HB := A_ (hb); have bB := A_ (ho); clear aD av ho hb hg hat))
       go_roundg k2
       case measure => have := HJ2.out; have := HK2.out; omega
       case rel => exact ⟨(bv), (wrap64 (ae + 1)), tx_, H', ⟨by have := HJ2.out; have := HK2.out; omega⟩, ⟨rS_ bB.out⟩, ⟨(tb_ HB.out)⟩⟩
      ·
       obtain rfl := Option.some.inj H; go_wp2; go_ret; exact ⟨_, tw_, by refine qS_ ?_; exact aD.out, (tb_ HB.out)⟩

/-! ### impl_PlaceOk: function 59 -/
def impl_PlaceOk.j0 : Nat → Bool → List Int → Int → List Int → Option (Bool)
 | 0, _, _, _, _ => none
 | k + 1, x25, aM, a8, a9 => if x25 = true then (some false) else ((impl_SameRule.f k (aM.length : Int) a8).bind fun bC => ((impl_ruleWays.f k aM bC a9).bind fun bD => (some (decide (bD > 0)))))
def impl_PlaceOk.f (k : Nat) (ag : List Int) (a0_1 : Int) (ab : List Int) : Option (Bool) := (impl_StartOk.f k ag).bind fun bg => (if bg = true then (if a0_1 < (-1) then (impl_PlaceOk.j0 k true ag a0_1 ab) else (if a0_1 > 3 then (impl_PlaceOk.j0 k true ag a0_1 ab) else ((impl_WordOk.f k (ag.length : Int) ab).bind fun bh => (impl_PlaceOk.j0 k (!bh) ag a0_1 ab)))) else (impl_PlaceOk.j0 k true ag a0_1 ab))
theorem impl_PlaceOk.mono_l : ∀ k, (∀ y0 y1 y2 y3, LeO (impl_PlaceOk.j0 k y0 y1 y2 y3) (impl_PlaceOk.j0 (k + 1) y0 y1 y2 y3))
 | 0 => fun _ _ _ _ r h => by simp [impl_PlaceOk.j0] at h
 | k + 1 => by
  have ih0 := impl_PlaceOk.mono_l k
  ·
   intro y0 y1 y2 y3
   unfold impl_PlaceOk.j0
   repeat' (with_reducible first | exact ih0 _ _ _ _ | exact impl_SameRule.mono _ _ _ | exact impl_StartOk.mono _ _ | exact impl_WordOk.mono _ _ _ | exact impl_ruleWays.mono _ _ _ _ | exact mr_ | exact mn_ | refine mi_ ?_ ?_ | refine mb_ ?_ (fun _ => ?_))
theorem impl_PlaceOk.mono : ∀ a0 a1 a2 k, LeO (impl_PlaceOk.f k a0 a1 a2) (impl_PlaceOk.f (k + 1) a0 a1 a2) := by
 intro a0 a1 a2 k; have ih0 := impl_PlaceOk.mono_l k; unfold impl_PlaceOk.f; repeat' (with_reducible first | exact ih0 _ _ _ _ | exact impl_SameRule.mono _ _ _ | exact impl_StartOk.mono _ _ | exact impl_WordOk.mono _ _ _ | exact impl_ruleWays.mono _ _ _ _ | exact mr_ | exact mn_ | refine mi_ ?_ ?_ | refine mb_ ?_ (fun _ => ?_))
def impl_PlaceOk.T3 : Bool × List (List Nat × List Nat) := (true, [([], []), ([0], [0]), ([], []), ([2], [2]), ([3], [3]), ([], []), ([5], [5]), ([4, 6], [4, 6]), ([], []), ([8], [8]), ([1, 7, 9, 7], [1, 7, 9]), ([10], [10]), ([11, 10, 0, 1, 2, 3, 4, 5, 6, 7, 8, 9, 10, 11], [11])])
def impl_PlaceOk.B3 : List Nat := [0, 1, 0, 4, 12, 0, 32, 124, 0, 256, 1023, 2047, 4095]
theorem impl_PlaceOk.tab3 : rtab .any (opsOf Tryz.f59 3) = impl_PlaceOk.T3 := by kernel_rfl
theorem impl_PlaceOk.bits3 : waitsOk impl_PlaceOk.T3.2 impl_PlaceOk.B3 = true := by kernel_rfl
theorem impl_PlaceOk.z0 {P_ : Prop} (h_ : P_ := by go_wp2_with (first | ((with_reducible refine gate_callee (f := 81) rfl ?_); refine ca_ (some 5) Tryz.func81 _ (impl_StartOk.calls k ap aq _ _ _ (gt_ st) (gt_ st) A_5.out) ?_; rintro e w_ ⟨rfl, hb⟩; refine ⟨_, rfl, ?_⟩; replace hb := hb.below; replace st := st.ev hb; clear cl hb; have cl := cl_ st) | ((with_reducible refine gate_callee (f := 82) rfl ?_); refine gate_guard (by rfl) ?_; dsimp only; refine ca_ (some 23) Tryz.func82 _ (impl_WordOk.calls k _ an ao _ _ _ (gt_ st) (gt_ st) A_23.out) ?_; rintro e w_ ⟨rfl, hb⟩; refine ⟨_, rfl, ?_⟩; replace hb := hb.below; replace st := st.ev hb; clear cl hb; have cl := cl_ st)); first | (go_meet; (case rel => exact ⟨_, (true), tx_, H', ⟨by first | omega | exact Nat.le_refl _⟩, st.en⟩)) | (go_meet; (case rel => exact ⟨_, (!bh), tx_, H', ⟨by first | omega | exact Nat.le_refl _⟩, st.en⟩))) : P_ := h_
theorem impl_PlaceOk.calls (k : Nat) (ap : Option Addr) (aq : Nat) (ag : List Int) (a0_1 : Int) (an : Option Addr) (ao : Nat) (ab : List Int) (r : Bool) (w : World) (hr0_0 : Kd.C (Kd.int .i64) w ap ag.length ag) (hc0_0 : ag.length ≤ aq) (hr0_2 : Kd.C (Kd.int .i64) w an ab.length ab) (hc0_2 : ab.length ≤ ao) (h : impl_PlaceOk.f k ag a0_1 ab = some r) :
  Calls Tryz.prog 59 #[.agg #[.slice ap ag.length aq, .int .i64 a0_1, .slice an ab.length ao]] w fun e w' => e = .returned (.bool r) ∧ Below w.heap.size w w' := by
 have hu27 := Tryz.underlying27; have st := ((ST.nil w).c hr0_0 hc0_0).c hr0_2 hc0_2; have s0 := st; have cl := cl_ st; have H := h; clear h; unfold impl_PlaceOk.f at H; go_enter Tryz.func59, Tryz.ntmps59; have HC3 := A_ H; clear H
 go_upto_region 1 with (first | ((with_reducible refine gate_dst (N := 1) rfl ?_); refine al_ st ?_; clear st cl; intro g1 w_ st; have cl := cl_ st))
 (try simp only [Act.put, sa_, sb_, sc_])
 go_cut [25] (fun ck wc => ∃ (kq : Nat) (aN : Bool), ck = .bool aN ∧ Aside0 (impl_PlaceOk.j0 kq aN ag a0_1 ab = some r) ∧ Aside0 (kq ≤ k) ∧ ST w [CA (Kd.int .i64) w ap ag aq, CA (Kd.int .i64) w an ab ao] [Bx g1 #[.slice ap ag.length aq, .int .i64 a0_1, .slice an ab.length ao] 27] wc)
 case first =>
  have H := HC3.out; clear HC3; obtain ⟨bg, A_5, H⟩ := bnd_ H; rcases bx_ bg with rfl | rfl
  ·
   replace H := bt_ H; replace H := it_ H; rcases H with ⟨aA, H⟩ | ⟨aA, H⟩
   ·
    (first | rw [aA] | (simp only [i64_w, i32_w]; rw [aA]) | skip); have H' := A_ H; clear H; exact impl_PlaceOk.z0
   ·
    (first | rw [aA] | (simp only [i64_w, i32_w]; rw [aA]) | skip); replace H := ig_ H; rcases H with ⟨a5, H⟩ | ⟨a5, H⟩
    ·
     have H' := A_ H; clear H; exact impl_PlaceOk.z0
    ·
     obtain ⟨bh, A_23, H⟩ := bnd_ H; have H' := A_ H; clear H; exact impl_PlaceOk.z0
  ·
   replace H := bf_ H; have H' := A_ H; clear H; exact impl_PlaceOk.z0
 case rest =>
  clear HC3 st cl; obtain ⟨kq, aN, rfl, HA, HJ2, st⟩ := hcut; have cl := cl_ st
  cases kq with
  | zero => exact absurd HA.out (by simp [impl_PlaceOk.j0])
  | succ kj2 =>
   have H := HA.out; clear HA; simp only [impl_PlaceOk.j0] at H; rcases bx_ aN with rfl | rfl
   ·
    replace H := bt_ H; obtain rfl := Option.some.inj H; go_wp2; go_ret; exact ⟨tw_, st.b⟩
   ·
    replace H := bf_ H; obtain ⟨bC, A_33, H⟩ := bnd_ H; obtain ⟨bD, A_36, H⟩ := bnd_ H; obtain rfl := Option.some.inj H; (try go_wp2); (all_goals (refine rg_ st [] ?_; clear st cl; intro w_ st hs; have cl := cl_ st; refine with_tabW impl_PlaceOk.tab3 impl_PlaceOk.bits3 (fun HT_ HW_ => ?_); refine pv_ 0 ?_; refine pv_ 2 ?_; refine pv_ 5 ?_; refine pv_ 8 ?_; refine tu_ 1 ?_; refine tu_ 3 ?_; refine tu_ 6 ?_; refine tu_ 9 ?_; refine pv_ 4 ?_; refine ov_ 7 (fun K hK => ?_); refine ca2_ (some 33) Tryz.func84 _ (impl_SameRule.calls kj2 _ _ _ _ A_33.out) ?_; rintro e w_ ⟨v0, rfl, h0, hb⟩; refine ⟨_, rfl, ?_⟩; obtain ⟨B33_0, d33_0, rfl⟩ := Kd.S_slice h0; replace st := st.p1 hb (st.ms h0); clear cl hb h0; have cl := cl_ st; refine hK.out _ _ st.en (fun hs => ?_); clear hK K; refine nr_ 33 ?_; refine ov_ 10 (fun K hK => ?_); refine ca2_ (some 36) Tryz.func83 _ (impl_ruleWays.calls kj2 ap aq _ B33_0 d33_0 _ an ao _ _ _ (gt_ st) (gt_ st) (gt_ st) (gt_ st) (gt_ st) (gt_ st) A_36.out) ?_; rintro e w_ ⟨rfl, hb⟩; refine ⟨_, rfl, ?_⟩; replace st := st.ev hb; clear cl hb; have cl := cl_ st; refine hK.out _ _ st.en (fun hs => ?_); clear hK K; refine nr_ 36 ?_; refine pv_ 11 ?_; refine pv_ 12 ?_; refine done_ (done_of HT_.out (by kernel_rfl)) ?_; all_goals (try go_wp2))); go_ret; exact ⟨tw_, st.b⟩

/-! ### strconv_Itoa: function 61 -/
def strconv_Itoa.f (a0 : Int) : Option (ByteArray) := if -9223372036854775808 ≤ a0 ∧ a0 ≤ 9223372036854775807 then some ⟨(Lib.itoa a0).toArray⟩ else none
theorem strconv_Itoa.calls (a0 : Int) (r : ByteArray) (w : World) (hG : GWb w) (h : strconv_Itoa.f a0 = some r) :
  Calls Tryz.prog 61 #[.int .i64 a0] w fun e w' => e = .returned (.string r) ∧ Below w.heap.size w w' := by
 unfold strconv_Itoa.f at h; split at h
 ·
  rename_i hb; obtain rfl := Option.some.inj h; refine (Sh.Tryz.strconv_Itoa a0 hb.1 hb.2 w hG.tab).mono fun e w' ⟨he, k, os, hw⟩ => ⟨he, hw ▸ Lib.below_grow _ w (Nat.le_refl _) k os⟩
 ·
  cases h

/-! ### strings_Join: function 85 -/
def strings_Join.f (l0 : List ByteArray) (a1 : ByteArray) : Option (ByteArray) := if l0.length ≤ 140737488355328 ∧ (Lib.join (l0.map (·.data.toList)) a1.data.toList).length ≤ 140737488355328 then some ⟨(Lib.join (l0.map (·.data.toList)) a1.data.toList).toArray⟩ else none
theorem strings_Join.calls (A0 : Option Addr) (c0 : Nat) (l0 : List ByteArray) (a1 : ByteArray) (r : ByteArray) (w : World) (hr0 : Kd.C Kd.string w A0 l0.length l0) (hc0 : l0.length ≤ c0) (h : strings_Join.f l0 a1 = some r) :
  Calls Tryz.prog 85 #[.slice A0 l0.length c0, .string a1] w fun e w' => e = .returned (.string r) ∧ Below w.heap.size w w' := by
 unfold strings_Join.f at h; split at h
 ·
  rename_i hb; obtain rfl := Option.some.inj h; rcases Nat.eq_zero_or_pos l0.length with h0 | h0
  ·
   obtain rfl : l0 = [] := List.eq_nil_of_length_eq_zero h0; exact (Sh.Tryz.strings_Join_none A0 c0 a1 w).mono fun e w' ⟨he, hw⟩ => ⟨he, hw ▸ Below.refl _ _⟩
  ·
   obtain ⟨ad, rfl, hc⟩ := hr0.2.2 h0
   have hcell : ∀ (j : Nat) x, l0[j]? = some x → w.cell? (ad.add j) = some (.string x) := by
    intro j x hj; obtain ⟨c, hc1, hc2, hc3⟩ := hc j _ hj; have e1 : c = [.string x] := hc2; have := hc3 0 _ (by rw [e1]; rfl); simpa [Kd.string, Kd.scalar] using this
   have hs := hcell 0 _ (List.getElem?_eq_getElem h0)
   have hsp : ad.spot = none := by
    cases hq : ad.spot with
    | none => rfl
    | some q => simp [World.cell?, Addr.add, hq] at hs; split at hs <;> simp at hs
   have hlt := World.block_lt_of_cell? _ _ hs; obtain ⟨b, o, sp⟩ := ad; simp only at hsp; subst hsp; exact Sh.Tryz.strings_Join b o c0 l0 a1 w (fun j x hj => by have := hcell j x hj; unfold Addr.add at this; split at this <;> simp_all) (by simpa [Addr.add] using hlt) hb.1 hc0 hb.2
 ·
  cases h

/-! ### impl_rowText: function 60 -/
def impl_rowText.l0 : Nat → List ByteArray → List Int → Int → Int → Option (ByteArray)
 | 0, _, _, _, _ => none
 | k + 1, x3, x7, x8, x9 => if x9 < x8 then (if 0 ≤ x9 then (if x9 < (x7.length : Int) then ((strconv_Itoa.f (rd x7 x9)).bind fun a3 => (if x3.length < 8796093022208 then (impl_rowText.l0 k (x3 ++ [a3]) x7 x8 (wrap64 (x9 + 1))) else (none))) else (none)) else (none)) else ((strings_Join.f x3 (⟨#[44]⟩ : ByteArray)).bind fun bE => (some bE))
def impl_rowText.f (k : Nat) (l0 : List Int) : Option (ByteArray) := impl_rowText.l0 k (([] : List ByteArray)) l0 (l0.length : Int) 0
theorem impl_rowText.mono_l : ∀ k, (∀ y0 y1 y2 y3, LeO (impl_rowText.l0 k y0 y1 y2 y3) (impl_rowText.l0 (k + 1) y0 y1 y2 y3))
 | 0 => fun _ _ _ _ r h => by simp [impl_rowText.l0] at h
 | k + 1 => by
  have ih0 := impl_rowText.mono_l k
  ·
   intro y0 y1 y2 y3
   unfold impl_rowText.l0
   repeat' (with_reducible first | exact ih0 _ _ _ _ | exact mr_ | exact mn_ | refine mi_ ?_ ?_ | refine mb_ ?_ (fun _ => ?_))
theorem impl_rowText.mono : ∀ a0 k, LeO (impl_rowText.f k a0) (impl_rowText.f (k + 1) a0) := by
 intro a0 k; have ih0 := impl_rowText.mono_l k; unfold impl_rowText.f; repeat' (with_reducible first | exact ih0 _ _ _ _ | exact mr_ | exact mn_ | refine mi_ ?_ ?_ | refine mb_ ?_ (fun _ => ?_))
theorem impl_rowText.z0 {P_ : Prop} (h_ : P_ := by go_wp2_with (first | ((with_reducible refine gate_dst (N := 11) rfl ?_); obtain ⟨p_, q_, ad_, e_, x0⟩ := a2_ (Kd.at_int (gC_ st (Kd.int .i64) A0 l0) aw); have ix_ := ix1_ Tryz.underlying25 e_ p_ q_ (c := c0); clear e_; go_step) | ((with_reducible refine gate_callee (f := 61) rfl ?_); refine ca_ (some 15) Tryz.func61 _ (strconv_Itoa.calls _ _ _ (GWb.below HG.out st.b) A_15.out) ?_; rintro e w_ ⟨rfl, hb⟩; refine ⟨_, rfl, ?_⟩; replace st := st.ev hb; clear cl hb; have cl := cl_ st) | ((with_reducible refine gate_dst (N := 17) rfl ?_); refine ap_ ak ac a3 [.string a3] ((.string ⟨#[]⟩)) 16 st Tryz.underlying52 ?_ (hl := by have := a4.out; omega); clear st cl; intro P17 q17 w_ st; have cl := cl_ st) | ((with_reducible refine gate_callee (f := 85) rfl ?_); refine ca_ (some 20) Tryz.func85 _ (strings_Join.calls ak aE _ _ _ _ (gtl_ st) (gtl_ st) A_20.out) ?_; rintro e w_ ⟨rfl, hb⟩; refine ⟨_, rfl, ?_⟩; replace st := st.ev hb; clear cl hb; have cl := cl_ st)); first | (go_roundg k1; (case measure => have := HK1.out; omega); (case rel => exact ⟨((ac ++ [a3])), (wrap64 (aw + 1)), P17, q17, tx_, tx_, H', ⟨by have := HK1.out; omega⟩, st.en⟩)) | (go_ret; exact ⟨tw_, st.b⟩)) : P_ := h_
theorem impl_rowText.calls (k : Nat) (A0 : Option Addr) (c0 : Nat) (l0 : List Int) (r : ByteArray) (w : World) (hr0 : Kd.C (Kd.int .i64) w A0 l0.length l0) (hc0 : l0.length ≤ c0) (hG : GWb w) (h : impl_rowText.f k l0 = some r) :
  Calls Tryz.prog 60 #[.slice A0 l0.length c0] w fun e w' => e = .returned (.string r) ∧ Below w.heap.size w w' := by
 have HG := A_ hG; clear hG; have st := (ST.nil w).c hr0 hc0; have s0 := st; have cl := cl_ st; have H := h; clear h; unfold impl_rowText.f at H; go_enter Tryz.func60, Tryz.ntmps60; have H' := A_ H; clear H; go_wp2_with (first | ((with_reducible refine gate_dst (N := 6) rfl ?_); refine nwl_ Kd.string 9 (([] : List ByteArray) : List ByteArray) [] st ?_; clear st cl; intro B6_0 d6_0 w_ st; have cl := cl_ st))
 go_loopg [3, 9] k (fun kq v3 v9 w' => ∃ (ac : List ByteArray) (aw : Int) (ak : Option Addr) (aE : Nat), v3 = .slice ak ac.length aE ∧ v9 = .int .i64 aw ∧ Aside0 (impl_rowText.l0 kq ac l0 (l0.length : Int) aw = some r) ∧ Aside0 (kq ≤ k) ∧ ST w [CA (Kd.int .i64) w A0 l0 c0] [AR Kd.string 9 w.heap.size (.slice ak ac.length aE) ac] w')
 case atStart => exact ⟨(([] : List ByteArray)), (0), B6_0, d6_0, tx_, tx_, H', ⟨Nat.le_refl _⟩, st.en⟩
 case round =>
  clear H' st cl; obtain ⟨ac, aw, ak, aE, rfl, rfl, HA, HK1, st⟩ := hrel; have cl := cl_ st
  cases gk with
  | zero => exact absurd HA.out (by simp [impl_rowText.l0])
  | succ k1 =>
   have H := HA.out; clear HA; simp only [impl_rowText.l0] at H; replace H := it_ H; rcases H with ⟨bi, H⟩ | ⟨bi, H⟩
   ·
    replace H := in_ H; obtain ⟨aA, H⟩ := H; replace H := in_ H; obtain ⟨a5, H⟩ := H; obtain ⟨a3, A_15, H⟩ := bnd_ H; replace H := il_ H; obtain ⟨a4, H⟩ := H; have H' := A_ H; clear H; exact impl_rowText.z0
   ·
    obtain ⟨bE, A_20, H⟩ := bnd_ H; obtain rfl := Option.some.inj H; exact impl_rowText.z0

/-! ### impl_PlaceText: function 46 -/
def impl_PlaceText.l0 : Nat → List Int → List Int → Int → Int → List Int → Int → List Int → Option (ByteArray)
 | 0, _, _, _, _, _, _, _ => none
 | k + 1, x3, x11, x12, x13, aG, aH, bb => if x13 < x12 then (if 0 ≤ x13 then (if x13 < (x11.length : Int) then (if x3.length < 140737488355328 then (impl_PlaceText.l0 k (x3 ++ [(wrap64 (97 + (rd x11 x13))) % 256]) x11 x12 (wrap64 (x13 + 1)) aG aH bb) else (none)) else (none)) else (none)) else (if (x3.length : Int) = 0 then (if x3.length < 140737488355328 then ((some (x3 ++ [46] : List Int)).bind fun bF => ((impl_rowText.f k aG).bind fun ah => (if ah.size + 1 ≤ 9223372036854775807 then ((strconv_Itoa.f aH).bind fun al => (if (ah ++ (⟨#[32]⟩ : ByteArray)).size + al.size ≤ 9223372036854775807 then (if ((ah ++ (⟨#[32]⟩ : ByteArray)) ++ al).size + 1 ≤ 9223372036854775807 then (if (((ah ++ (⟨#[32]⟩ : ByteArray)) ++ al) ++ (⟨#[32]⟩ : ByteArray)).size + (strOfNums bF).size ≤ 9223372036854775807 then (some ((((ah ++ (⟨#[32]⟩ : ByteArray)) ++ al) ++ (⟨#[32]⟩ : ByteArray)) ++ (strOfNums bF))) else (none)) else (none)) else (none))) else (none)))) else (none)) else ((impl_rowText.f k aG).bind fun ai => (if ai.size + 1 ≤ 9223372036854775807 then ((strconv_Itoa.f aH).bind fun am => (if (ai ++ (⟨#[32]⟩ : ByteArray)).size + am.size ≤ 9223372036854775807 then (if ((ai ++ (⟨#[32]⟩ : ByteArray)) ++ am).size + 1 ≤ 9223372036854775807 then (if (((ai ++ (⟨#[32]⟩ : ByteArray)) ++ am) ++ (⟨#[32]⟩ : ByteArray)).size + (strOfNums x3).size ≤ 9223372036854775807 then (some ((((ai ++ (⟨#[32]⟩ : ByteArray)) ++ am) ++ (⟨#[32]⟩ : ByteArray)) ++ (strOfNums x3))) else (none)) else (none)) else (none))) else (none))))
def impl_PlaceText.f (k : Nat) (ag : List Int) (a0_1 : Int) (ab : List Int) : Option (ByteArray) := (impl_PlaceOk.f k ag a0_1 ab).bind fun bj => (if bj = true then (impl_PlaceText.l0 k (([] : List Int)) ab (ab.length : Int) 0 ag a0_1 ab) else (some (⟨#[]⟩ : ByteArray)))
theorem impl_PlaceText.mono_l : ∀ k, (∀ y0 y1 y2 y3 y4 y5 y6, LeO (impl_PlaceText.l0 k y0 y1 y2 y3 y4 y5 y6) (impl_PlaceText.l0 (k + 1) y0 y1 y2 y3 y4 y5 y6))
 | 0 => fun _ _ _ _ _ _ _ r h => by simp [impl_PlaceText.l0] at h
 | k + 1 => by
  have ih0 := impl_PlaceText.mono_l k
  ·
   intro y0 y1 y2 y3 y4 y5 y6
   unfold impl_PlaceText.l0
   repeat' (with_reducible first | exact ih0 _ _ _ _ _ _ _ | exact impl_PlaceOk.mono _ _ _ _ | exact impl_rowText.mono _ _ | exact mr_ | exact mn_ | refine mi_ ?_ ?_ | refine mb_ ?_ (fun _ => ?_))
theorem impl_PlaceText.mono : ∀ a0 a1 a2 k, LeO (impl_PlaceText.f k a0 a1 a2) (impl_PlaceText.f (k + 1) a0 a1 a2) := by
 intro a0 a1 a2 k; have ih0 := impl_PlaceText.mono_l k; unfold impl_PlaceText.f; repeat' (with_reducible first | exact ih0 _ _ _ _ _ _ _ | exact impl_PlaceOk.mono _ _ _ _ | exact impl_rowText.mono _ _ | exact mr_ | exact mn_ | refine mi_ ?_ ?_ | refine mb_ ?_ (fun _ => ?_))
def impl_PlaceText.T11 : Bool × List (List Nat × List Nat) := (true, [([], []), ([0], [0]), ([1], [1]), ([2], [2]), ([], []), ([4], [4]), ([5, 2], [5]), ([3, 6], [3, 6]), ([7], [7]), ([], []), ([9], [9]), ([8, 10], [8, 10]), ([11, 6, 0, 1, 2, 3, 4, 5, 6, 7, 8, 9, 10, 11], [11])])
def impl_PlaceText.B11 : List Nat := [0, 1, 3, 7, 0, 16, 55, 127, 255, 0, 512, 2047, 4095]
theorem impl_PlaceText.tab11 : rtab .any (opsOf Tryz.f46 11) = impl_PlaceText.T11 := by kernel_rfl
theorem impl_PlaceText.bits11 : waitsOk impl_PlaceText.T11.2 impl_PlaceText.B11 = true := by kernel_rfl
theorem impl_PlaceText.z0 {P_ : Prop} (h_ : P_ := by (try go_wp2_with (first | ((with_reducible refine gate_dst (N := 15) rfl ?_); (try clear ix_); obtain ⟨p_, q_, ad_, e_, x0⟩ := a2_ (Kd.at_int (gC_ st (Kd.int .i64) an ab) af); have ix_ := ix1_ Tryz.underlying25 e_ p_ q_ (c := ao); clear e_; go_step) | ((with_reducible refine gate_dst (N := 22) rfl ?_); refine ap_ ak ac ((wrap64 (97 + (rd ab af))) % 256) [.int .u8 ((wrap64 (97 + (rd ab af))) % 256)] ((.int .u8 0)) 1 st Tryz.underlying86 ?_ (hl := by have := a4.out; omega); clear st cl; intro P22 q22 w_ st; have cl := cl_ st) | ((with_reducible refine gate_dst (N := 29) rfl ?_); refine ap_ ak ac 46 [.int .u8 46] ((.int .u8 0)) 1 st Tryz.underlying86 ?_ (hl := by have := bk.out; omega); clear st cl; intro P29 q29 w_ st; have cl := cl_ st))); (all_goals (try (replace st := st.lp P29 (ac ++ [46]); refine rg_ st [] ?_; clear st cl; intro w_ st hs; have cl := cl_ st; refine with_tabW impl_PlaceText.tab11 impl_PlaceText.bits11 (fun HT_ HW_ => ?_); refine pv_ 0 ?_; refine pv_ 4 ?_; refine pv_ 9 ?_; refine tu_ 1 ?_; refine tu_ 5 ?_; refine tu_ 10 ?_ (hy := by intro w' s_; have cl := cl_ s_; have hcv_ := own_string (P := Tryz.prog) Tryz.underlying86 Tryz.underlying5 Tryz.underlying9 (Kd.own_of_R (gt_ s_ : Kd.R (Kd.int .u8) 5 w' w.heap.size (fun _ => True) (.slice P29 (ac ++ [46]).length q29) (ac ++ [46]))); (try simp only [List.length_append, List.length_cons, List.length_nil] at hcv_); go_simp; first | done | with_reducible rfl); refine ov_ 2 (fun K hK => ?_); refine ca2_ (some 32) Tryz.func60 _ (impl_rowText.calls k1 ap aq _ _ _ (gt_ st) (gt_ st) (GWb.below HG.out st.b) A_32.out) ?_; rintro e w_ ⟨rfl, hb⟩; refine ⟨_, rfl, ?_⟩; replace st := st.ev hb; clear cl hb; have cl := cl_ st; refine hK.out _ _ st.en (fun hs => ?_); clear hK K; refine nr_ 32 ?_; refine pv_ 3 ?_; refine ov_ 6 (fun K hK => ?_); refine ca2_ (some 36) Tryz.func61 _ (strconv_Itoa.calls _ _ _ (GWb.below HG.out st.b) A_36.out) ?_; rintro e w_ ⟨rfl, hb⟩; refine ⟨_, rfl, ?_⟩; replace st := st.ev hb; clear cl hb; have cl := cl_ st; refine hK.out _ _ st.en (fun hs => ?_); clear hK K; refine nr_ 36 ?_; refine pv_ 7 ?_; refine pv_ 8 ?_; refine pv_ 11 ?_; refine pv_ 12 ?_; refine done_ (done_of HT_.out (by kernel_rfl)) ?_; all_goals (try go_wp2_with (first | ((with_reducible refine gate_dst (N := 15) rfl ?_); (try clear ix_); obtain ⟨p_, q_, ad_, e_, x0⟩ := a2_ (Kd.at_int (gC_ st (Kd.int .i64) an ab) af); have ix_ := ix1_ Tryz.underlying25 e_ p_ q_ (c := ao); clear e_; go_step) | ((with_reducible refine gate_dst (N := 22) rfl ?_); refine ap_ ak ac ((wrap64 (97 + (rd ab af))) % 256) [.int .u8 ((wrap64 (97 + (rd ab af))) % 256)] ((.int .u8 0)) 1 st Tryz.underlying86 ?_ (hl := by have := a4.out; omega); clear st cl; intro P22 q22 w_ st; have cl := cl_ st) | ((with_reducible refine gate_dst (N := 29) rfl ?_); refine ap_ ak ac 46 [.int .u8 46] ((.int .u8 0)) 1 st Tryz.underlying86 ?_ (hl := by have := bk.out; omega); clear st cl; intro P29 q29 w_ st; have cl := cl_ st)))))); (all_goals (try (replace st := st.lp ak ac; refine rg_ st [] ?_; clear st cl; intro w_ st hs; have cl := cl_ st; refine with_tabW impl_PlaceText.tab11 impl_PlaceText.bits11 (fun HT_ HW_ => ?_); refine pv_ 0 ?_; refine pv_ 4 ?_; refine pv_ 9 ?_; refine tu_ 1 ?_; refine tu_ 5 ?_; refine tu_ 10 ?_ (hy := by intro w' s_; have cl := cl_ s_; have hcv_ := own_string (P := Tryz.prog) Tryz.underlying86 Tryz.underlying5 Tryz.underlying9 (Kd.own_of_R (gt_ s_ : Kd.R (Kd.int .u8) 5 w' w.heap.size (fun _ => True) (.slice ak ac.length aE) ac)); (try simp only [List.length_append, List.length_cons, List.length_nil] at hcv_); go_simp; first | done | with_reducible rfl); refine ov_ 2 (fun K hK => ?_); refine ca2_ (some 32) Tryz.func60 _ (impl_rowText.calls k1 ap aq _ _ _ (gt_ st) (gt_ st) (GWb.below HG.out st.b) A_32.out) ?_; rintro e w_ ⟨rfl, hb⟩; refine ⟨_, rfl, ?_⟩; replace st := st.ev hb; clear cl hb; have cl := cl_ st; refine hK.out _ _ st.en (fun hs => ?_); clear hK K; refine nr_ 32 ?_; refine pv_ 3 ?_; refine ov_ 6 (fun K hK => ?_); refine ca2_ (some 36) Tryz.func61 _ (strconv_Itoa.calls _ _ _ (GWb.below HG.out st.b) A_36.out) ?_; rintro e w_ ⟨rfl, hb⟩; refine ⟨_, rfl, ?_⟩; replace st := st.ev hb; clear cl hb; have cl := cl_ st; refine hK.out _ _ st.en (fun hs => ?_); clear hK K; refine nr_ 36 ?_; refine pv_ 7 ?_; refine pv_ 8 ?_; refine pv_ 11 ?_; refine pv_ 12 ?_; refine done_ (done_of HT_.out (by kernel_rfl)) ?_; all_goals (try go_wp2_with (first | ((with_reducible refine gate_dst (N := 15) rfl ?_); (try clear ix_); obtain ⟨p_, q_, ad_, e_, x0⟩ := a2_ (Kd.at_int (gC_ st (Kd.int .i64) an ab) af); have ix_ := ix1_ Tryz.underlying25 e_ p_ q_ (c := ao); clear e_; go_step) | ((with_reducible refine gate_dst (N := 22) rfl ?_); refine ap_ ak ac ((wrap64 (97 + (rd ab af))) % 256) [.int .u8 ((wrap64 (97 + (rd ab af))) % 256)] ((.int .u8 0)) 1 st Tryz.underlying86 ?_ (hl := by have := a4.out; omega); clear st cl; intro P22 q22 w_ st; have cl := cl_ st) | ((with_reducible refine gate_dst (N := 29) rfl ?_); refine ap_ ak ac 46 [.int .u8 46] ((.int .u8 0)) 1 st Tryz.underlying86 ?_ (hl := by have := bk.out; omega); clear st cl; intro P29 q29 w_ st; have cl := cl_ st)))))); first | (go_roundg k1; (case measure => have := HK1.out; omega); (case rel => exact ⟨((ac ++ [(wrap64 (97 + (rd ab af))) % 256])), (wrap64 (af + 1)), P22, q22, tx_, tx_, H', ⟨by have := HK1.out; omega⟩, st.en⟩)) | (go_ret; exact ⟨tw_, st.b⟩)) : P_ := h_
theorem impl_PlaceText.calls (k : Nat) (ap : Option Addr) (aq : Nat) (ag : List Int) (a0_1 : Int) (an : Option Addr) (ao : Nat) (ab : List Int) (r : ByteArray) (w : World) (hr0_0 : Kd.C (Kd.int .i64) w ap ag.length ag) (hc0_0 : ag.length ≤ aq) (hr0_2 : Kd.C (Kd.int .i64) w an ab.length ab) (hc0_2 : ab.length ≤ ao) (hG : GWb w) (h : impl_PlaceText.f k ag a0_1 ab = some r) :
  Calls Tryz.prog 46 #[.agg #[.slice ap ag.length aq, .int .i64 a0_1, .slice an ab.length ao]] w fun e w' => e = .returned (.string r) ∧ Below w.heap.size w w' := by
 have HG := A_ hG; clear hG; have hu27 := Tryz.underlying27; have st := ((ST.nil w).c hr0_0 hc0_0).c hr0_2 hc0_2; have s0 := st; have cl := cl_ st; have H := h; clear h; unfold impl_PlaceText.f at H; go_enter Tryz.func46, Tryz.ntmps46; obtain ⟨bj, A_7, H⟩ := bnd_ H; rcases bx_ bj with rfl | rfl
 ·
  replace H := bt_ H; have H' := A_ H; clear H; go_wp2_with (first | ((with_reducible refine gate_dst (N := 1) rfl ?_); refine al_ st ?_; clear st cl; intro g1 w_ st; have cl := cl_ st) | ((with_reducible refine gate_callee (f := 59) rfl ?_); refine ca_ (some 7) Tryz.func59 _ (impl_PlaceOk.calls k ap aq _ _ an ao _ _ _ (gt_ st) (gt_ st) (gt_ st) (gt_ st) A_7.out) ?_; rintro e w_ ⟨rfl, hb⟩; refine ⟨_, rfl, ?_⟩; replace st := st.ev hb; clear cl hb; have cl := cl_ st) | ((with_reducible refine gate_dst (N := 9) rfl ?_); refine nwl_ (Kd.int .u8) 5 (([] : List Int) : List Int) [] st ?_; clear st cl; intro B9_0 d9_0 w_ st; have cl := cl_ st))
  go_loopg [3, 13] k (fun kq v3 cm w' => ∃ (ac : List Int) (af : Int) (ak : Option Addr) (aE : Nat), v3 = .slice ak ac.length aE ∧ cm = .int .i64 af ∧ Aside0 (impl_PlaceText.l0 kq ac ab (ab.length : Int) af ag a0_1 ab = some r) ∧ Aside0 (kq ≤ k) ∧ ST w [CA (Kd.int .i64) w ap ag aq, CA (Kd.int .i64) w an ab ao] [AR (Kd.int .u8) 5 w.heap.size (.slice ak ac.length aE) ac, Bx g1 #[.slice ap ag.length aq, .int .i64 a0_1, .slice an ab.length ao] 27] w')
  case atStart => exact ⟨(([] : List Int)), (0), B9_0, d9_0, tx_, tx_, H', ⟨Nat.le_refl _⟩, st.en⟩
  case round =>
   clear H' st cl; obtain ⟨ac, af, ak, aE, rfl, rfl, HA, HK1, st⟩ := hrel; have cl := cl_ st
   cases gk with
   | zero => exact absurd HA.out (by simp [impl_PlaceText.l0])
   | succ k1 =>
    have H := HA.out; clear HA; simp only [impl_PlaceText.l0] at H; replace H := it_ H; rcases H with ⟨bi, H⟩ | ⟨bi, H⟩
    ·
     replace H := in_ H; obtain ⟨aA, H⟩ := H; replace H := in_ H; obtain ⟨a5, H⟩ := H; replace H := il_ H; obtain ⟨a4, H⟩ := H; have H' := A_ H; clear H; exact impl_PlaceText.z0
    ·
     by_cases c7 : (ac.length : Int) = 0
     ·
      rw [if_pos c7] at H; have bl : ((ac.length : Int) == 0) = true := beq_iff_eq.mpr c7; have bL : ((ac.length : Int) != 0) = false := bne_eq_false_iff_eq.mpr c7; clear c7; replace H := il_ H; obtain ⟨bk, H⟩ := H; replace H := sm_ H; (try dsimp only at H); obtain ⟨ah, A_32, H⟩ := bnd_ H; replace H := i0_ H; obtain ⟨c9, H⟩ := H; have cn := eq_true c9; have co : decide (ah.size + 1 ≤ 9223372036854775807) = true := decide_eq_true c9; (try have cp : (9223372036854775807 < ah.size + 1) = False := eq_false (Nat.not_lt.2 c9)); obtain ⟨al, A_36, H⟩ := bnd_ H; replace H := i0_ H; obtain ⟨c10, H⟩ := H; have aQ := eq_true c10; have bN : decide ((ah ++ (⟨#[32]⟩ : ByteArray)).size + al.size ≤ 9223372036854775807) = true := decide_eq_true c10; (try have bO : (9223372036854775807 < (ah ++ (⟨#[32]⟩ : ByteArray)).size + al.size) = False := eq_false (Nat.not_lt.2 c10)); (try have bP : (9223372036854775807 < ah.size + 1 + al.size) = False := eq_false (by have h := c10; simp only [ByteArray.size_append] at h; simp only [ByteArray.size] at h ⊢; simp at h ⊢; omega)); replace H := i0_ H; obtain ⟨c11, H⟩ := H; have bc := eq_true c11; have bo : decide (((ah ++ (⟨#[32]⟩ : ByteArray)) ++ al).size + 1 ≤ 9223372036854775807) = true := decide_eq_true c11; (try have bQ : (9223372036854775807 < ((ah ++ (⟨#[32]⟩ : ByteArray)) ++ al).size + 1) = False := eq_false (Nat.not_lt.2 c11)); (try have bR : (9223372036854775807 < ah.size + 1 + al.size + 1) = False := eq_false (by have h := c11; simp only [ByteArray.size_append] at h; simp only [ByteArray.size] at h ⊢; simp at h ⊢; omega)); replace H := i0_ H; obtain ⟨c12, H⟩ := H; have bp := eq_true c12; have bq : decide ((((ah ++ (⟨#[32]⟩ : ByteArray)) ++ al) ++ (⟨#[32]⟩ : ByteArray)).size + (strOfNums (ac ++ [46])).size ≤ 9223372036854775807) = true := decide_eq_true c12; (try have bS : (9223372036854775807 < (((ah ++ (⟨#[32]⟩ : ByteArray)) ++ al) ++ (⟨#[32]⟩ : ByteArray)).size + (strOfNums (ac ++ [46])).size) = False := eq_false (Nat.not_lt.2 c12)); (try have bU : (9223372036854775807 < ah.size + 1 + al.size + 1 + (strOfNums (ac ++ [46])).size) = False := eq_false (by have h := c12; simp only [ByteArray.size_append] at h; simp only [ByteArray.size] at h ⊢; simp at h ⊢; omega)); obtain rfl := Option.some.inj H; exact impl_PlaceText.z0
     ·
      rw [if_neg c7] at H; have bl : ((ac.length : Int) == 0) = false := beq_eq_false_iff_ne.mpr c7; have bL : ((ac.length : Int) != 0) = true := bne_iff_ne.mpr c7; have cq : ¬ (ac = []) := fun h_ => c7 (by rw [h_]; rfl); obtain ⟨ai, A_32, H⟩ := bnd_ H; replace H := i0_ H; obtain ⟨c13, H⟩ := H; have aR := eq_true c13; have bd : decide (ai.size + 1 ≤ 9223372036854775807) = true := decide_eq_true c13; (try have bV : (9223372036854775807 < ai.size + 1) = False := eq_false (Nat.not_lt.2 c13)); obtain ⟨am, A_36, H⟩ := bnd_ H; replace H := i0_ H; obtain ⟨c14, H⟩ := H; have br := eq_true c14; have bW : decide ((ai ++ (⟨#[32]⟩ : ByteArray)).size + am.size ≤ 9223372036854775807) = true := decide_eq_true c14; (try have bX : (9223372036854775807 < (ai ++ (⟨#[32]⟩ : ByteArray)).size + am.size) = False := eq_false (Nat.not_lt.2 c14)); (try have bZ : (9223372036854775807 < ai.size + 1 + am.size) = False := eq_false (by have h := c14; simp only [ByteArray.size_append] at h; simp only [ByteArray.size] at h ⊢; simp at h ⊢; omega)); replace H := i0_ H; obtain ⟨c15, H⟩ := H; have b0 := eq_true c15; have b1 : decide (((ai ++ (⟨#[32]⟩ : ByteArray)) ++ am).size + 1 ≤ 9223372036854775807) = true := decide_eq_true c15; (try have b2 : (9223372036854775807 < ((ai ++ (⟨#[32]⟩ : ByteArray)) ++ am).size + 1) = False := eq_false (Nat.not_lt.2 c15)); (try have b3 : (9223372036854775807 < ai.size + 1 + am.size + 1) = False := eq_false (by have h := c15; simp only [ByteArray.size_append] at h; simp only [ByteArray.size] at h ⊢; simp at h ⊢; omega)); replace H := i0_ H; obtain ⟨c16, H⟩ := H; have b4 := eq_true c16; have b5 : decide ((((ai ++ (⟨#[32]⟩ : ByteArray)) ++ am) ++ (⟨#[32]⟩ : ByteArray)).size + (strOfNums ac).size ≤ 9223372036854775807) = true := decide_eq_true c16; (try have b6 : (9223372036854775807 < (((ai ++ (⟨#[32]⟩ : ByteArray)) ++ am) ++ (⟨#[32]⟩ : ByteArray)).size + (strOfNums ac).size) = False := eq_false (Nat.not_lt.2 c16)); (try have b7 : (9223372036854775807 < ai.size + 1 + am.size + 1 + (strOfNums ac).size) = False := eq_false (by have h := c16; simp only [ByteArray.size_append] at h; simp only [ByteArray.size] at h ⊢; simp at h ⊢; omega)); obtain rfl := Option.some.inj H; exact impl_PlaceText.z0
 ·
  replace H := bf_ H; obtain rfl := Option.some.inj H; go_wp2_with (first | ((with_reducible refine gate_dst (N := 1) rfl ?_); refine al_ st ?_; clear st cl; intro g1 w_ st; have cl := cl_ st) | ((with_reducible refine gate_callee (f := 59) rfl ?_); refine ca_ (some 7) Tryz.func59 _ (impl_PlaceOk.calls k ap aq _ _ an ao _ _ _ (gt_ st) (gt_ st) (gt_ st) (gt_ st) A_7.out) ?_; rintro e w_ ⟨rfl, hb⟩; refine ⟨_, rfl, ?_⟩; replace st := st.ev hb; clear cl hb; have cl := cl_ st)); go_ret; exact ⟨tw_, st.b⟩

end Go.Proofs.YtmodbemkflkbeaaGreatDoor.MFnExactStoreOpen
