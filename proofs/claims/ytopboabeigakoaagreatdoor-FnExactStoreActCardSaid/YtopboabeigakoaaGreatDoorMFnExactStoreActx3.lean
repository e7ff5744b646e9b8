/- For the law FnExactStoreAct: walks of the functions that it reaches: each call returns what the plain function beside it tells. The conditions stand in each statement. -/
import Derived.Test.YtopboabeigakoaaGreatDoorV
import Derived.Test.YtopboabeigakoaaGreatDoorMFnExactStoreActx0
import Derived.Test.YtopboabeigakoaaGreatDoorMFnExactStoreActx2
namespace Go.Proofs.YtopboabeigakoaaGreatDoor.MFnExactStoreAct
open Go.RowKit Go.Proofs.YtopboabeigakoaaGreatDoorW.PrintWords Go.Proofs.YtopboabeigakoaaGreatDoorW.PrintLast Go.Proofs.YtopboabeigakoaaGreatDoorW.PrintMore
attribute [local go_sem] max2_int min2_int max_two min_two max_three min_three max_four min_four   -- for this text's walks alone
set_option linter.unusedVariables false
set_option linter.unusedSimpArgs false
set_option maxHeartbeats 8000000
set_option maxRecDepth 100000

/-! ### impl_ruleWays: function 103 -/
def impl_ruleWays.l0 : Nat → List Int → List (List Int) → List Int → Int → List Int → Int → Int → Option (Int)
 | 0, _, _, _, _, _, _, _ => none
 | k + 1, x0, x1, x2, x7, x10, x11, x12 => if x12 < x11 then (if 0 ≤ x12 then (if x12 < (x10.length : Int) then (if x12 ≤ (x2.length : Int) then ((impl_after.f k x0 x1 (x2.take (x12 : Int).toNat)).bind fun ai => (if 0 ≤ (rd x10 x12) then (if (rd x10 x12) < (ai.length : Int) then (if (wrap64 (x7 * (mx 0 (rd ai (rd x10 x12))))) = 0 then (some 0) else (impl_ruleWays.l0 k x0 x1 x2 (wrap64 (x7 * (mx 0 (rd ai (rd x10 x12))))) x10 x11 (wrap64 (x12 + 1)))) else (none)) else (none))) else (none)) else (none)) else (none)) else (some x7)
def impl_ruleWays.f (k : Nat) (l0 : List Int) (l1 : List (List Int)) (l2 : List Int) : Option (Int) := impl_ruleWays.l0 k l0 l1 l2 1 l2 (l2.length : Int) 0
theorem impl_ruleWays.calls (k : Nat) (A0 : Option Addr) (c0 : Nat) (l0 : List Int) (A1 : Option Addr) (c1 : Nat) (l1 : List (List Int)) (A2 : Option Addr) (c2 : Nat) (l2 : List Int) (r : Int) (w : World) (hr0 : Kd.C (Kd.int .i64) w A0 l0.length l0) (hc0 : l0.length ≤ c0) (hr1 : Kd.C (Kd.slice 3 (Kd.int .i64)) w A1 l1.length l1) (hc1 : l1.length ≤ c1) (hr2 : Kd.C (Kd.int .i64) w A2 l2.length l2) (hc2 : l2.length ≤ c2) (h : impl_ruleWays.f k l0 l1 l2 = some r) :
  Calls Tryz.prog 103 #[.slice A0 l0.length c0, .slice A1 l1.length c1, .slice A2 l2.length c2] w fun e w' => e = .returned (.int .i64 r) ∧ Below w.heap.size w w' := by
 have HR0 := A_ hr0; have HC0 := A_ hc0; clear hr0 hc0; have HR1 := A_ hr1; have HC1 := A_ hc1; clear hr1 hc1; have HR2 := A_ hr2; have HC2 := A_ hc2; clear hr2 hc2; have HB := A_ (Below.refl w.heap.size w); have H : (impl_ruleWays.l0 k l0 l1 l2 1 l2 (l2.length : Int) 0) = some r := h; clear h; have H' := A_ H; clear H; go_enter Tryz.func103, Tryz.ntmps103; go_wp2
 go_loopg [7, 12] k (fun kq v7 bL w' => ∃ (ak : Int) (aa : Int), v7 = .int .i64 ak ∧ bL = .int .i64 aa ∧ Aside0 (impl_ruleWays.l0 kq l0 l1 l2 ak l2 (l2.length : Int) aa = some r) ∧ Aside0 (kq ≤ k) ∧ Aside0 (Below w.heap.size w w'))
 case atStart => exact ⟨(1), (0), tx_, tx_, H', ⟨Nat.le_refl _⟩, ⟨(tb_ HB.out)⟩⟩
 case round =>
  clear H'; obtain ⟨ak, aa, rfl, rfl, HA, HK1, HB⟩ := hrel
  cases gk with
  | zero => exact absurd HA.out (by simp [impl_ruleWays.l0])
  | succ k1 =>
   have H := HA.out; clear HA; simp only [impl_ruleWays.l0] at H; replace H := it_ H; rcases H with ⟨aG, H⟩ | ⟨aG, H⟩
   ·
    replace H := in_ H; obtain ⟨bu, H⟩ := H; replace H := in_ H; obtain ⟨an, H⟩ := H; have bM := eq_true (od_ : 0 ≤ aa); replace H := i0_ H; obtain ⟨c8, H⟩ := H; have bN := eq_true c8; have bO : decide (aa ≤ (l2.length : Int)) = true := decide_eq_true c8; clear c8; obtain ⟨ai, A9, H⟩ := bnd_ H; (try dsimp only at H); replace H := in_ H; obtain ⟨aZ, H⟩ := H; replace H := in_ H; obtain ⟨bb, H⟩ := H; obtain ⟨ao, am⟩ : ∃ j_ : Int, (mx 0 (rd ai (rd l2 aa))) = j_ := ⟨_, rfl⟩
    replace H : (if (wrap64 (ak * (ao))) = 0 then (some 0) else (impl_ruleWays.l0 k1 l0 l1 l2 (wrap64 (ak * (ao))) l2 (l2.length : Int) (wrap64 (aa + 1)))) = some r := by first | (rw [am] at H; exact H) | (simp only [am] at H ⊢; exact H)
    (try rw [am] at A9); have hji12_ : (if 0 < (rd ai (rd l2 aa)) then (rd ai (rd l2 aa)) else 0) = ao := am; by_cases c13 : (wrap64 (ak * (ao))) = 0
    ·
     rw [if_pos c13] at H; have a3 : ((wrap64 (ak * (ao))) == 0) = true := beq_iff_eq.mpr c13; have bc : ((wrap64 (ak * (ao))) != 0) = false := bne_eq_false_iff_eq.mpr c13; clear c13; obtain rfl := Option.some.inj H; obtain ⟨p121, q121, ad121, e121, ac⟩ := a2_ (Kd.at_int HR2.out aa); cases e121; replace ac := (HB.out.cell (World.block_lt_of_cell? w _ ac)).trans ac; obtain ⟨i014, hi014, _, hsz14, _⟩ := info_parts info3; obtain ⟨hcut14, hA14, hC14⟩ := print_take_of (P := Tryz.prog) (Value.int .i64) 0 33 3 .i64 Tryz.underlying33 hi014 hsz14 (some ad121) c2 l2 aa (od_) (od_) HC2.out; have HR122 := A_ (Kd.C_of_reads (h1 := fun _ => rfl) (hA14 _ (Kd.reads_of_C HR2.out))); have HC122 := A_ hC14; clear hA14 hC14 hi014 hsz14; go_wp2_with (first | ((with_reducible refine gate_callee (f := 125) rfl ?_); refine goesL_ (some 23) rfl rfl Tryz.func125 (by kernel_rfl) rfl #[.slice A0 l0.length c0, .slice A1 l1.length c1, .slice (some ad121) (l2.take (aa : Int).toNat).length c2] rfl (by (try simp only [List.map_toArray, List.map_cons, List.map_nil]); first | done | (rw [show (l2.take (aa : Int).toNat).length = aa.toNat from (by rw [List.length_take]; have h_ : (aa : Int) ≤ (l2.length : Int) := od_; omega)] <;> rfl) | rfl | (simp only [List.length_drop, List.length_take]; rfl)) ?_; (with_reducible refine (impl_after.calls k1 _ _ l0 _ _ l1 _ _ (l2.take (aa : Int).toNat) ai _ ?s1 ?s2 ?s3 ?s4 ?s5 ?s6 A9.out).mono ?_); (case s1 => exact tD_); (case s2 => exact HC0.out); (case s3 => exact tD_); (case s4 => exact HC1.out); (case s5 => exact tD_); (case s6 => exact HC122.out); rintro e b3 ⟨bv, rfl, ho0, hb⟩; refine ⟨_, rfl, ?_⟩; have au := rx_ ho0 HB; replace HB := bs_ HB hb; (try clear hb ho0); obtain ⟨bP, bQ, bw⟩ := Kd.R_slice au.out; subst bw; obtain ⟨p126, q126, ad126, e126, aV⟩ := a2_ (Kd.at_int (Kd.R_reads' au.out).2.2 (rd l2 aa)); cases e126)); go_ret; exact ⟨by first | rfl | (simp [errW_none, errW_some, Option.map_none, Option.map_some] <;> rfl) | (simp only [← am]; first | rfl | (simp [errW_none, errW_some, Option.map_none, Option.map_some] <;> rfl)) | (simp [*, errW_none, errW_some] <;> rfl), (tb_ HB.out)⟩
    ·
     rw [if_neg c13] at H; have a3 : ((wrap64 (ak * (ao))) == 0) = false := beq_eq_false_iff_ne.mpr c13; have bc : ((wrap64 (ak * (ao))) != 0) = true := bne_iff_ne.mpr c13; have H' := A_ H; clear H; obtain ⟨p121, q121, ad121, e121, ac⟩ := a2_ (Kd.at_int HR2.out aa); cases e121; replace ac := (HB.out.cell (World.block_lt_of_cell? w _ ac)).trans ac; obtain ⟨i017, hi017, _, hsz17, _⟩ := info_parts info3; obtain ⟨hcut17, hA17, hC17⟩ := print_take_of (P := Tryz.prog) (Value.int .i64) 0 33 3 .i64 Tryz.underlying33 hi017 hsz17 (some ad121) c2 l2 aa (od_) (od_) HC2.out; have HR122 := A_ (Kd.C_of_reads (h1 := fun _ => rfl) (hA17 _ (Kd.reads_of_C HR2.out))); have HC122 := A_ hC17; clear hA17 hC17 hi017 hsz17; go_wp2_with (first | ((with_reducible refine gate_callee (f := 125) rfl ?_); refine goesL_ (some 23) rfl rfl Tryz.func125 (by kernel_rfl) rfl #[.slice A0 l0.length c0, .slice A1 l1.length c1, .slice (some ad121) (l2.take (aa : Int).toNat).length c2] rfl (by (try simp only [List.map_toArray, List.map_cons, List.map_nil]); first | done | (rw [show (l2.take (aa : Int).toNat).length = aa.toNat from (by rw [List.length_take]; have h_ : (aa : Int) ≤ (l2.length : Int) := od_; omega)] <;> rfl) | rfl | (simp only [List.length_drop, List.length_take]; rfl)) ?_; (with_reducible refine (impl_after.calls k1 _ _ l0 _ _ l1 _ _ (l2.take (aa : Int).toNat) ai _ ?s1 ?s2 ?s3 ?s4 ?s5 ?s6 A9.out).mono ?_); (case s1 => exact tD_); (case s2 => exact HC0.out); (case s3 => exact tD_); (case s4 => exact HC1.out); (case s5 => exact tD_); (case s6 => exact HC122.out); rintro e b4 ⟨bv, rfl, ho0, hb⟩; refine ⟨_, rfl, ?_⟩; have au := rx_ ho0 HB; replace HB := bs_ HB hb; (try clear hb ho0); obtain ⟨bR, bS, bx⟩ := Kd.R_slice au.out; subst bx; obtain ⟨p126, q126, ad126, e126, aV⟩ := a2_ (Kd.at_int (Kd.R_reads' au.out).2.2 (rd l2 aa)); cases e126))
     go_roundg k1
     case measure => have := HK1.out; omega
     case rel => exact ⟨(wrap64 (ak * (ao))), (wrap64 (aa + 1)), (by first | rfl | (simp; done) | (simp only [← am] <;> (first | rfl | simp)) | (simp [*]; done)), tx_, H', ⟨by have := HK1.out; omega⟩, ⟨(tb_ HB.out)⟩⟩
   ·
    obtain rfl := Option.some.inj H; go_wp2; go_ret; exact ⟨tw_, (tb_ HB.out)⟩

/-! ### impl_SameRule: function 104 -/
mutual
def impl_SameRule.j0 : Nat → Int → Int → Bool → Option ((List (List Int)))
 | 0, _, _, _ => none
 | k + 1, x0, x1, x18 => if x18 = true then (some ([] : List (List Int))) else (impl_SameRule.l0 k x0 x1 (([] : List (List Int))) x0 0)
def impl_SameRule.l0 : Nat → Int → Int → List (List Int) → Int → Int → Option ((List (List Int)))
 | 0, _, _, _, _, _ => none
 | k + 1, x0, x1, x5, x20, x21 => if x21 < x20 then (if 0 ≤ x0 then (if (x0 : Int).toNat ≤ 35184372088832 then ((some (List.replicate (x0 : Int).toNat 0 : List Int)).bind fun ag => (if 0 ≤ x21 then (if x21 < (ag.length : Int) then (if x5.length < 5864062014805 then (impl_SameRule.l0 k x0 x1 (x5 ++ [(ag.set (x21 : Int).toNat x1)]) x20 (wrap64 (x21 + 1))) else (none)) else (none)) else (none))) else (none)) else (none)) else (some x5)
end
def impl_SameRule.f (k : Nat) (a0 : Int) (a1 : Int) : Option ((List (List Int))) := (impl_coloursOk.f a0).bind fun aH => (if aH = true then (if a1 < (-1) then (impl_SameRule.j0 k a0 a1 true) else (impl_SameRule.j0 k a0 a1 (decide (a1 > 3)))) else (impl_SameRule.j0 k a0 a1 true))
theorem impl_SameRule.mono_l : ∀ k, (∀ y0 y1 y2, LeO (impl_SameRule.j0 k y0 y1 y2) (impl_SameRule.j0 (k + 1) y0 y1 y2)) ∧ (∀ y0 y1 y2 y3 y4, LeO (impl_SameRule.l0 k y0 y1 y2 y3 y4) (impl_SameRule.l0 (k + 1) y0 y1 y2 y3 y4))
 | 0 => ⟨fun _ _ _ r h => by simp [impl_SameRule.j0] at h, fun _ _ _ _ _ r h => by simp [impl_SameRule.l0] at h⟩
 | k + 1 => by
  obtain ⟨ih0, ih1⟩ := impl_SameRule.mono_l k
  refine ⟨?_, ?_⟩
  ·
   intro y0 y1 y2
   unfold impl_SameRule.j0
   repeat' (with_reducible first | exact ih0 _ _ _ | exact ih1 _ _ _ _ _ | exact mr_ | exact mn_ | refine mi_ ?_ ?_ | refine mb_ ?_ (fun _ => ?_))
  ·
   intro y0 y1 y2 y3 y4
   unfold impl_SameRule.l0
   repeat' (with_reducible first | exact ih0 _ _ _ | exact ih1 _ _ _ _ _ | exact mr_ | exact mn_ | refine mi_ ?_ ?_ | refine mb_ ?_ (fun _ => ?_))
theorem impl_SameRule.mono : ∀ a0 a1 k, LeO (impl_SameRule.f k a0 a1) (impl_SameRule.f (k + 1) a0 a1) := by
 intro a0 a1 k; obtain ⟨ih0, ih1⟩ := impl_SameRule.mono_l k; unfold impl_SameRule.f; repeat' (with_reducible first | exact ih0 _ _ _ | exact ih1 _ _ _ _ _ | exact mr_ | exact mn_ | refine mi_ ?_ ?_ | refine mb_ ?_ (fun _ => ?_))
theorem impl_SameRule.calls (k : Nat) (a0 : Int) (a1 : Int) (r : List (List Int)) (w : World) (h : impl_SameRule.f k a0 a1 = some r) :
  Calls Tryz.prog 104 #[.int .i64 a0, .int .i64 a1] w fun e w' => ∃ v0_ : Value, e = .returned (v0_) ∧ Kd.S (Kd.slice 3 (Kd.int .i64)) 33 w' w.heap.size (fun _ => True) v0_ r ∧ Below w.heap.size w w' := by
 have HB := A_ (Below.refl w.heap.size w); have H : ((impl_coloursOk.f a0).bind fun aH => (if aH = true then (if a1 < (-1) then (impl_SameRule.j0 k a0 a1 true) else (impl_SameRule.j0 k a0 a1 (decide (a1 > 3)))) else (impl_SameRule.j0 k a0 a1 true))) = some r := h; clear h; have HC3 := A_ H; clear H; go_enter Tryz.func104, Tryz.ntmps104
 go_upto_region 1 with (fail)
 go_cut [18] (fun bU wc => ∃ (kq : Nat) (aw : Bool), bU = .bool aw ∧ Aside0 (impl_SameRule.j0 kq a0 a1 aw = some r) ∧ Aside0 (kq ≤ k) ∧ Aside0 (Below w.heap.size w wc))
 case first =>
  have H := HC3.out; clear HC3; obtain ⟨aH, A4, H⟩ := bnd_ H; (try dsimp only at H); by_cases c5 : aH = true
  ·
   subst c5; replace H : (if a1 < (-1) then (impl_SameRule.j0 k a0 a1 true) else (impl_SameRule.j0 k a0 a1 (decide (a1 > 3)))) = some r := by rw [if_pos rfl] at H; exact H
   replace H := it_ H; rcases H with ⟨an, H⟩ | ⟨an, H⟩
   ·
    (first | rw [an] | (simp only [i64_w, i32_w]; rw [an]) | skip); have H' := A_ H; clear H; go_wp2_with (first | ((with_reducible refine gate_callee (f := 89) rfl ?_); refine gl_ (some 9) Tryz.func89 #[.int .i64 a0] ?_; (with_reducible refine (impl_coloursOk.calls a0 true _ A4.out).mono ?_); rintro e w' ⟨rfl, ⟨nd, rfl⟩⟩; refine ⟨_, rfl, ?_⟩)); go_meet
    case rel => exact ⟨_, (true), tx_, H', ⟨by first | omega | exact Nat.le_refl _⟩, ⟨(tb_ HB.out)⟩⟩
   ·
    (first | rw [an] | (simp only [i64_w, i32_w]; rw [an]) | skip); have H' := A_ H; clear H; go_wp2_with (first | ((with_reducible refine gate_callee (f := 89) rfl ?_); refine gl_ (some 9) Tryz.func89 #[.int .i64 a0] ?_; (with_reducible refine (impl_coloursOk.calls a0 true _ A4.out).mono ?_); rintro e w' ⟨rfl, ⟨nd, rfl⟩⟩; refine ⟨_, rfl, ?_⟩)); go_meet
    case rel => exact ⟨_, (decide (a1 > 3)), tx_, H', ⟨by first | omega | exact Nat.le_refl _⟩, ⟨(tb_ HB.out)⟩⟩
  ·
   replace c5 := Bool.eq_false_iff.mpr c5; subst c5; replace H : (impl_SameRule.j0 k a0 a1 true) = some r := by rw [if_neg (show ¬ (false = true) by decide)] at H; exact H
   have H' := A_ H; clear H; go_wp2_with (first | ((with_reducible refine gate_callee (f := 89) rfl ?_); refine gl_ (some 9) Tryz.func89 #[.int .i64 a0] ?_; (with_reducible refine (impl_coloursOk.calls a0 false _ A4.out).mono ?_); rintro e w' ⟨rfl, ⟨nd, rfl⟩⟩; refine ⟨_, rfl, ?_⟩)); go_meet
   case rel => exact ⟨_, (true), tx_, H', ⟨by first | omega | exact Nat.le_refl _⟩, ⟨(tb_ HB.out)⟩⟩
 case rest =>
  clear HC3; obtain ⟨kq, aw, rfl, HA, HJ2, HB⟩ := hcut
  cases kq with
  | zero => exact absurd HA.out (by simp [impl_SameRule.j0])
  | succ kj2 =>
   have H := HA.out; clear HA; simp only [impl_SameRule.j0] at H; by_cases c7 : aw = true
   ·
    subst c7; replace H : (some ([] : List (List Int))) = some r := by rw [if_pos rfl] at H; exact H
    obtain rfl := Option.some.inj H; go_wp2; go_ret; exact ⟨_, tw_, by first | exact Kd.S_nil _ _ _ _ _ | exact Kd.N_nil _ _ _ _ _ | exact Kd.V_nil _ _ _ _ _ | exact Kd.Q_nil _ _ _ _ _ | exact Kd.R_nil _ _ _ _ _, (tb_ HB.out)⟩
   ·
    replace c7 := Bool.eq_false_iff.mpr c7; subst c7; replace H : (impl_SameRule.l0 kj2 a0 a1 (([] : List (List Int))) a0 0) = some r := by rw [if_neg (show ¬ (false = true) by decide)] at H; exact H
    obtain ⟨bd, aI⟩ : ∃ y_ : List (List Int), y_ = (([] : List (List Int))) := ⟨_, rfl⟩
    replace H : (impl_SameRule.l0 kj2 a0 a1 bd a0 0) = some r := yq_ aI H; have a4 := A_ aI; clear aI; have H' := A_ H; clear H; go_wp2_with (first | ((with_reducible refine gate_dst (N := 19) rfl ?_); refine Kd.S_lit (Kd.slice 3 (Kd.int .i64)) _ 33 ?hg (N := 19) ?hd (xs := ([] : List (List Int))) (inner := []) (ok := fun _ => True) (okp := fun _ => True) ?hr ?hp (fun _ hk => hk) trivial (Below.refl _ _) (Nat.le_refl _) (by simp) ?_; (case hd => rfl); (case hg => rfl); (case hr => first | (go_simp; done) | (go_simp; rfl)); (case hp => exact (Reps.none _ _)); intro bV w8 ho9 hb hg_ hnew_; clear hg_ hnew_; (first | rw [← a4.out] at ho9 | (simp only [Int.reduceToNat] at ho9; rw [← a4.out] at ho9)); have be := A_ (Kd.S_lower ho9 (below_size (tb_ HB.out))); replace HB := bs_ HB hb; clear hb ho9))
    go_loopg [5, 21] kj2 (fun kq v5 bW w' => ∃ (al : List (List Int)) (ab : Int), bW = .int .i64 ab ∧ Aside0 (impl_SameRule.l0 kq a0 a1 al a0 ab = some r) ∧ Aside0 (kq ≤ kj2) ∧ Aside0 (Kd.S (Kd.slice 3 (Kd.int .i64)) 33 w' w.heap.size (fun _ => True) v5 al) ∧ Aside0 (Below w.heap.size w w'))
    case atStart => exact ⟨(bd), (0), tx_, H', ⟨Nat.le_refl _⟩, ⟨rS_ be.out⟩, ⟨(tb_ HB.out)⟩⟩
    case round =>
     clear H'; (try clear c7); obtain ⟨al, ab, rfl, HA, HK2, ap, HB⟩ := hrel
     cases gk with
     | zero => exact absurd HA.out (by simp [impl_SameRule.l0])
     | succ k2 =>
      have H := HA.out; clear HA; simp only [impl_SameRule.l0] at H; replace H := it_ H; rcases H with ⟨aZ, H⟩ | ⟨aZ, H⟩
      ·
       replace H := i0_ H; obtain ⟨c11, H⟩ := H; have bb := eq_true c11; have bG : decide (0 ≤ a0) = true := decide_eq_true c11; clear c11; replace H := i0_ H; obtain ⟨c12, H⟩ := H; have bH := eq_true c12; have bI : decide ((a0 : Int).toNat ≤ 35184372088832) = true := decide_eq_true c12; clear c12; obtain ⟨ag, aJ⟩ : ∃ y_ : List Int, y_ = (List.replicate (a0 : Int).toNat 0) := ⟨_, rfl⟩
       replace H : (if 0 ≤ ab then (if ab < (ag.length : Int) then (if al.length < 5864062014805 then (impl_SameRule.l0 k2 a0 a1 (al ++ [(ag.set (ab : Int).toNat a1)]) a0 (wrap64 (ab + 1))) else (none)) else (none)) else (none)) = some r := yq_ aJ H; have a5 := A_ aJ; clear aJ; replace H := in_ H; obtain ⟨a3, H⟩ := H; replace H := in_ H; obtain ⟨bJ, H⟩ := H; obtain ⟨aW, aK⟩ : ∃ y_ : List Int, y_ = (ag.set (ab : Int).toNat a1) := ⟨_, rfl⟩
       replace H : (if al.length < 5864062014805 then (impl_SameRule.l0 k2 a0 a1 (al ++ [aW]) a0 (wrap64 (ab + 1))) else (none)) = some r := yq_ aK H; have bf := A_ aK; clear aK; replace H := il_ H; obtain ⟨bg, H⟩ := H; obtain ⟨bh, aM⟩ : ∃ y_ : List (List Int), y_ = (al ++ [aW]) := ⟨_, rfl⟩
       replace H : (impl_SameRule.l0 k2 a0 a1 bh a0 (wrap64 (ab + 1))) = some r := yq_ aM H; have bi := A_ aM; clear aM; have H' := A_ H; clear H; go_wp2_with (first | ((with_reducible refine gate_dst (N := 25) rfl ?_); refine Kd.R_make (Kd.int .i64) _ 3 rfl (N := 25) rfl 33 _ _ rfl a0 rfl rfl Tryz.underlying33 (.int .i64 0) 8 info3 rfl (by decide) (by omega) 0 (ok := fun _ => True) (okp := fun _ => True) rfl (fun _ hk => hk) trivial (od_) (Nat.le_trans (Nat.mul_le_mul_right _ (od_ : a0.toNat ≤ 35184372088832)) (by omega)) (Below.refl _ _) (Nat.le_refl _) ?_; intro bX bK ho18 hb hg_ hnew_; clear hg_ hnew_; (first | rw [← a5.out] at ho18 | (simp only [Int.reduceToNat] at ho18; rw [← a5.out] at ho18)); replace ap := A_ (Kd.S_elder' (rS_ ap.out) (Kd.R_base ho18) hb); have aj := rx_ ho18 HB; replace HB := bs_ HB hb; clear hb ho18; have p15 : 0 ≤ (ab : Int) := od_; have q15 : (ab : Int) < ((ag.length : Int) : Int) := od_; obtain ⟨go15, aN, bj, bk, gl15, cl15, HG15⟩ := Kd.R_form aj.out (by omega); (first | cases bj | (injection bj with ea_ en_ ec_; (first | subst ea_ | (injection ea_ with ea_; subst ea_)); subst ec_; clear en_)); have GB15 := A_ bk; have GG15 := A_ HG15; clear bk gl15 HG15; obtain ⟨bz, hf15_0⟩ := Kd.R_celln 0 aj.out (ab : Int) p15 q15; replace p15 := eq_true p15; replace q15 := eq_true q15; obtain ⟨hy19_, hz19_⟩ := Kd.R_celln 0 aj.out (ab : Int) (od_) (od_); have HP19 := Kd.R_putg aj.out (ab : Int) a1) | ((with_reducible refine gate_store (t := 3) (p := 29) rfl ?_); refine store_event (t := 3) (p := 29) (v := ?vo_w20) (w1 := (bK.setCell ⟨go15, (ab : Int).toNat, none⟩ (.int .i64 a1))) ?hg ?ho ?hn ?hr ?_; (case ho => rfl); (case hg => rfl); (case hn => rfl); (case hr => first | (go_simp; done) | (go_simp; rfl)); intro bB hw; have hg : bK.grownBy bB (some go15) := (by rw [hw]; exact HP19.2); have hp_ : Kd.R (Kd.int .i64) 3 bB w.heap.size (fun _ => True) (.slice (some ⟨go15, 0, none⟩) ag.length aN) aW := (by rw [hw, bf.out]; exact HP19.1); clear HP19; replace ap := A_ (Kd.S_after (v := (.slice (some ⟨go15, 0, none⟩) ag.length aN)) (v1 := (.slice (some ⟨go15, 0, none⟩) ag.length aN)) (ok := (fun _ => True)) (rS_ ap.out) hg (.inl rfl)); replace aj := A_ (hp_); replace HB := A_ ((by rw [hw]; exact below_set (HB.out) GB15.out : Below w.heap.size w bB)); clear hg hw hp_) | ((with_reducible refine gate_builtin (b := .append) (xs := #[.tmp 30, .tmp 32]) rfl ?_); at_builtin; refine Kd.S_append (Kd.slice 3 (Kd.int .i64)) (w0 := w) w.heap.size rfl (.tmp 30) (.tmp 32) 118 33 (.slice none 0 0) 24 rfl Tryz.underlying118 info33 rfl (by decide) (by omega) u5 al aW [.slice (some ⟨go15, 0, none⟩) ag.length aN] (fun _ => True) (fun k_ => some k_ = (.slice (some ⟨go15, 0, none⟩) ag.length aN : Value).ownBlock) rfl rfl ?aP (fun k_ hk_ => ((Kd.R_mono (ok' := fun k_ => ((fun _ => True)) k_ ∧ some k_ ≠ (u5 : Value).ownBlock) (Kd.R_apart' (aj.out) (Kd.S_typed ap.out) (by decide)) (fun k_ hk => ⟨trivial, hk.2⟩))).1 k_ hk_.symm) ?aF ?aO ?aB ?aS ?aL ?_; (case aP => exact Kd.M_row (Kd.R_mono (Kd.R_tight rfl (Kd.R_mono (ok' := fun k_ => ((fun _ => True)) k_ ∧ some k_ ≠ (u5 : Value).ownBlock) (Kd.R_apart' (aj.out) (Kd.S_typed ap.out) (by decide)) (fun k_ hk => ⟨trivial, hk.2⟩))) (fun _ h_ => h_))); (case aB => exact (tb_ HB.out)); (case aF => exact (fun _ _ => trivial)); (case aO => exact (by refine qS_ ?_; exact Kd.S_mono ap.out (fun k_ hk => ⟨trivial, fun e_ => hk.2 e_⟩))); (case aS => exact (below_size (tb_ HB.out))); (case aL => have := bg.out; omega); intro bZ b5 ho hb hg hat; rw [← bi.out] at ho; replace HB := A_ (hb); have bl := A_ (ho); clear ap aj ho hb hg hat))
       go_roundg k2
       case measure => have := HJ2.out; have := HK2.out; omega
       case rel => exact ⟨(bh), (wrap64 (ab + 1)), tx_, H', ⟨by have := HJ2.out; have := HK2.out; omega⟩, ⟨rS_ bl.out⟩, ⟨(tb_ HB.out)⟩⟩
      ·
       obtain rfl := Option.some.inj H; go_wp2; go_ret; exact ⟨_, tw_, by refine qS_ ?_; exact ap.out, (tb_ HB.out)⟩

/-! ### impl_PlaceOk: function 65 -/
def impl_PlaceOk.j0 : Nat → Bool → List Int → Int → List Int → Option (Bool)
 | 0, _, _, _, _ => none
 | k + 1, x25, ax, aX, aY => if x25 = true then (some false) else ((impl_SameRule.f k (ax.length : Int) aX).bind fun bm => ((impl_ruleWays.f k ax bm aY).bind fun bn => (some (decide (bn > 0)))))
def impl_PlaceOk.f (k : Nat) (af : List Int) (a0_1 : Int) (ah : List Int) : Option (Bool) := (impl_StartOk.f k af).bind fun a7 => (if a7 = true then (if a0_1 < (-1) then (impl_PlaceOk.j0 k true af a0_1 ah) else (if a0_1 > 3 then (impl_PlaceOk.j0 k true af a0_1 ah) else ((impl_WordOk.f k (af.length : Int) ah).bind fun a8 => (impl_PlaceOk.j0 k (!a8) af a0_1 ah)))) else (impl_PlaceOk.j0 k true af a0_1 ah))
def impl_PlaceOk.T3 : Bool × List (List Nat × List Nat) := (true, [([], []), ([0], [0]), ([], []), ([2], [2]), ([3], [3]), ([], []), ([5], [5]), ([4, 6], [4, 6]), ([], []), ([8], [8]), ([1, 7, 9, 7], [1, 7, 9]), ([10], [10]), ([11, 10, 0, 1, 2, 3, 4, 5, 6, 7, 8, 9, 10, 11], [11])])
def impl_PlaceOk.B3 : List Nat := [0, 1, 0, 4, 12, 0, 32, 124, 0, 256, 1023, 2047, 4095]
theorem impl_PlaceOk.tab3 : rtab .any (opsOf Tryz.f65 3) = impl_PlaceOk.T3 := by kernel_rfl
theorem impl_PlaceOk.bits3 : waitsOk impl_PlaceOk.T3.2 impl_PlaceOk.B3 = true := by kernel_rfl
theorem impl_PlaceOk.z0 {P_ : Prop} (h_ : P_ := by go_wp2_with (first | ((with_reducible refine gate_callee (f := 101) rfl ?_); refine ca_ (some 5) Tryz.func101 _ (impl_StartOk.calls k az aA _ _ _ (gt_ st) (gt_ st) A_5.out) ?_; rintro e w_ ⟨rfl, hb⟩; refine ⟨_, rfl, ?_⟩; replace hb := hb.below; replace st := st.ev hb; clear cl hb; have cl := cl_ st) | ((with_reducible refine gate_callee (f := 102) rfl ?_); refine gate_guard (by rfl) ?_; dsimp only; refine ca_ (some 23) Tryz.func102 _ (impl_WordOk.calls k _ aC aD _ _ _ (gt_ st) (gt_ st) A_23.out) ?_; rintro e w_ ⟨rfl, hb⟩; refine ⟨_, rfl, ?_⟩; replace hb := hb.below; replace st := st.ev hb; clear cl hb; have cl := cl_ st)); first | (go_meet; (case rel => exact ⟨_, (true), tx_, H', ⟨by first | omega | exact Nat.le_refl _⟩, st.en⟩)) | (go_meet; (case rel => exact ⟨_, (!a8), tx_, H', ⟨by first | omega | exact Nat.le_refl _⟩, st.en⟩))) : P_ := h_
theorem impl_PlaceOk.calls (k : Nat) (az : Option Addr) (aA : Nat) (af : List Int) (a0_1 : Int) (aC : Option Addr) (aD : Nat) (ah : List Int) (r : Bool) (w : World) (hr0_0 : Kd.C (Kd.int .i64) w az af.length af) (hc0_0 : af.length ≤ aA) (hr0_2 : Kd.C (Kd.int .i64) w aC ah.length ah) (hc0_2 : ah.length ≤ aD) (h : impl_PlaceOk.f k af a0_1 ah = some r) :
  Calls Tryz.prog 65 #[.agg #[.slice az af.length aA, .int .i64 a0_1, .slice aC ah.length aD]] w fun e w' => e = .returned (.bool r) ∧ Below w.heap.size w w' := by
 have hu35 := Tryz.underlying35; have st := ((ST.nil w).c hr0_0 hc0_0).c hr0_2 hc0_2; have s0 := st; have cl := cl_ st; have H := h; clear h; unfold impl_PlaceOk.f at H; go_enter Tryz.func65, Tryz.ntmps65; have HC2 := A_ H; clear H
 go_upto_region 1 with (first | ((with_reducible refine gate_dst (N := 1) rfl ?_); refine al_ st ?_; clear st cl; intro g1 w_ st; have cl := cl_ st))
 (try simp only [Act.put, sa_, sb_, sc_])
 go_cut [25] (fun b0 wc => ∃ (kq : Nat) (ay : Bool), b0 = .bool ay ∧ Aside0 (impl_PlaceOk.j0 kq ay af a0_1 ah = some r) ∧ Aside0 (kq ≤ k) ∧ ST w [CA (Kd.int .i64) w az af aA, CA (Kd.int .i64) w aC ah aD] [Bx g1 #[.slice az af.length aA, .int .i64 a0_1, .slice aC ah.length aD] 35] wc)
 case first =>
  have H := HC2.out; clear HC2; obtain ⟨a7, A_5, H⟩ := bnd_ H; rcases bx_ a7 with rfl | rfl
  ·
   replace H := bt_ H; replace H := it_ H; rcases H with ⟨aQ, H⟩ | ⟨aQ, H⟩
   ·
    (first | rw [aQ] | (simp only [i64_w, i32_w]; rw [aQ]) | skip); have H' := A_ H; clear H; exact impl_PlaceOk.z0
   ·
    (first | rw [aQ] | (simp only [i64_w, i32_w]; rw [aQ]) | skip); replace H := ig_ H; rcases H with ⟨aG, H⟩ | ⟨aG, H⟩
    ·
     have H' := A_ H; clear H; exact impl_PlaceOk.z0
    ·
     obtain ⟨a8, A_23, H⟩ := bnd_ H; have H' := A_ H; clear H; exact impl_PlaceOk.z0
  ·
   replace H := bf_ H; have H' := A_ H; clear H; exact impl_PlaceOk.z0
 case rest =>
  clear HC2 st cl; obtain ⟨kq, ay, rfl, HA, HJ1, st⟩ := hcut; have cl := cl_ st
  cases kq with
  | zero => exact absurd HA.out (by simp [impl_PlaceOk.j0])
  | succ kj1 =>
   have H := HA.out; clear HA; simp only [impl_PlaceOk.j0] at H; rcases bx_ ay with rfl | rfl
   ·
    replace H := bt_ H; obtain rfl := Option.some.inj H; go_wp2; go_ret; exact ⟨tw_, st.b⟩
   ·
    replace H := bf_ H; obtain ⟨bm, A_33, H⟩ := bnd_ H; obtain ⟨bn, A_36, H⟩ := bnd_ H; obtain rfl := Option.some.inj H; (try go_wp2); (all_goals (refine rg_ st [] ?_; clear st cl; intro w_ st hs; have cl := cl_ st; refine with_tabW impl_PlaceOk.tab3 impl_PlaceOk.bits3 (fun HT_ HW_ => ?_); refine pv_ 0 ?_; refine pv_ 2 ?_; refine pv_ 5 ?_; refine pv_ 8 ?_; refine tu_ 1 ?_; refine tu_ 3 ?_; refine tu_ 6 ?_; refine tu_ 9 ?_; refine pv_ 4 ?_; refine ov_ 7 (fun K hK => ?_); refine ca2_ (some 33) Tryz.func104 _ (impl_SameRule.calls kj1 _ _ _ _ A_33.out) ?_; rintro e w_ ⟨v0, rfl, h0, hb⟩; refine ⟨_, rfl, ?_⟩; obtain ⟨B33_0, d33_0, rfl⟩ := Kd.S_slice h0; replace st := st.p1 hb (st.ms h0); clear cl hb h0; have cl := cl_ st; refine hK.out _ _ st.en (fun hs => ?_); clear hK K; refine nr_ 33 ?_; refine ov_ 10 (fun K hK => ?_); refine ca2_ (some 36) Tryz.func103 _ (impl_ruleWays.calls kj1 az aA _ B33_0 d33_0 _ aC aD _ _ _ (gt_ st) (gt_ st) (gt_ st) (gt_ st) (gt_ st) (gt_ st) A_36.out) ?_; rintro e w_ ⟨rfl, hb⟩; refine ⟨_, rfl, ?_⟩; replace st := st.ev hb; clear cl hb; have cl := cl_ st; refine hK.out _ _ st.en (fun hs => ?_); clear hK K; refine nr_ 36 ?_; refine pv_ 11 ?_; refine pv_ 12 ?_; refine done_ (done_of HT_.out (by kernel_rfl)) ?_; all_goals (try go_wp2))); go_ret; exact ⟨tw_, st.b⟩

/-! ### strconv_Itoa: function 92 -/
def strconv_Itoa.f (a0 : Int) : Option (ByteArray) := if -9223372036854775808 ≤ a0 ∧ a0 ≤ 9223372036854775807 then some ⟨(Lib.itoa a0).toArray⟩ else none
theorem strconv_Itoa.calls (a0 : Int) (r : ByteArray) (w : World) (hG : GWb w) (h : strconv_Itoa.f a0 = some r) :
  Calls Tryz.prog 92 #[.int .i64 a0] w fun e w' => e = .returned (.string r) ∧ Below w.heap.size w w' := by
 unfold strconv_Itoa.f at h; split at h
 ·
  rename_i hb; obtain rfl := Option.some.inj h; refine (Sh.Tryz.strconv_Itoa a0 hb.1 hb.2 w hG.tab).mono fun e w' ⟨he, k, os, hw⟩ => ⟨he, hw ▸ Lib.below_grow _ w (Nat.le_refl _) k os⟩
 ·
  cases h

/-! ### strings_Join: function 118 -/
def strings_Join.f (l0 : List ByteArray) (a1 : ByteArray) : Option (ByteArray) := if l0.length ≤ 140737488355328 ∧ (Lib.join (l0.map (·.data.toList)) a1.data.toList).length ≤ 140737488355328 then some ⟨(Lib.join (l0.map (·.data.toList)) a1.data.toList).toArray⟩ else none
theorem strings_Join.calls (A0 : Option Addr) (c0 : Nat) (l0 : List ByteArray) (a1 : ByteArray) (r : ByteArray) (w : World) (hr0 : Kd.C Kd.string w A0 l0.length l0) (hc0 : l0.length ≤ c0) (h : strings_Join.f l0 a1 = some r) :
  Calls Tryz.prog 118 #[.slice A0 l0.length c0, .string a1] w fun e w' => e = .returned (.string r) ∧ Below w.heap.size w w' := by
 unfold strings_Join.f at h; split at h
 ·
  rename_i hb; obtain rfl := Option.some.inj h; rcases Nat.eq_zero_or_pos l0.length with h0 | h0
  ·
   obtain rfl : l0 = [] := List.eq_nil_of_length_eq_zero h0; exact (Sh.Tryz.strings_Join_none A0 c0 a1 w).mono fun e w' ⟨he, hw⟩ => ⟨he, hw ▸ Below.refl _ _⟩
  ·
   obtain ⟨ad, rfl, hc⟩ := hr0.2.2 h0
   have hcell : ∀ (j : Nat) x, l0[j]? = some x → w.cell? (ad.add j) = some (.string x) := by
    intro j x hj; obtain ⟨c, hc1, hc2, hc3⟩ := hc j _ hj; have e1 : c = [.string x] := hc2; have := hc3 0 _ (by rw [e1]; rfl); simpa [Kd.string, Kd.scalar] using this
   have hs := hcell 0 _ (List.getElem?_eq_getElem h0)
   have hsp : ad.spot = none := by
    cases hq : ad.spot with
    | none => rfl
    | some q => simp [World.cell?, Addr.add, hq] at hs; split at hs <;> simp at hs
   have hlt := World.block_lt_of_cell? _ _ hs; obtain ⟨b, o, sp⟩ := ad; simp only at hsp; subst hsp; exact Sh.Tryz.strings_Join b o c0 l0 a1 w (fun j x hj => by have := hcell j x hj; unfold Addr.add at this; split at this <;> simp_all) (by simpa [Addr.add] using hlt) hb.1 hc0 hb.2
 ·
  cases h

/-! ### impl_rowText: function 93 -/
def impl_rowText.l0 : Nat → List ByteArray → List Int → Int → Int → Option (ByteArray)
 | 0, _, _, _, _ => none
 | k + 1, x3, x7, x8, x9 => if x9 < x8 then (if 0 ≤ x9 then (if x9 < (x7.length : Int) then ((strconv_Itoa.f (rd x7 x9)).bind fun aE => (if x3.length < 8796093022208 then (impl_rowText.l0 k (x3 ++ [aE]) x7 x8 (wrap64 (x9 + 1))) else (none))) else (none)) else (none)) else ((strings_Join.f x3 (⟨#[44]⟩ : ByteArray)).bind fun a9 => (some a9))
def impl_rowText.f (k : Nat) (l0 : List Int) : Option (ByteArray) := impl_rowText.l0 k (([] : List ByteArray)) l0 (l0.length : Int) 0
theorem impl_rowText.calls (k : Nat) (A0 : Option Addr) (c0 : Nat) (l0 : List Int) (r : ByteArray) (w : World) (hr0 : Kd.C (Kd.int .i64) w A0 l0.length l0) (hc0 : l0.length ≤ c0) (hG : GWb w) (h : impl_rowText.f k l0 = some r) :
  Calls Tryz.prog 93 #[.slice A0 l0.length c0] w fun e w' => e = .returned (.string r) ∧ Below w.heap.size w w' := by
 have HG := A_ hG; clear hG; have HR0 := A_ hr0; have HC0 := A_ hc0; clear hr0 hc0; have HB := A_ (Below.refl w.heap.size w); have H : (impl_rowText.l0 k (([] : List ByteArray)) l0 (l0.length : Int) 0) = some r := h; clear h; obtain ⟨bo, aR⟩ : ∃ y_ : List ByteArray, y_ = (([] : List ByteArray)) := ⟨_, rfl⟩
 replace H : (impl_rowText.l0 k bo l0 (l0.length : Int) 0) = some r := yq_ aR H; have a6 := A_ aR; clear aR; have H' := A_ H; clear H; go_enter Tryz.func93, Tryz.ntmps93; go_wp2_with (first | ((with_reducible refine gate_dst (N := 6) rfl ?_); refine Kd.R_lit Kd.string _ 9 ?hg (N := 6) ?hd (xs := ([] : List ByteArray)) (inner := []) (ok := fun _ => True) (okp := fun _ => True) ?hr ?hp (fun _ hk => hk) trivial (Below.refl _ _) (Nat.le_refl _) (by simp) ?_; (case hd => rfl); (case hg => rfl); (case hr => first | (go_simp; done) | (go_simp; rfl)); (case hp => exact (Reps.none _ _)); intro b1 w2 ho3 hb hg_ hnew_; clear hg_ hnew_; (first | rw [← a6.out] at ho3 | (simp only [Int.reduceToNat] at ho3; rw [← a6.out] at ho3)); have bp := rx_ ho3 HB; replace HB := bs_ HB hb; clear hb ho3))
 go_loopg [3, 9] k (fun kq v3 v9 w' => ∃ (av : List ByteArray) (ae : Int), v9 = .int .i64 ae ∧ Aside0 (impl_rowText.l0 kq av l0 (l0.length : Int) ae = some r) ∧ Aside0 (kq ≤ k) ∧ Aside0 (Kd.R Kd.string 9 w' w.heap.size (fun _ => True) v3 av) ∧ Aside0 (Below w.heap.size w w'))
 case atStart => exact ⟨(bo), (0), tx_, H', ⟨Nat.le_refl _⟩, ⟨rR_ bp.out⟩, ⟨(tb_ HB.out)⟩⟩
 case round =>
  clear H'; obtain ⟨av, ae, rfl, HA, HK1, aq, HB⟩ := hrel
  cases gk with
  | zero => exact absurd HA.out (by simp [impl_rowText.l0])
  | succ k1 =>
   have H := HA.out; clear HA; simp only [impl_rowText.l0] at H; replace H := it_ H; rcases H with ⟨aG, H⟩ | ⟨aG, H⟩
   ·
    replace H := in_ H; obtain ⟨bu, H⟩ := H; replace H := in_ H; obtain ⟨an, H⟩ := H; obtain ⟨aE, A7, H⟩ := bnd_ H; (try dsimp only at H); replace H := il_ H; obtain ⟨bC, H⟩ := H; obtain ⟨bq, aU⟩ : ∃ y_ : List ByteArray, y_ = (av ++ [aE]) := ⟨_, rfl⟩
    replace H : (impl_rowText.l0 k1 bq l0 (l0.length : Int) (wrap64 (ae + 1))) = some r := yq_ aU H; have br := A_ aU; clear aU; have H' := A_ H; clear H; obtain ⟨p148, q148, ad148, e148, ar⟩ := a2_ (Kd.at_int HR0.out ae); cases e148; replace ar := (HB.out.cell (World.block_lt_of_cell? w _ ar)).trans ar; go_wp2_with (first | ((with_reducible refine gate_callee (f := 92) rfl ?_); refine gl_ (some 15) Tryz.func92 #[.int .i64 (rd l0 ae)] ?_; (with_reducible refine (strconv_Itoa.calls (rd l0 ae) aE _ ?s1 A7.out).mono ?_); (case s1 => exact GWb.below HG.out (tb_ HB.out)); rintro e w9 ⟨rfl, hb⟩; refine ⟨_, rfl, ?_⟩; replace aq := rb_ aq hb; replace HB := bs_ HB hb; (try clear hb)) | ((with_reducible refine gate_builtin (b := .append) (xs := #[.tmp 13, .tmp 16]) rfl ?_); at_builtin; refine Kd.R_append Kd.string (w0 := w) w.heap.size rfl (.tmp 13) (.tmp 16) 93 9 (.string ⟨#[]⟩) 16 rfl Tryz.underlying93 info9 rfl (by decide) (by omega) u3 av aE [.string aE] (fun _ => True) (fun _ => False) rfl rfl ?aP (fun _ hk => hk.elim) ?aF ?aO ?aB ?aS ?aL ?_; (case aP => exact rfl); (case aB => exact (tb_ HB.out)); (case aF => exact (fun _ _ => trivial)); (case aO => exact (rR_ aq.out)); (case aS => exact (below_size (tb_ HB.out))); (case aL => have := bC.out; omega); intro b2 b6 ho hb hg hat; rw [← br.out] at ho; replace HB := A_ (hb); have bs := A_ (ho); clear aq ho hb hg hat))
    go_roundg k1
    case measure => have := HK1.out; omega
    case rel => exact ⟨(bq), (wrap64 (ae + 1)), tx_, H', ⟨by have := HK1.out; omega⟩, ⟨rR_ bs.out⟩, ⟨(tb_ HB.out)⟩⟩
   ·
    obtain ⟨a9, A11, H⟩ := bnd_ H; (try dsimp only at H); obtain rfl := Option.some.inj H; obtain ⟨bD, bE, bF⟩ := Kd.R_slice aq.out; subst bF; go_wp2_with (first | ((with_reducible refine gate_callee (f := 118) rfl ?_); refine gl_ (some 20) Tryz.func118 #[.slice bD av.length bE, .string (⟨#[44]⟩ : ByteArray)] ?_; (with_reducible refine (strings_Join.calls _ _ av (⟨#[44]⟩ : ByteArray) a9 _ ?s1 ?s2 A11.out).mono ?_); (case s1 => exact rc_ aq); (case s2 => exact (ll_ aq)); rintro e b7 ⟨rfl, hb⟩; refine ⟨_, rfl, ?_⟩; replace aq := rb_ aq hb; replace HB := bs_ HB hb; (try clear hb))); go_ret; exact ⟨tw_, (tb_ HB.out)⟩

end Go.Proofs.YtopboabeigakoaaGreatDoor.MFnExactStoreAct
