/- For the law FnExactDeskDo: walks of the functions that it reaches: each call returns what the plain function beside it tells. The conditions stand in each statement. -/
import Derived.Test.YtmodbemkflkbeaaDoorV
import Derived.Test.YtmodbemkflkbeaaDoorMFnExactDeskDox0
namespace Go.Proofs.YtmodbemkflkbeaaDoor.MFnExactDeskDo
open Go.RowKit Go.Proofs.YtmodbemkflkbeaaDoorW.PrintWords Go.Proofs.YtmodbemkflkbeaaDoorW.PrintLast Go.Proofs.YtmodbemkflkbeaaDoorW.PrintMore
attribute [local go_sem] max2_int min2_int max_two min_two max_three min_three max_four min_four   -- for this text's walks alone
set_option linter.unusedVariables false
set_option linter.unusedSimpArgs false
set_option maxHeartbeats 8000000
set_option maxRecDepth 100000

/-! ### laws_toIntS: function 53 -/
def laws_toIntS.l0 : Nat → List Int → List Int → Int → Option (List Int)
 | 0, _, _, _ => none
 | k + 1, x0, x3, x4 => if x4 < (x0.length : Int) then (if 0 ≤ x4 then (if x4 < (x3.length : Int) then (laws_toIntS.l0 k x0 (x3.set (x4 : Int).toNat (rd x0 x4)) (wrap64 (x4 + 1))) else (none)) else (none)) else (some x3)
def laws_toIntS.f (k : Nat) (l0 : List Int) : Option (List Int) := if 0 ≤ (l0.length : Int) then (if ((l0.length : Int) : Int).toNat ≤ 35184372088832 then (laws_toIntS.l0 k l0 (List.replicate ((l0.length : Int) : Int).toNat 0) 0) else (none)) else (none)
theorem laws_toIntS.mono_l : ∀ k, (∀ y0 y1 y2, LeO (laws_toIntS.l0 k y0 y1 y2) (laws_toIntS.l0 (k + 1) y0 y1 y2))
 | 0 => fun _ _ _ r h => by simp [laws_toIntS.l0] at h
 | k + 1 => by
  have ih0 := laws_toIntS.mono_l k
  ·
   intro y0 y1 y2
   unfold laws_toIntS.l0
   repeat' (with_reducible first | exact ih0 _ _ _ | exact mr_ | exact mn_ | refine mi_ ?_ ?_ | refine mb_ ?_ (fun _ => ?_))
theorem laws_toIntS.mono : ∀ a0 k, LeO (laws_toIntS.f k a0) (laws_toIntS.f (k + 1) a0) := by
 intro a0 k; have ih0 := laws_toIntS.mono_l k; unfold laws_toIntS.f; repeat' (with_reducible first | exact ih0 _ _ _ | exact mr_ | exact mn_ | refine mi_ ?_ ?_ | refine mb_ ?_ (fun _ => ?_))
theorem laws_toIntS.calls (k : Nat) (A0 : Option Addr) (c0 : Nat) (l0 : List Int) (r : List Int) (w : World) (hr0 : Kd.C (Kd.int .i64) w A0 l0.length l0) (hc0 : l0.length ≤ c0) (h : laws_toIntS.f k l0 = some r) :
  Calls Tryd.prog 53 #[.slice A0 l0.length c0] w fun e w' => ∃ v0_ : Value, e = .returned (v0_) ∧ Kd.R (Kd.int .i64) 3 w' w.heap.size (fun _ => True) v0_ r ∧ Below w.heap.size w w' := by
 have HR0 := A_ hr0; have HC0 := A_ hc0; clear hr0 hc0; have HB := A_ (Below.refl w.heap.size w); have H : (if 0 ≤ (l0.length : Int) then (if ((l0.length : Int) : Int).toNat ≤ 35184372088832 then (laws_toIntS.l0 k l0 (List.replicate ((l0.length : Int) : Int).toNat 0) 0) else (none)) else (none)) = some r := h; clear h; replace H := i0_ H; obtain ⟨c2, H⟩ := H; have av := eq_true c2; have br : decide (0 ≤ (l0.length : Int)) = true := decide_eq_true c2; clear c2; replace H := i0_ H; obtain ⟨c3, H⟩ := H; have aK := eq_true c3; have bs : decide (((l0.length : Int) : Int).toNat ≤ 35184372088832) = true := decide_eq_true c3; clear c3; obtain ⟨bJ, a8⟩ : ∃ y_ : List Int, y_ = (List.replicate ((l0.length : Int) : Int).toNat 0) := ⟨_, rfl⟩
 replace H : (laws_toIntS.l0 k l0 bJ 0) = some r := yq_ a8 H; have bo := A_ a8; clear a8; have H' := A_ H; clear H; go_enter Tryd.func53, Tryd.ntmps53; go_wp2_with (first | ((with_reducible refine gate_dst (N := 7) rfl ?_); refine Kd.R_make (Kd.int .i64) _ 3 rfl (N := 7) rfl 22 _ _ rfl (l0.length : Int) rfl rfl Tryd.underlying22 (.int .i64 0) 8 info3 rfl (by decide) (by omega) 0 (ok := fun _ => True) (okp := fun _ => True) rfl (fun _ hk => hk) trivial (od_) (Nat.le_trans (Nat.mul_le_mul_right _ (od_ : (l0.length : Int).toNat ≤ 35184372088832)) (by omega)) (Below.refl _ _) (Nat.le_refl _) ?_; intro cz w4 ho5 hb hg_ hnew_; clear hg_ hnew_; (first | rw [← bo.out] at ho5 | (simp only [Int.reduceToNat] at ho5; rw [← bo.out] at ho5)); have bK := rx_ ho5 HB; replace HB := bs_ HB hb; clear hb ho5))
 go_loopg [4] k (fun kq v4 w' => ∃ (aj : List Int) (aa : Int), v4 = .int .i64 aa ∧ Aside0 (laws_toIntS.l0 kq l0 aj aa = some r) ∧ Aside0 (kq ≤ k) ∧ Aside0 (Kd.R (Kd.int .i64) 3 w' w.heap.size (fun _ => True) cz aj) ∧ Aside0 (Below w.heap.size w w'))
 case atStart => exact ⟨(bJ), (0), tx_, H', ⟨Nat.le_refl _⟩, ⟨rR_ bK.out⟩, ⟨(tb_ HB.out)⟩⟩
 case round =>
  clear H'; (try clear c2); (try clear av); (try clear br); (try clear c3); (try clear aK); (try clear bs); obtain ⟨aj, aa, rfl, HA, HK1, ai, HB⟩ := hrel
  cases gk with
  | zero => exact absurd HA.out (by simp [laws_toIntS.l0])
  | succ k1 =>
   have H := HA.out; clear HA; simp only [laws_toIntS.l0] at H; replace H := it_ H; rcases H with ⟨aL, H⟩ | ⟨aL, H⟩
   ·
    replace H := in_ H; obtain ⟨bu, H⟩ := H; replace H := in_ H; obtain ⟨de, H⟩ := H; obtain ⟨bv, a9⟩ : ∃ y_ : List Int, y_ = (aj.set (aa : Int).toNat (rd l0 aa)) := ⟨_, rfl⟩
    replace H : (laws_toIntS.l0 k1 l0 bv (wrap64 (aa + 1))) = some r := yq_ a9 H; have bL := A_ a9; clear a9; have H' := A_ H; clear H; obtain ⟨p311, q311, ad311, e311, aw⟩ := a2_ (Kd.at_int HR0.out aa); cases e311; replace aw := (HB.out.cell (World.block_lt_of_cell? w _ aw)).trans aw; have p9 : 0 ≤ (aa : Int) := od_; have q9 : (aa : Int) < ((aj.length : Int) : Int) := od_; obtain ⟨go9, co9, cQ, cR, gl9, cl9, HG9⟩ := Kd.R_form ai.out (by omega); (first | cases cQ | (injection cQ with ea_ en_ ec_; (first | subst ea_ | (injection ea_ with ea_; subst ea_)); subst ec_; clear en_)); have GB9 := A_ cR; have GG9 := A_ HG9; clear cR gl9 HG9; obtain ⟨cS, hf9_0⟩ := Kd.R_celln 0 ai.out (aa : Int) p9 q9; replace p9 := eq_true p9; replace q9 := eq_true q9; have HP10 := Kd.R_putg ai.out (aa : Int) (rd l0 aa); go_wp2_with (first | ((with_reducible refine gate_store (t := 3) (p := 20) rfl ?_); refine store_event (t := 3) (p := 20) (v := ?vo_w11) (w1 := (wr.setCell ⟨go9, (aa : Int).toNat, none⟩ (.int .i64 (rd l0 aa)))) ?hg ?ho ?hn ?hr ?_; (case ho => rfl); (case hg => rfl); (case hn => rfl); (case hr => first | (go_simp; done) | (go_simp; rfl)); intro aW hw; have hg : wr.grownBy aW (some go9) := (by rw [hw]; exact HP10.2); have hp_ : Kd.R (Kd.int .i64) 3 aW w.heap.size (fun _ => True) (.slice (some ⟨go9, 0, none⟩) aj.length co9) bv := (by rw [hw, bL.out]; exact HP10.1); clear HP10; replace ai := A_ (hp_); replace HB := A_ ((by rw [hw]; exact below_set (HB.out) GB9.out : Below w.heap.size w aW)); clear hg hw hp_))
    go_roundg k1
    case measure => have := HK1.out; omega
    case rel => exact ⟨(bv), (wrap64 (aa + 1)), tx_, H', ⟨by have := HK1.out; omega⟩, ⟨rR_ ai.out⟩, ⟨(tb_ HB.out)⟩⟩
   ·
    obtain rfl := Option.some.inj H; go_wp2; go_ret; exact ⟨_, tw_, by refine qR_ ?_; exact ai.out, (tb_ HB.out)⟩
/-! ### laws_toPlace: function 26 -/
def laws_toPlace.f (k : Nat) (al : List Int) (a0_1 : Int) (am : List Int) : Option (List Int × Int × List Int) := (laws_toIntS.f k al).bind fun aM => ((laws_toIntS.f k am).bind fun aN => (some (aM, a0_1, aN)))
theorem laws_toPlace.mono : ∀ a0 a1 a2 k, LeO (laws_toPlace.f k a0 a1 a2) (laws_toPlace.f (k + 1) a0 a1 a2) := by
 intro a0 a1 a2 k; unfold laws_toPlace.f; repeat' (with_reducible first | exact laws_toIntS.mono _ _ | exact mr_ | exact mn_ | refine mi_ ?_ ?_ | refine mb_ ?_ (fun _ => ?_))
theorem laws_toPlace.calls (k : Nat) (aE : Option Addr) (aF : Nat) (al : List Int) (a0_1 : Int) (aG : Option Addr) (aH : Nat) (am : List Int) (r1 : List Int) (r2 : Int) (r3 : List Int) (w : World) (hr0_0 : Kd.C (Kd.int .i64) w aE al.length al) (hc0_0 : al.length ≤ aF) (hr0_2 : Kd.C (Kd.int .i64) w aG am.length am) (hc0_2 : am.length ≤ aH) (h : laws_toPlace.f k al a0_1 am = some (r1, r2, r3)) :
  Calls Tryd.prog 26 #[.agg #[.slice aE al.length aF, .int .i64 a0_1, .slice aG am.length aH]] w fun e w' => ∃ v0_ v2_ : Value, e = .returned (.agg #[v0_, .int .i64 r2, v2_]) ∧ Kd.R (Kd.int .i64) 3 w' w.heap.size (fun k_ => some k_ ≠ (v2_ : Value).ownBlock) v0_ r1 ∧ Kd.R (Kd.int .i64) 3 w' w.heap.size (fun k_ => some k_ ≠ (v0_ : Value).ownBlock) v2_ r3 ∧ Below w.heap.size w w' := by
 have hu24 := Tryd.underlying24; have hu31 := Tryd.underlying31; have st := ((ST.nil w).c hr0_0 hc0_0).c hr0_2 hc0_2; have s0 := st; have cl := cl_ st; have H := h; clear h; unfold laws_toPlace.f at H; go_enter Tryd.func26, Tryd.ntmps26; obtain ⟨aM, A_6, H⟩ := bnd_ H; obtain ⟨aN, A_13, H⟩ := bnd_ H; simp only [Option.some.injEq, Prod.mk.injEq] at H; obtain ⟨rfl, rfl, rfl⟩ := H; go_wp2_with (first | ((with_reducible refine gate_dst (N := 1) rfl ?_); refine al_ st ?_; clear st cl; intro g1 w_ st; have cl := cl_ st) | ((with_reducible refine gate_dst (N := 2) rfl ?_); refine al_ st ?_; clear st cl; intro g2 w_ st; have cl := cl_ st) | ((with_reducible refine gate_dst (N := 3) rfl ?_); refine al_ st ?_; clear st cl; intro g3 w_ st; have cl := cl_ st) | ((with_reducible refine gate_callee (f := 53) rfl ?_); refine ca_ (some 6) Tryd.func53 _ (laws_toIntS.calls k aE aF _ _ _ (gt_ st) (gt_ st) A_6.out) ?_; rintro e w_ ⟨v0, rfl, h0, hb⟩; refine ⟨_, rfl, ?_⟩; obtain ⟨B6_0, d6_0, rfl⟩ := Kd.R_slice h0; replace st := st.box (A := AR (Kd.int .i64) 3 w.heap.size (.slice B6_0 aM.length d6_0) aM) hb (st.mr h0); clear cl hb h0; have cl := cl_ st) | ((with_reducible refine gate_store (p := 7) rfl ?_); refine so1_ st ?_; clear st cl; intro w_ st; have cl := cl_ st) | ((with_reducible refine gate_store (p := 10) rfl ?_); refine so1_ st ?_; clear st cl; intro w_ st; have cl := cl_ st) | ((with_reducible refine gate_callee (f := 53) rfl ?_); refine ca_ (some 13) Tryd.func53 _ (laws_toIntS.calls k aG aH _ _ _ (gt_ st) (gt_ st) A_13.out) ?_; rintro e w_ ⟨v0, rfl, h0, hb⟩; refine ⟨_, rfl, ?_⟩; obtain ⟨B13_0, d13_0, rfl⟩ := Kd.R_slice h0; replace st := st.box (A := AR (Kd.int .i64) 3 w.heap.size (.slice B13_0 aN.length d13_0) aN) hb (st.mr h0); clear cl hb h0; have cl := cl_ st) | ((with_reducible refine gate_store (p := 14) rfl ?_); refine so1_ st ?_; clear st cl; intro w_ st; have cl := cl_ st) | ((with_reducible refine gate_store (p := 2) rfl ?_); refine so3_ st ?_; clear st cl; intro w_ st; have cl := cl_ st)); refine bodyPost_ret (rcc_ st Tryd.underlying31) rfl ?_; exact ⟨.slice B6_0 aM.length d6_0, .slice B13_0 aN.length d13_0, tw_, (tap_ st B6_0 aM B13_0 aN).1, (tap_ st B6_0 aM B13_0 aN).2, st.b⟩

/-! ### laws_toPlaceS: function 27 -/
def laws_toPlaceS.l0 : Nat → List (S24) → List (S31) → Int → Option ((List (S31)))
 | 0, _, _, _ => none
 | k + 1, x0, x3, x4 => if x4 < (x0.length : Int) then (if 0 ≤ x4 then ((laws_toPlace.f k ((rd_T24 x0 x4).f0) ((rd_T24 x0 x4).f1) ((rd_T24 x0 x4).f2)).bind fun bb => (if x4 < (x3.length : Int) then (laws_toPlaceS.l0 k x0 (x3.set (x4 : Int).toNat (⟨bb.1, bb.2.1, bb.2.2⟩ : S31)) (wrap64 (x4 + 1))) else (none))) else (none)) else (some x3)
def laws_toPlaceS.f (k : Nat) (l0 : List (S24)) : Option ((List (S31))) := if 0 ≤ (l0.length : Int) then (if ((l0.length : Int) : Int).toNat ≤ 5026338869833 then (laws_toPlaceS.l0 k l0 (List.replicate ((l0.length : Int) : Int).toNat z31) 0) else (none)) else (none)
theorem laws_toPlaceS.mono_l : ∀ k, (∀ y0 y1 y2, LeO (laws_toPlaceS.l0 k y0 y1 y2) (laws_toPlaceS.l0 (k + 1) y0 y1 y2))
 | 0 => fun _ _ _ r h => by simp [laws_toPlaceS.l0] at h
 | k + 1 => by
  have ih0 := laws_toPlaceS.mono_l k
  ·
   intro y0 y1 y2
   unfold laws_toPlaceS.l0
   repeat' (with_reducible first | exact ih0 _ _ _ | exact laws_toPlace.mono _ _ _ _ | exact mr_ | exact mn_ | refine mi_ ?_ ?_ | refine mb_ ?_ (fun _ => ?_))
theorem laws_toPlaceS.mono : ∀ a0 k, LeO (laws_toPlaceS.f k a0) (laws_toPlaceS.f (k + 1) a0) := by
 intro a0 k; have ih0 := laws_toPlaceS.mono_l k; unfold laws_toPlaceS.f; repeat' (with_reducible first | exact ih0 _ _ _ | exact laws_toPlace.mono _ _ _ _ | exact mr_ | exact mn_ | refine mi_ ?_ ?_ | refine mb_ ?_ (fun _ => ?_))
theorem laws_toPlaceS.calls (k : Nat) (A0 : Option Addr) (c0 : Nat) (l0 : List (S24)) (r : List (S31)) (w : World) (hr0 : Kd.C k24 w A0 l0.length l0) (hc0 : l0.length ≤ c0) (h : laws_toPlaceS.f k l0 = some r) :
  Calls Tryd.prog 27 #[.slice A0 l0.length c0] w fun e w' => ∃ v0_ : Value, e = .returned (v0_) ∧ Kd.S k31 31 w' w.heap.size (fun _ => True) v0_ r ∧ Below w.heap.size w w' := by
 have hu24 := Tryd.underlying24; have hu31 := Tryd.underlying31; have HR0 := A_ hr0; have HC0 := A_ hc0; clear hr0 hc0; have HB := A_ (Below.refl w.heap.size w); have H : (if 0 ≤ (l0.length : Int) then (if ((l0.length : Int) : Int).toNat ≤ 5026338869833 then (laws_toPlaceS.l0 k l0 (List.replicate ((l0.length : Int) : Int).toNat z31) 0) else (none)) else (none)) = some r := h; clear h; replace H := i0_ H; obtain ⟨c2, H⟩ := H; have av := eq_true c2; have br : decide (0 ≤ (l0.length : Int)) = true := decide_eq_true c2; clear c2; replace H := i0_ H; obtain ⟨c3, H⟩ := H; have aK := eq_true c3; have bs : decide (((l0.length : Int) : Int).toNat ≤ 5026338869833) = true := decide_eq_true c3; clear c3; obtain ⟨bM, bc⟩ : ∃ y_ : List (S31), y_ = (List.replicate ((l0.length : Int) : Int).toNat z31) := ⟨_, rfl⟩
 replace H : (laws_toPlaceS.l0 k l0 bM 0) = some r := yq_ bc H; have bp := A_ bc; clear bc; have H' := A_ H; clear H; go_enter Tryd.func27, Tryd.ntmps27; go_wp2_with (first | ((with_reducible refine gate_dst (N := 7) rfl ?_); refine Kd.S_make k31 _ 31 rfl (N := 7) rfl 32 _ _ rfl (l0.length : Int) rfl rfl Tryd.underlying32 (.agg #[(.slice none 0 0), (.int .i64 0), (.slice none 0 0)]) 56 info31 rfl (by decide) (by omega) z31 (ok := fun _ => True) (okp := fun _ => True) (k31_mkM _ _ _ z31 (Kd.R_nil _ _ _ _ _) (Kd.R_nil _ _ _ _ _)) (fun _ hk => hk) trivial (od_) (Nat.le_trans (Nat.mul_le_mul_right _ (od_ : (l0.length : Int).toNat ≤ 5026338869833)) (by omega)) (Below.refl _ _) (Nat.le_refl _) ?_; intro cA w4 ho5 hb hg_ hnew_; clear hg_ hnew_; (first | rw [← bp.out] at ho5 | (simp only [Int.reduceToNat] at ho5; rw [← bp.out] at ho5)); have bN := A_ (Kd.S_lower ho5 (below_size (tb_ HB.out))); replace HB := bs_ HB hb; clear hb ho5))
 go_loopg [4] k (fun kq v4 w' => ∃ (aj : List (S31)) (aa : Int), v4 = .int .i64 aa ∧ Aside0 (laws_toPlaceS.l0 kq l0 aj aa = some r) ∧ Aside0 (kq ≤ k) ∧ Aside0 (Kd.S k31 31 w' w.heap.size (fun _ => True) cA aj) ∧ Aside0 (Below w.heap.size w w'))
 case atStart => exact ⟨(bM), (0), tx_, H', ⟨Nat.le_refl _⟩, ⟨rS_ bN.out⟩, ⟨(tb_ HB.out)⟩⟩
 case round =>
  clear H'; (try clear c2); (try clear av); (try clear br); (try clear c3); (try clear aK); (try clear bs); obtain ⟨aj, aa, rfl, HA, HK1, ai, HB⟩ := hrel
  cases gk with
  | zero => exact absurd HA.out (by simp [laws_toPlaceS.l0])
  | succ k1 =>
   have H := HA.out; clear HA; simp only [laws_toPlaceS.l0] at H; replace H := it_ H; rcases H with ⟨aL, H⟩ | ⟨aL, H⟩
   ·
    replace H := in_ H; obtain ⟨bu, H⟩ := H; obtain ⟨⟨be, aX, bf⟩, A8, H⟩ := bnd_ H; (try dsimp only at H); replace H := in_ H; obtain ⟨df, H⟩ := H; obtain ⟨bw, bd⟩ : ∃ y_ : List (S31), y_ = (aj.set (aa : Int).toNat (⟨be, aX, bf⟩ : S31)) := ⟨_, rfl⟩
    replace H : (laws_toPlaceS.l0 k1 l0 bw (wrap64 (aa + 1))) = some r := yq_ bd H; have bO := A_ bd; clear bd; have H' := A_ H; clear H; have p325 : 0 ≤ (aa : Int) := od_; have q325 : aa < (l0.length : Int) := od_; obtain ⟨ad325, bx, bz, bB, bC, e325, ax, ay, az, hl325_0, hi325_0, hl325_2, hi325_2⟩ := at_T24 HR0.out aa p325 q325; cases e325; replace ax := (HB.out.cell (World.block_lt_of_cell? w _ ax)).trans ax; replace ay := (HB.out.cell (World.block_lt_of_cell? w _ ay)).trans ay; replace az := (HB.out.cell (World.block_lt_of_cell? w _ az)).trans az; have bZ := A_ hi325_0; have bg := A_ hl325_0; clear hi325_0 hl325_0; have b0 := A_ hi325_2; have bh := A_ hl325_2; clear hi325_2 hl325_2; replace p325 := eq_true p325; replace q325 := eq_true q325; go_wp2_with (first | ((with_reducible refine gate_callee (f := 26) rfl ?_); refine gl_ (some 20) Tryd.func26 #[.agg #[.slice bx ((rd_T24 l0 aa).f0).length bz, .int .i64 ((rd_T24 l0 aa).f1), .slice bB ((rd_T24 l0 aa).f2).length bC]] ?_; (with_reducible refine (laws_toPlace.calls k1 _ _ ((rd_T24 l0 aa).f0) ((rd_T24 l0 aa).f1) _ _ ((rd_T24 l0 aa).f2) be aX bf _ ?s1 ?s2 ?s3 ?s4 A8.out).mono ?_); (case s1 => exact tD_); (case s2 => exact bg.out); (case s3 => exact tD_); (case s4 => exact bh.out); rintro e aW ⟨bi, bj, rfl, ho0, ho1, hb⟩; refine ⟨_, rfl, ?_⟩; replace ai := eS_ (tSR_ (tSR_ (Kd.S_old (rS_ ai.out) hb) ho0) ho1); have aQ := rx_ ho0 HB; have aR := rx_ ho1 HB; replace HB := bs_ HB hb; (try clear hb ho0 ho1); have p10 : 0 ≤ (aa : Int) := od_; have q10 : (aa : Int) < ((aj.length : Int) : Int) := od_; obtain ⟨go10, bP, bQ, bR, gl10, cl10, HG10⟩ := Kd.S_form ai.out (by omega); (first | cases bQ | (injection bQ with ea_ en_ ec_; (first | subst ea_ | (injection ea_ with ea_; subst ea_)); subst ec_; clear en_)); have GB10 := A_ bR; have GG10 := A_ HG10; clear bR gl10 HG10; obtain ⟨_, ce10, hcl10, hM10, hcc10, hfr10, _, _⟩ := Kd.S_elem ai.out z31 (aa : Int) p10 q10; obtain ⟨ve10_0, ve10_2, rfl, ge10_0, ge10_2⟩ := k31_openM hM10; have cB : aW.cell? ⟨go10, (aa : Int).toNat * 3, none⟩ = some (ve10_0) := hcc10 0 _ rfl; have cC : aW.cell? ⟨go10, (aa : Int).toNat * 3 + 1, none⟩ = some (.int .i64 ((rd_T31 aj aa).f1)) := hcc10 1 _ rfl; have cD : aW.cell? ⟨go10, (aa : Int).toNat * 3 + 2, none⟩ = some (ve10_2) := hcc10 2 _ rfl; have hf10_0 : aW.frozen? ⟨go10, (aa : Int).toNat * 3, none⟩ = false := hfr10 0; have hf10_1 : aW.frozen? ⟨go10, (aa : Int).toNat * 3 + 1, none⟩ = false := hfr10 1; have hf10_2 : aW.frozen? ⟨go10, (aa : Int).toNat * 3 + 2, none⟩ = false := hfr10 2; clear hcl10 hcc10 hfr10 hM10; replace p10 := eq_true p10; replace q10 := eq_true q10; have n_ := A_ (Kd.S_mono (ok' := (fun k_ => some k_ ≠ (bi : Value).ownBlock ∧ some k_ ≠ (bj : Value).ownBlock)) ai.out (fun k_ hk => ⟨hk.1.2, hk.2⟩)); clear ai; have ai := n_; clear n_; have HX12 := A_ (show Kd.S k31 31 aW w.heap.size (fun k_ => ((fun _ => True)) k_ ∧ ¬ ((fun k_ => some k_ = (bi : Value).ownBlock ∨ some k_ = (bj : Value).ownBlock)) k_) (.slice (some ⟨go10, 0, none⟩) aj.length bP) aj from (by refine qS_ ?_; exact Kd.S_mono ai.out (fun k_ hk => ⟨trivial, fun e_ => e_.elim (fun h_ => hk.1 h_) (fun h_ => hk.2 h_)⟩))); obtain ⟨oki12, ce12, hcl12, hM12, hcc12, hfr12, hoki12, hH12⟩ := Kd.S_elem HX12.out z31 (aa : Int) (od_) (by have h_ : (aa : Int) < ((aj.length : Int) : Int) := od_; first | exact h_ | (have e_ := (Kd.S_reads' ai.out).1; omega) | simpa using h_); obtain ⟨ve12_0, ve12_2, rfl, ge12_0, ge12_2⟩ := k31_openM hM12; have HP12 := Kd.S_seg hH12 (od_) (by have h_ : (aa : Int) < ((aj.length : Int) : Int) := od_; first | exact h_ | (have e_ := (Kd.S_reads' ai.out).1; omega) | simpa using h_) (seg := [bi, .int .i64 aX, bj]) (j := 0) (show 3 ≤ 3 from by decide) (x' := (⟨be, aX, bf⟩ : S31)) (k31_mkM _ _ _ (⟨be, aX, bf⟩ : S31) (Kd.R_mono (Kd.R_tight rfl (Kd.R_mono (ok' := fun k_ => ((fun _ => True)) k_ ∧ k_ ≠ go10) (Kd.R_apart' (aQ.out) (Kd.S_typed ai.out) (by decide)) (fun k_ hk => ⟨trivial, fun e_ => (hk.2) (by rw [e_]; rfl)⟩))) (fun _ h_ => Or.inr (Or.inl h_))) (Kd.R_mono (Kd.R_tight rfl (Kd.R_mono (ok' := fun k_ => ((fun _ => True)) k_ ∧ k_ ≠ go10) (Kd.R_apart' (aR.out) (Kd.S_typed ai.out) (by decide)) (fun k_ hk => ⟨trivial, fun e_ => (hk.2) (by rw [e_]; rfl)⟩))) (fun _ h_ => Or.inr (Or.inr (h_))))) (fun _ hk => hk) (fun k_ hk_ => hk_.elim (fun h_ => ((Kd.R_mono (ok' := fun k_ => ((fun _ => True)) k_ ∧ k_ ≠ go10) (Kd.R_apart' (aQ.out) (Kd.S_typed ai.out) (by decide)) (fun k_ hk => ⟨trivial, fun e_ => (hk.2) (by rw [e_]; rfl)⟩))).1 k_ h_.symm) (fun h_ => ((Kd.R_mono (ok' := fun k_ => ((fun _ => True)) k_ ∧ k_ ≠ go10) (Kd.R_apart' (aR.out) (Kd.S_typed ai.out) (by decide)) (fun k_ hk => ⟨trivial, fun e_ => (hk.2) (by rw [e_]; rfl)⟩))).1 k_ h_.symm)); have bD := hcc12 0 _ rfl; (try simp only [show (k31).sz = 3 from rfl, Nat.mul_one, Nat.add_zero] at bD); have hf12_0 := hfr12 0; (try simp only [show (k31).sz = 3 from rfl, Nat.mul_one, Nat.add_zero] at hf12_0); have bE := hcc12 1 _ rfl; (try simp only [show (k31).sz = 3 from rfl, Nat.mul_one, Nat.add_zero] at bE); have hf12_1 := hfr12 1; (try simp only [show (k31).sz = 3 from rfl, Nat.mul_one, Nat.add_zero] at hf12_1); have bF := hcc12 2 _ rfl; (try simp only [show (k31).sz = 3 from rfl, Nat.mul_one, Nat.add_zero] at bF); have hf12_2 := hfr12 2; (try simp only [show (k31).sz = 3 from rfl, Nat.mul_one, Nat.add_zero] at hf12_2); clear hcl12 hcc12 hfr12 hM12 hoki12 hH12) | ((with_reducible refine gate_store (t := 31) (p := 21) rfl ?_); refine store_event (t := 31) (p := 21) (v := ?vo_w13) (w1 := (((aW.setCell ⟨go10, (aa : Int).toNat * 3, none⟩ (bi)).setCell ⟨go10, (aa : Int).toNat * 3 + 1, none⟩ (.int .i64 aX)).setCell ⟨go10, (aa : Int).toNat * 3 + 2, none⟩ (bj))) ?hg ?ho ?hn ?hr ?_; (case ho => rfl); (case hg => rfl); (case hn => rfl); (case hr => first | (go_simp; done) | (go_simp; rfl) | (obtain ⟨_, _, ef0_⟩ := Kd.R_slice aQ.out; obtain ⟨_, _, ef1_⟩ := Kd.R_slice aR.out; simp only [ef0_, ef1_]; go_simp; first | done | rfl)); intro cE hw; have hg : aW.grownBy cE (some go10) := (by rw [hw]; exact HP12.2); have hp_ : Kd.S k31 31 cE w.heap.size (fun _ => True) (.slice (some ⟨go10, 0, none⟩) aj.length bP) bw := (by rw [hw, bO.out]; exact HP12.1); clear HP12; replace ai := A_ (hp_); replace HB := A_ ((by rw [hw]; exact below_set (below_set (below_set (HB.out) GB10.out) GB10.out) GB10.out : Below w.heap.size w cE)); clear aQ aR hg hw hp_))
    go_roundg k1
    case measure => have := HK1.out; omega
    case rel => exact ⟨(bw), (wrap64 (aa + 1)), tx_, H', ⟨by have := HK1.out; omega⟩, ⟨rS_ ai.out⟩, ⟨(tb_ HB.out)⟩⟩
   ·
    obtain rfl := Option.some.inj H; go_wp2; go_ret; exact ⟨_, tw_, by refine qS_ ?_; exact ai.out, (tb_ HB.out)⟩
/-! ### laws_toDesk: function 7 -/
def laws_toDesk.f (k : Nat) (al : List Int) (a0_1 : Int) (am : List Int) (ao : List (S24)) : Option (List Int × Int × List Int × (List (S31))) := (laws_toPlace.f k al a0_1 am).bind fun ap => ((laws_toPlaceS.f k ao).bind fun an => (some (ap.1, ap.2.1, ap.2.2, an)))
theorem laws_toDesk.mono : ∀ a0 a1 a2 a3 k, LeO (laws_toDesk.f k a0 a1 a2 a3) (laws_toDesk.f (k + 1) a0 a1 a2 a3) := by
 intro a0 a1 a2 a3 k; unfold laws_toDesk.f; repeat' (with_reducible first | exact laws_toPlace.mono _ _ _ _ | exact laws_toPlaceS.mono _ _ | exact mr_ | exact mn_ | refine mi_ ?_ ?_ | refine mb_ ?_ (fun _ => ?_))
theorem laws_toDesk.calls (k : Nat) (aE : Option Addr) (aF : Nat) (al : List Int) (a0_1 : Int) (aG : Option Addr) (aH : Nat) (am : List Int) (bk : Option Addr) (bl : Nat) (ao : List (S24)) (r1 : List Int) (r2 : Int) (r3 : List Int) (r4 : List (S31)) (w : World) (hr0_0 : Kd.C (Kd.int .i64) w aE al.length al) (hc0_0 : al.length ≤ aF) (hr0_2 : Kd.C (Kd.int .i64) w aG am.length am) (hc0_2 : am.length ≤ aH) (hr0_3 : Kd.C k24 w bk ao.length ao) (hc0_3 : ao.length ≤ bl) (h : laws_toDesk.f k al a0_1 am ao = some (r1, r2, r3, r4)) :
  Calls Tryd.prog 7 #[.agg #[.slice aE al.length aF, .int .i64 a0_1, .slice aG am.length aH, .slice bk ao.length bl]] w fun e w' => ∃ v0_ v2_ v3_ : Value, e = .returned (.agg #[v0_, .int .i64 r2, v2_, v3_]) ∧ Kd.R (Kd.int .i64) 3 w' w.heap.size (fun k_ => some k_ ≠ (v2_ : Value).ownBlock) v0_ r1 ∧ Kd.R (Kd.int .i64) 3 w' w.heap.size (fun k_ => some k_ ≠ (v0_ : Value).ownBlock) v2_ r3 ∧ Kd.S k31 31 w' w.heap.size (fun k_ => some k_ ≠ (v0_ : Value).ownBlock ∧ some k_ ≠ (v2_ : Value).ownBlock) v3_ r4 ∧ Below w.heap.size w w' := by
 have hu27 := Tryd.underlying27; have hu34 := Tryd.underlying34; have hu24 := Tryd.underlying24; have hu31 := Tryd.underlying31; have cT := A_ hr0_0; have bS := A_ hc0_0; clear hr0_0 hc0_0; have cU := A_ hr0_2; have bU := A_ hc0_2; clear hr0_2 hc0_2; have bV := A_ hr0_3; have bW := A_ hc0_3; clear hr0_3 hc0_3; have HB := A_ (Below.refl w.heap.size w); have H : ((laws_toPlace.f k al a0_1 am).bind fun ap => ((laws_toPlaceS.f k ao).bind fun an => (some (ap.1, ap.2.1, ap.2.2, an)))) = some (r1, r2, r3, r4) := h; clear h; obtain ⟨⟨aq, ar, au⟩, A2, H⟩ := bnd_ H; (try dsimp only at H); obtain ⟨an, A3, H⟩ := bnd_ H; (try dsimp only at H); simp only [Option.some.injEq, Prod.mk.injEq] at H; obtain ⟨rfl, rfl, rfl, rfl⟩ := H; go_enter Tryd.func7, Tryd.ntmps7; go_wp2_with (first | ((with_reducible refine gate_dst (N := 1) rfl ?_); refine be_ 1 #[.slice aE al.length aF, .int .i64 a0_1, .slice aG am.length aH, .slice bk ao.length bl] 27 ?_; intro cV hg w4 ac hb; have cW := gx_ HB hg; have cX := gx_ HB hg; replace HB := bs_ HB hb; clear hb hg) | ((with_reducible refine gate_dst (N := 2) rfl ?_); refine be_ 2 #[.slice none 0 0, .int .i64 0, .slice none 0 0, .slice none 0 0] 34 ?_; intro ak hg w5 af hb; have cY := gx_ HB hg; have cZ := gx_ HB hg; replace HB := bs_ HB hb; have aY := nl_ ac hg; have aZ := ng_ ac hg; replace ac := bb_ ac hb; clear hb hg) | ((with_reducible refine gate_dst (N := 3) rfl ?_); refine be_ 3 #[.slice none 0 0, .int .i64 0, .slice none 0 0, .slice none 0 0] 34 ?_; intro ah hg w6 ae hb; have da := gx_ HB hg; have db := gx_ HB hg; replace HB := bs_ HB hb; have a4 := nl_ ac hg; have a5 := ng_ ac hg; replace ac := bb_ ac hb; have a6 := nl_ af hg; have a7 := ng_ af hg; replace af := bb_ af hb; clear hb hg; have dg := aY.out; have dh := aZ.out; have di := a4.out; have dj := a5.out; obtain ⟨cF, cG, cH, cI, cJ, cK, cL, cM⟩ := cf4_ ac) | ((with_reducible refine gate_callee (f := 26) rfl ?_); refine gl_ (some 6) Tryd.func26 #[.agg #[.slice aE al.length aF, .int .i64 a0_1, .slice aG am.length aH]] ?_; (with_reducible refine (laws_toPlace.calls k _ _ al a0_1 _ _ am aq ar au _ ?s1 ?s2 ?s3 ?s4 A2.out).mono ?_); (case s1 => exact tD_); (case s2 => exact bS.out); (case s3 => exact tD_); (case s4 => exact bU.out); rintro e dn ⟨dk, dl, rfl, ho0, ho1, hb⟩; refine ⟨_, rfl, ?_⟩; have aI := rx_ ho0 HB; have aJ := rx_ ho1 HB; replace ac := bb_ ac hb; replace af := bb_ af hb; replace ae := bb_ ae hb; replace HB := bs_ HB hb; (try clear hb ho0 ho1); obtain ⟨aA, aB, cN⟩ := Kd.R_slice aI.out; subst cN; have dc := a7.out; have dd := a6.out; obtain ⟨b1, b2, b3, b4, b5, b6, b7, b8⟩ := cf4_ ae; obtain ⟨aC, aD, cO⟩ := Kd.R_slice aJ.out; subst cO; obtain ⟨b9, ca, cb, cc, cd, ce, cf, cg⟩ := cf4_ ac) | ((with_reducible refine gate_callee (f := 27) rfl ?_); refine gl_ (some 10) Tryd.func27 #[.slice bk ao.length bl] ?_; (with_reducible refine (laws_toPlaceS.calls k _ _ ao an _ ?s1 ?s2 A3.out).mono ?_); (case s1 => exact Kd.C_below bV.out (tb_ HB.out)); (case s2 => exact bW.out); rintro e dp ⟨dm, rfl, ho0, hb⟩; refine ⟨_, rfl, ?_⟩; have bq := sx_ (nS_ (nS_ ho0 (lR_ aI)) (lR_ aJ)) HB; replace aI := A_ (Kd.R_below (wR_ aI ae) hb); replace aJ := A_ (Kd.R_below (wR_ aJ ae) hb); replace ac := bb_ ac hb; replace af := bb_ af hb; replace ae := bp_ #[.slice aA aq.length aB, .int .i64 ar, .slice aC au.length aD, .slice none 0 0] ae hb; replace HB := bs_ HB hb; (try clear hb ho0); obtain ⟨aO, aP, cP⟩ := Kd.S_slice bq.out; subst cP; obtain ⟨ch, ci, cj, ck, cm, cn, co, cp⟩ := cf4_ ae; obtain ⟨cq, cr, ct, cu, cv, cw, cx, cy⟩ := cf4_ af)); refine bodyPost_ret (results_cell_row rfl _ _ ak 34 #[.slice aA aq.length aB, .int .i64 ar, .slice aC au.length aD, .slice aO an.length aP] (0, 0) _ rfl (ps_ af.out) Tryd.underlying34 rfl (by kernel_rfl)) rfl ?_; exact ⟨_, _, _, tw_, Kd.R_mono (zR_ aI ae af) (fun _ hk => hk.1.1), Kd.R_mono (zR_ aJ ae af) (fun _ hk => hk.1.1), Kd.S_mono (zS_ bq ae af) (fun _ hk => ⟨hk.1.1.1.2, hk.1.1.2⟩), (tb_ HB.out)⟩

/-! ### laws_toDeed: function 8 -/
def laws_toDeed.f (a0_0 : Int) (a0_1 : Int) (a0_2 : Int) : Option (Int × Int × Int) := some (a0_0, a0_1, a0_2)
theorem laws_toDeed.calls (a0_0 : Int) (a0_1 : Int) (a0_2 : Int) (r1 : Int) (r2 : Int) (r3 : Int) (w : World) (h : laws_toDeed.f a0_0 a0_1 a0_2 = some (r1, r2, r3)) :
  Calls Tryd.prog 8 #[.agg #[.int .i64 a0_0, .int .i64 a0_1, .int .i64 a0_2]] w fun e w' => e = .returned (.agg #[.int .i64 r1, .int .i64 r2, .int .i64 r3]) ∧ Below w.heap.size w w' := by
 have hu29 := Tryd.underlying29; have hu38 := Tryd.underlying38; have st := ST.nil w; have s0 := st; have cl := cl_ st; have H := h; clear h; unfold laws_toDeed.f at H; go_enter Tryd.func8, Tryd.ntmps8; simp only [Option.some.injEq, Prod.mk.injEq] at H; obtain ⟨rfl, rfl, rfl⟩ := H; go_wp2_with (first | ((with_reducible refine gate_dst (N := 1) rfl ?_); refine al_ st ?_; clear st cl; intro g1 w_ st; have cl := cl_ st) | ((with_reducible refine gate_dst (N := 2) rfl ?_); refine al_ st ?_; clear st cl; intro g2 w_ st; have cl := cl_ st) | ((with_reducible refine gate_dst (N := 3) rfl ?_); refine al_ st ?_; clear st cl; intro g3 w_ st; have cl := cl_ st) | ((with_reducible refine gate_store (p := 6) rfl ?_); refine so1_ st ?_; clear st cl; intro w_ st; have cl := cl_ st) | ((with_reducible refine gate_store (p := 9) rfl ?_); refine so1_ st ?_; clear st cl; intro w_ st; have cl := cl_ st) | ((with_reducible refine gate_store (p := 12) rfl ?_); refine so1_ st ?_; clear st cl; intro w_ st; have cl := cl_ st) | ((with_reducible refine gate_store (p := 2) rfl ?_); refine so3_ st ?_; clear st cl; intro w_ st; have cl := cl_ st)); refine bodyPost_ret (rcc_ st Tryd.underlying38) rfl ?_; exact ⟨tw_, st.b⟩

/-! ### impl_coloursOk: function 70 -/
def impl_coloursOk.f (a0 : Int) : Option (Bool) := if a0 ≥ 1 then (some (decide (a0 ≤ 3))) else (some false)
theorem impl_coloursOk.calls (a0 : Int) (r : Bool) (w : World) (h : impl_coloursOk.f a0 = some r) :
  Calls Tryd.prog 70 #[.int .i64 a0] w fun e w' => e = .returned (.bool r) ∧ Drawn0 w w' := by
 have H : (if a0 ≥ 1 then (some (decide (a0 ≤ 3))) else (some false)) = some r := h; clear h; replace H := ih_ H; rcases H with ⟨av, H⟩ | ⟨av, H⟩
 ·
  obtain rfl := Option.some.inj H; go_enter Tryd.func70, Tryd.ntmps70; go_wp2; go_ret; exact ⟨tx_, dz_⟩
 ·
  obtain rfl := Option.some.inj H; go_enter Tryd.func70, Tryd.ntmps70; go_wp2; go_ret; exact ⟨tx_, dz_⟩

/-! ### impl_UrnOk: function 54 -/
def impl_UrnOk.l0 : Nat → List Int → List Int → Int → Int → Option (Bool)
 | 0, _, _, _, _ => none
 | k + 1, x0, x5, x6, x7 => if x7 < x6 then (if 0 ≤ x7 then (if x7 < (x5.length : Int) then (if (rd x5 x7) < 0 then (some false) else (if (rd x5 x7) > 40 then (some false) else (impl_UrnOk.l0 k x0 x5 x6 (wrap64 (x7 + 1))))) else (none)) else (none)) else ((impl_coloursOk.f (x0.length : Int)).bind fun bG => (some bG))
def impl_UrnOk.f (k : Nat) (l0 : List Int) : Option (Bool) := impl_UrnOk.l0 k l0 l0 (l0.length : Int) 0
theorem impl_UrnOk.mono_l : ∀ k, (∀ y0 y1 y2 y3, LeO (impl_UrnOk.l0 k y0 y1 y2 y3) (impl_UrnOk.l0 (k + 1) y0 y1 y2 y3))
 | 0 => fun _ _ _ _ r h => by simp [impl_UrnOk.l0] at h
 | k + 1 => by
  have ih0 := impl_UrnOk.mono_l k
  ·
   intro y0 y1 y2 y3
   unfold impl_UrnOk.l0
   repeat' (with_reducible first | exact ih0 _ _ _ _ | exact mr_ | exact mn_ | refine mi_ ?_ ?_ | refine mb_ ?_ (fun _ => ?_))
theorem impl_UrnOk.mono : ∀ a0 k, LeO (impl_UrnOk.f k a0) (impl_UrnOk.f (k + 1) a0) := by
 intro a0 k; have ih0 := impl_UrnOk.mono_l k; unfold impl_UrnOk.f; repeat' (with_reducible first | exact ih0 _ _ _ _ | exact mr_ | exact mn_ | refine mi_ ?_ ?_ | refine mb_ ?_ (fun _ => ?_))
theorem impl_UrnOk.calls (k : Nat) (A0 : Option Addr) (c0 : Nat) (l0 : List Int) (r : Bool) (w : World) (hr0 : Kd.C (Kd.int .i64) w A0 l0.length l0) (hc0 : l0.length ≤ c0) (h : impl_UrnOk.f k l0 = some r) :
  Calls Tryd.prog 54 #[.slice A0 l0.length c0] w fun e w' => e = .returned (.bool r) ∧ Drawn0 w w' := by
 have HR0 := A_ hr0; have HC0 := A_ hc0; clear hr0 hc0; have H : (impl_UrnOk.l0 k l0 l0 (l0.length : Int) 0) = some r := h; clear h; have H' := A_ H; clear H; go_enter Tryd.func54, Tryd.ntmps54; go_wp2
 go_loopg [7] k (fun kq v7 w' => ∃ (ab : Int), v7 = .int .i64 ab ∧ Aside0 (impl_UrnOk.l0 kq l0 l0 (l0.length : Int) ab = some r) ∧ Aside0 (kq ≤ k) ∧ Drawn0 w w')
 case atStart => exact ⟨(0), tx_, H', ⟨Nat.le_refl _⟩, dz_⟩
 case round =>
  clear H'; obtain ⟨ab, rfl, HA, HK1, ⟨m1, rfl⟩⟩ := hrel
  cases gk with
  | zero => exact absurd HA.out (by simp [impl_UrnOk.l0])
  | succ k1 =>
   have H := HA.out; clear HA; simp only [impl_UrnOk.l0] at H; replace H := it_ H; rcases H with ⟨av, H⟩ | ⟨av, H⟩
   ·
    replace H := in_ H; obtain ⟨aK, H⟩ := H; replace H := in_ H; obtain ⟨bX, H⟩ := H; replace H := it_ H; rcases H with ⟨bm, H⟩ | ⟨bm, H⟩
    ·
     obtain rfl := Option.some.inj H; obtain ⟨p350, q350, ad350, e350, aU⟩ := a2_ (Kd.at_int HR0.out ab); cases e350; go_wp2; go_ret; exact ⟨tx_, dz_⟩
    ·
     replace H := ig_ H; rcases H with ⟨aL, H⟩ | ⟨aL, H⟩
     ·
      obtain rfl := Option.some.inj H; obtain ⟨p350, q350, ad350, e350, aU⟩ := a2_ (Kd.at_int HR0.out ab); cases e350; go_wp2; go_ret; exact ⟨tx_, dz_⟩
     ·
      have H' := A_ H; clear H; obtain ⟨p350, q350, ad350, e350, aU⟩ := a2_ (Kd.at_int HR0.out ab); cases e350; go_wp2
      go_roundg k1
      case measure => have := HK1.out; omega
      case rel => exact ⟨(wrap64 (ab + 1)), tx_, H', ⟨by have := HK1.out; omega⟩, dz_⟩
   ·
    obtain ⟨bG, A7, H⟩ := bnd_ H; (try dsimp only at H); obtain rfl := Option.some.inj H; go_wp2_with (first | ((with_reducible refine gate_callee (f := 70) rfl ?_); refine gl_ (some 20) Tryd.func70 #[.int .i64 (l0.length : Int)] ?_; (with_reducible refine (impl_coloursOk.calls (l0.length : Int) bG _ A7.out).mono ?_); rintro e w' ⟨rfl, ⟨nd, rfl⟩⟩; refine ⟨_, rfl, ?_⟩)); go_ret; exact ⟨tx_, dz_⟩

/-! ### impl_StartOk: function 56 -/
def impl_StartOk.l0 : Nat → List Int → List Int → Int → Int → Option (Bool)
 | 0, _, _, _, _ => none
 | k + 1, x0, x5, x6, x7 => if x7 < x6 then (if 0 ≤ x7 then (if x7 < (x5.length : Int) then (if (rd x5 x7) > 10 then (some false) else (impl_StartOk.l0 k x0 x5 x6 (wrap64 (x7 + 1)))) else (none)) else (none)) else ((impl_UrnOk.f k x0).bind fun bH => (some bH))
def impl_StartOk.f (k : Nat) (l0 : List Int) : Option (Bool) := impl_StartOk.l0 k l0 l0 (l0.length : Int) 0
theorem impl_StartOk.mono_l : ∀ k, (∀ y0 y1 y2 y3, LeO (impl_StartOk.l0 k y0 y1 y2 y3) (impl_StartOk.l0 (k + 1) y0 y1 y2 y3))
 | 0 => fun _ _ _ _ r h => by simp [impl_StartOk.l0] at h
 | k + 1 => by
  have ih0 := impl_StartOk.mono_l k
  ·
   intro y0 y1 y2 y3
   unfold impl_StartOk.l0
   repeat' (with_reducible first | exact ih0 _ _ _ _ | exact impl_UrnOk.mono _ _ | exact mr_ | exact mn_ | refine mi_ ?_ ?_ | refine mb_ ?_ (fun _ => ?_))
theorem impl_StartOk.mono : ∀ a0 k, LeO (impl_StartOk.f k a0) (impl_StartOk.f (k + 1) a0) := by
 intro a0 k; have ih0 := impl_StartOk.mono_l k; unfold impl_StartOk.f; repeat' (with_reducible first | exact ih0 _ _ _ _ | exact impl_UrnOk.mono _ _ | exact mr_ | exact mn_ | refine mi_ ?_ ?_ | refine mb_ ?_ (fun _ => ?_))
theorem impl_StartOk.calls (k : Nat) (A0 : Option Addr) (c0 : Nat) (l0 : List Int) (r : Bool) (w : World) (hr0 : Kd.C (Kd.int .i64) w A0 l0.length l0) (hc0 : l0.length ≤ c0) (h : impl_StartOk.f k l0 = some r) :
  Calls Tryd.prog 56 #[.slice A0 l0.length c0] w fun e w' => e = .returned (.bool r) ∧ Drawn0 w w' := by
 have HR0 := A_ hr0; have HC0 := A_ hc0; clear hr0 hc0; have H : (impl_StartOk.l0 k l0 l0 (l0.length : Int) 0) = some r := h; clear h; have H' := A_ H; clear H; go_enter Tryd.func56, Tryd.ntmps56; go_wp2
 go_loopg [7] k (fun kq v7 w' => ∃ (ab : Int), v7 = .int .i64 ab ∧ Aside0 (impl_StartOk.l0 kq l0 l0 (l0.length : Int) ab = some r) ∧ Aside0 (kq ≤ k) ∧ Drawn0 w w')
 case atStart => exact ⟨(0), tx_, H', ⟨Nat.le_refl _⟩, dz_⟩
 case round =>
  clear H'; obtain ⟨ab, rfl, HA, HK1, ⟨m1, rfl⟩⟩ := hrel
  cases gk with
  | zero => exact absurd HA.out (by simp [impl_StartOk.l0])
  | succ k1 =>
   have H := HA.out; clear HA; simp only [impl_StartOk.l0] at H; replace H := it_ H; rcases H with ⟨av, H⟩ | ⟨av, H⟩
   ·
    replace H := in_ H; obtain ⟨aK, H⟩ := H; replace H := in_ H; obtain ⟨bX, H⟩ := H; replace H := ig_ H; rcases H with ⟨bm, H⟩ | ⟨bm, H⟩
    ·
     obtain rfl := Option.some.inj H; obtain ⟨p352, q352, ad352, e352, bn⟩ := a2_ (Kd.at_int HR0.out ab); cases e352; go_wp2; go_ret; exact ⟨tx_, dz_⟩
    ·
     have H' := A_ H; clear H; obtain ⟨p352, q352, ad352, e352, bn⟩ := a2_ (Kd.at_int HR0.out ab); cases e352; go_wp2
     go_roundg k1
     case measure => have := HK1.out; omega
     case rel => exact ⟨(wrap64 (ab + 1)), tx_, H', ⟨by have := HK1.out; omega⟩, dz_⟩
   ·
    obtain ⟨bH, A6, H⟩ := bnd_ H; (try dsimp only at H); obtain rfl := Option.some.inj H; go_wp2_with (first | ((with_reducible refine gate_callee (f := 54) rfl ?_); refine gl_ (some 15) Tryd.func54 #[.slice A0 l0.length c0] ?_; (with_reducible refine (impl_UrnOk.calls k1 _ _ l0 bH _ ?s1 ?s2 A6.out).mono ?_); (case s1 => exact td_); (case s2 => exact HC0.out); rintro e w' ⟨rfl, ⟨nd, rfl⟩⟩; refine ⟨_, rfl, ?_⟩)); go_ret; exact ⟨tx_, dz_⟩

/-! ### impl_WordOk: function 57 -/
def impl_WordOk.l0 : Nat → Int → List Int → List Int → Int → Int → Option (Bool)
 | 0, _, _, _, _, _ => none
 | k + 1, x0, x1, x7, x8, x9 => if x9 < x8 then (if 0 ≤ x9 then (if x9 < (x7.length : Int) then (if (rd x7 x9) < 0 then (some false) else (if (rd x7 x9) ≥ x0 then (some false) else (impl_WordOk.l0 k x0 x1 x7 x8 (wrap64 (x9 + 1))))) else (none)) else (none)) else ((impl_coloursOk.f x0).bind fun bI => (if bI = true then (some (decide ((x1.length : Int) ≤ 6))) else (some false)))
def impl_WordOk.f (k : Nat) (a0 : Int) (l1 : List Int) : Option (Bool) := impl_WordOk.l0 k a0 l1 l1 (l1.length : Int) 0
theorem impl_WordOk.mono_l : ∀ k, (∀ y0 y1 y2 y3 y4, LeO (impl_WordOk.l0 k y0 y1 y2 y3 y4) (impl_WordOk.l0 (k + 1) y0 y1 y2 y3 y4))
 | 0 => fun _ _ _ _ _ r h => by simp [impl_WordOk.l0] at h
 | k + 1 => by
  have ih0 := impl_WordOk.mono_l k
  ·
   intro y0 y1 y2 y3 y4
   unfold impl_WordOk.l0
   repeat' (with_reducible first | exact ih0 _ _ _ _ _ | exact mr_ | exact mn_ | refine mi_ ?_ ?_ | refine mb_ ?_ (fun _ => ?_))
theorem impl_WordOk.mono : ∀ a0 a1 k, LeO (impl_WordOk.f k a0 a1) (impl_WordOk.f (k + 1) a0 a1) := by
 intro a0 a1 k; have ih0 := impl_WordOk.mono_l k; unfold impl_WordOk.f; repeat' (with_reducible first | exact ih0 _ _ _ _ _ | exact mr_ | exact mn_ | refine mi_ ?_ ?_ | refine mb_ ?_ (fun _ => ?_))
theorem impl_WordOk.calls (k : Nat) (a0 : Int) (A1 : Option Addr) (c1 : Nat) (l1 : List Int) (r : Bool) (w : World) (hr1 : Kd.C (Kd.int .i64) w A1 l1.length l1) (hc1 : l1.length ≤ c1) (h : impl_WordOk.f k a0 l1 = some r) :
  Calls Tryd.prog 57 #[.int .i64 a0, .slice A1 l1.length c1] w fun e w' => e = .returned (.bool r) ∧ Drawn0 w w' := by
 have HR1 := A_ hr1; have HC1 := A_ hc1; clear hr1 hc1; have H : (impl_WordOk.l0 k a0 l1 l1 (l1.length : Int) 0) = some r := h; clear h; have H' := A_ H; clear H; go_enter Tryd.func57, Tryd.ntmps57; go_wp2
 go_loopg [9] k (fun kq v9 w' => ∃ (ag : Int), v9 = .int .i64 ag ∧ Aside0 (impl_WordOk.l0 kq a0 l1 l1 (l1.length : Int) ag = some r) ∧ Aside0 (kq ≤ k) ∧ Drawn0 w w')
 case atStart => exact ⟨(0), tx_, H', ⟨Nat.le_refl _⟩, dz_⟩
 case round =>
  clear H'; obtain ⟨ag, rfl, HA, HK1, ⟨m1, rfl⟩⟩ := hrel
  cases gk with
  | zero => exact absurd HA.out (by simp [impl_WordOk.l0])
  | succ k1 =>
   have H := HA.out; clear HA; simp only [impl_WordOk.l0] at H; replace H := it_ H; rcases H with ⟨aK, H⟩ | ⟨aK, H⟩
   ·
    replace H := in_ H; obtain ⟨bX, H⟩ := H; replace H := in_ H; obtain ⟨bm, H⟩ := H; replace H := it_ H; rcases H with ⟨aL, H⟩ | ⟨aL, H⟩
    ·
     obtain rfl := Option.some.inj H; obtain ⟨p354, q354, ad354, e354, aV⟩ := a2_ (Kd.at_int HR1.out ag); cases e354; go_wp2; go_ret; exact ⟨tx_, dz_⟩
    ·
     replace H := ih_ H; rcases H with ⟨bu, H⟩ | ⟨bu, H⟩
     ·
      obtain rfl := Option.some.inj H; obtain ⟨p354, q354, ad354, e354, aV⟩ := a2_ (Kd.at_int HR1.out ag); cases e354; go_wp2; go_ret; exact ⟨tx_, dz_⟩
     ·
      have H' := A_ H; clear H; obtain ⟨p354, q354, ad354, e354, aV⟩ := a2_ (Kd.at_int HR1.out ag); cases e354; go_wp2
      go_roundg k1
      case measure => have := HK1.out; omega
      case rel => exact ⟨(wrap64 (ag + 1)), tx_, H', ⟨by have := HK1.out; omega⟩, dz_⟩
   ·
    obtain ⟨bI, A8, H⟩ := bnd_ H; (try dsimp only at H); by_cases c9 : bI = true
    ·
     subst c9; replace H : (some (decide ((l1.length : Int) ≤ 6))) = some r := by rw [if_pos rfl] at H; exact H
     obtain rfl := Option.some.inj H; go_wp2_with (first | ((with_reducible refine gate_callee (f := 70) rfl ?_); refine gl_ (some 22) Tryd.func70 #[.int .i64 a0] ?_; (with_reducible refine (impl_coloursOk.calls a0 true _ A8.out).mono ?_); rintro e w' ⟨rfl, ⟨nd, rfl⟩⟩; refine ⟨_, rfl, ?_⟩)); go_ret; exact ⟨tx_, dz_⟩
    ·
     replace c9 := Bool.eq_false_iff.mpr c9; subst c9; replace H : (some false) = some r := by rw [if_neg (show ¬ (false = true) by decide)] at H; exact H
     obtain rfl := Option.some.inj H; go_wp2_with (first | ((with_reducible refine gate_callee (f := 70) rfl ?_); refine gl_ (some 22) Tryd.func70 #[.int .i64 a0] ?_; (with_reducible refine (impl_coloursOk.calls a0 false _ A8.out).mono ?_); rintro e w' ⟨rfl, ⟨nd, rfl⟩⟩; refine ⟨_, rfl, ?_⟩)); go_ret; exact ⟨tx_, dz_⟩

/-! ### slices_Clone_int_int: function 55 -/
def slices_Clone_int_int.f (l0 : List Int) : Option (List Int) := if l0.length * 8 ≤ 140737488355328 then some l0 else none
theorem slices_Clone_int_int.calls (A0 : Option Addr) (c0 : Nat) (l0 : List Int) (r : List Int) (w : World) (hr0 : Kd.C (Kd.int .i64) w A0 l0.length l0) (hc0 : l0.length ≤ c0) (h : slices_Clone_int_int.f l0 = some r) :
  Calls Tryd.prog 55 #[.slice A0 l0.length c0] w fun e w' => ∃ v0_ : Value, e = .returned (v0_) ∧ Kd.R (Kd.int .i64) 3 w' w.heap.size (fun _ => True) v0_ r ∧ Below w.heap.size w w' := by
 unfold slices_Clone_int_int.f at h; by_cases hl : l0.length * 8 ≤ 140737488355328
 ·
  rw [if_pos hl] at h; obtain rfl := Option.some.inj h; rcases Nat.eq_zero_or_pos l0.length with h0 | h0
  ·
   obtain rfl : l0 = [] := List.eq_nil_of_length_eq_zero h0
   cases A0 with
   | none => exact (Sh.Tryd.slices_Clone_int_nil 0 c0 w).mono fun e w' ⟨he, hw⟩ => ⟨.slice none 0 0, he, Kd.R_nil _ _ _ _ _, hw ▸ Below.refl _ _⟩
   | some ad => exact (Sh.Tryd.slices_Clone_int_zero ad c0 w).mono fun e w' ⟨v, he, ho, _, hb⟩ => ⟨v, he, Kd.R_of_own (xs := []) ho (fun _ _ => trivial), hb⟩
  ·
   obtain ⟨ad, rfl, hc⟩ := hr0.2.2 h0
   have hcell : ∀ j, j < l0.length → w.cell? (ad.add j) = some (.int .i64 (l0.getD j 0)) := by
    intro j hj; obtain ⟨c, hc1, hc2, hc3⟩ := hc j _ (List.getElem?_eq_getElem hj); have e1 : c = [.int .i64 l0[j]] := hc2; have := hc3 0 _ (by rw [e1]; rfl); rw [List.getD_eq_getElem?_getD, List.getElem?_eq_getElem hj]; simpa [Kd.int, Kd.scalar] using this
   have hs := hcell 0 h0
   have hsp : ad.spot = none := by
    cases hq : ad.spot with
    | none => rfl
    | some q => simp [World.cell?, Addr.add, hq] at hs; split at hs <;> simp at hs
   obtain ⟨b, o, sp⟩ := ad; simp only at hsp; subst hsp; refine (Sh.Tryd.slices_Clone_int b o l0.length c0 l0 w (Nat.le_refl _) hl (fun j hj => by have := hcell j hj; unfold Addr.add at this; split at this <;> simp_all)).mono fun e w' ⟨v, he, ho, _, hb⟩ => ⟨v, he, Kd.R_of_own (by rw [List.take_length] at ho; exact ho) (fun _ _ => trivial), hb⟩
 ·
  rw [if_neg hl] at h; exact absurd h (by simp)

end Go.Proofs.YtmodbemkflkbeaaDoor.MFnExactDeskDo
