/- For the law FnExactDeskRun: walks of the functions that it reaches: each call returns what the plain function beside it tells. The conditions stand in each statement. -/
import Derived.Test.YtmodbemkflkbeaaDoorV
import Derived.Test.YtmodbemkflkbeaaDoorMFnExactDeskRunx0
namespace Go.Proofs.YtmodbemkflkbeaaDoor.MFnExactDeskRun
open Go.RowKit Go.Proofs.YtmodbemkflkbeaaDoorW.PrintWords Go.Proofs.YtmodbemkflkbeaaDoorW.PrintLast Go.Proofs.YtmodbemkflkbeaaDoorW.PrintMore
attribute [local go_sem] max2_int min2_int max_two min_two max_three min_three max_four min_four   -- for this text's walks alone
set_option linter.unusedVariables false
set_option linter.unusedSimpArgs false
set_option maxHeartbeats 8000000
set_option maxRecDepth 100000

/-! ### laws_szIntS: function 44 -/
def laws_szIntS.f (l0 : List Int) (a1 : Int) : Option (Int) := if (wrap64 (a1 - (l0.length : Int))) < 0 then (some (-1)) else (some (wrap64 (a1 - (l0.length : Int))))
theorem laws_szIntS.calls (A0 : Option Addr) (c0 : Nat) (l0 : List Int) (a1 : Int) (r : Int) (w : World) (hr0 : Kd.C (Kd.int .i64) w A0 l0.length l0) (hc0 : l0.length ≤ c0) (h : laws_szIntS.f l0 a1 = some r) :
  Calls Tryd.prog 44 #[.slice A0 l0.length c0, .int .i64 a1] w fun e w' => e = .returned (.int .i64 r) ∧ Drawn0 w w' := by
 have HR0 := A_ hr0; have HC0 := A_ hc0; clear hr0 hc0; have H : (if (wrap64 (a1 - (l0.length : Int))) < 0 then (some (-1)) else (some (wrap64 (a1 - (l0.length : Int))))) = some r := h; clear h; replace H := it_ H; rcases H with ⟨aq, H⟩ | ⟨aq, H⟩
 ·
  obtain rfl := Option.some.inj H; go_enter Tryd.func44, Tryd.ntmps44; go_wp2; go_ret; exact ⟨tx_, dz_⟩
 ·
  obtain rfl := Option.some.inj H; go_enter Tryd.func44, Tryd.ntmps44; go_wp2; go_ret; exact ⟨tx_, dz_⟩

/-! ### laws_szPlace: function 19 -/
def laws_szPlace.f (ac : List Int) (a0_1 : Int) (ad : List Int) (a1 : Int) : Option (Int) := (laws_szIntS.f ac a1).bind fun aW => (if aW < 0 then (some (-1)) else ((laws_szIntS.f ad aW).bind fun aX => (if aX < 0 then (some (-1)) else (some aX))))
theorem laws_szPlace.z0 {P_ : Prop} (h_ : P_ := by go_wp2_with (first | ((with_reducible refine gate_dst (N := 2) rfl ?_); refine al_ st ?_; clear st cl; intro g2 w_ st; have cl := cl_ st) | ((with_reducible refine gate_callee (f := 44) rfl ?_); refine ca_ (some 8) Tryd.func44 _ (laws_szIntS.calls ak al _ _ _ _ (gt_ st) (gt_ st) A_8.out) ?_; rintro e w_ ⟨rfl, hb⟩; refine ⟨_, rfl, ?_⟩; replace hb := hb.below; replace st := st.ev hb; clear cl hb; have cl := cl_ st) | ((with_reducible refine gate_callee (f := 44) rfl ?_); refine ca_ (some 14) Tryd.func44 _ (laws_szIntS.calls am an _ _ _ _ (gt_ st) (gt_ st) A_14.out) ?_; rintro e w_ ⟨rfl, hb⟩; refine ⟨_, rfl, ?_⟩; replace hb := hb.below; replace st := st.ev hb; clear cl hb; have cl := cl_ st)); (go_ret; exact ⟨tw_, st.b⟩)) : P_ := h_
theorem laws_szPlace.calls (ak : Option Addr) (al : Nat) (ac : List Int) (a0_1 : Int) (am : Option Addr) (an : Nat) (ad : List Int) (a1 : Int) (r : Int) (w : World) (hr0_0 : Kd.C (Kd.int .i64) w ak ac.length ac) (hc0_0 : ac.length ≤ al) (hr0_2 : Kd.C (Kd.int .i64) w am ad.length ad) (hc0_2 : ad.length ≤ an) (h : laws_szPlace.f ac a0_1 ad a1 = some r) :
  Calls Tryd.prog 19 #[.agg #[.slice ak ac.length al, .int .i64 a0_1, .slice am ad.length an], .int .i64 a1] w fun e w' => e = .returned (.int .i64 r) ∧ Below w.heap.size w w' := by
 have hu24 := Tryd.underlying24; have st := ((ST.nil w).c hr0_0 hc0_0).c hr0_2 hc0_2; have s0 := st; have cl := cl_ st; have H := h; clear h; unfold laws_szPlace.f at H; go_enter Tryd.func19, Tryd.ntmps19; obtain ⟨aW, A_8, H⟩ := bnd_ H; replace H := it_ H; rcases H with ⟨aq, H⟩ | ⟨aq, H⟩
 ·
  obtain rfl := Option.some.inj H; exact laws_szPlace.z0
 ·
  obtain ⟨aX, A_14, H⟩ := bnd_ H; replace H := it_ H; rcases H with ⟨bf, H⟩ | ⟨bf, H⟩
  ·
   obtain rfl := Option.some.inj H; exact laws_szPlace.z0
  ·
   obtain rfl := Option.some.inj H; exact laws_szPlace.z0

/-! ### laws_szPlaceS: function 20 -/
def laws_szPlaceS.l0 : Nat → List (S24) → Int → Int → Option (Int)
 | 0, _, _, _ => none
 | k + 1, x0, x1, x5 => if x5 < (x0.length : Int) then (if 0 ≤ x5 then ((laws_szPlace.f ((rd_T24 x0 x5).f0) ((rd_T24 x0 x5).f1) ((rd_T24 x0 x5).f2) x1).bind fun aL => (if aL < 0 then (some (-1)) else (laws_szPlaceS.l0 k x0 aL (wrap64 (x5 + 1))))) else (none)) else (some x1)
def laws_szPlaceS.f (k : Nat) (l0 : List (S24)) (a1 : Int) : Option (Int) := if (wrap64 (a1 - (l0.length : Int))) < 0 then (some (-1)) else (laws_szPlaceS.l0 k l0 (wrap64 (a1 - (l0.length : Int))) 0)
theorem laws_szPlaceS.mono_l : ∀ k, (∀ y0 y1 y2, LeO (laws_szPlaceS.l0 k y0 y1 y2) (laws_szPlaceS.l0 (k + 1) y0 y1 y2))
 | 0 => fun _ _ _ r h => by simp [laws_szPlaceS.l0] at h
 | k + 1 => by
  have ih0 := laws_szPlaceS.mono_l k
  ·
   intro y0 y1 y2
   unfold laws_szPlaceS.l0
   repeat' (with_reducible first | exact ih0 _ _ _ | exact mr_ | exact mn_ | refine mi_ ?_ ?_ | refine mb_ ?_ (fun _ => ?_))
theorem laws_szPlaceS.mono : ∀ a0 a1 k, LeO (laws_szPlaceS.f k a0 a1) (laws_szPlaceS.f (k + 1) a0 a1) := by
 intro a0 a1 k; have ih0 := laws_szPlaceS.mono_l k; unfold laws_szPlaceS.f; repeat' (with_reducible first | exact ih0 _ _ _ | exact mr_ | exact mn_ | refine mi_ ?_ ?_ | refine mb_ ?_ (fun _ => ?_))
theorem laws_szPlaceS.z0 {P_ : Prop} (h_ : P_ := by go_wp2_with (first | ((with_reducible refine gate_dst (N := 20) rfl ?_); obtain ⟨p_, q_, ad_, bB, bC, bD, bE, e_, x0, x1, x2, l0_, C0_, l2_, C2_⟩ := a2_ (at_T24 (gC_ s0 k24 A0 l0) ab); replace x0 := cb_ st x0; replace x1 := cb_ st x1; replace x2 := cb_ st x2; replace st := st.c C0_ l0_; replace st := st.c C2_ l2_; have ix_ := ix3_ Tryd.underlying25 e_ p_ q_ (c := c0); clear e_; go_step) | ((with_reducible refine gate_callee (f := 19) rfl ?_); refine ca_ (some 23) Tryd.func19 _ (laws_szPlace.calls bB bC _ _ bD bE _ _ _ _ (gt_ st) (gt_ st) (gt_ st) (gt_ st) A_23.out) ?_; rintro e w_ ⟨rfl, hb⟩; refine ⟨_, rfl, ?_⟩; replace st := st.ev hb; clear cl hb; have cl := cl_ st)); first | (go_ret; exact ⟨tw_, st.b⟩) | (go_roundg k1; (case measure => have := HK1.out; omega); (case rel => exact ⟨(aL), (wrap64 (ab + 1)), tx_, tx_, H', ⟨by have := HK1.out; omega⟩, st.en⟩))) : P_ := h_
theorem laws_szPlaceS.calls (k : Nat) (A0 : Option Addr) (c0 : Nat) (l0 : List (S24)) (a1 : Int) (r : Int) (w : World) (hr0 : Kd.C k24 w A0 l0.length l0) (hc0 : l0.length ≤ c0) (h : laws_szPlaceS.f k l0 a1 = some r) :
  Calls Tryd.prog 20 #[.slice A0 l0.length c0, .int .i64 a1] w fun e w' => e = .returned (.int .i64 r) ∧ Below w.heap.size w w' := by
 have hu24 := Tryd.underlying24; have st := (ST.nil w).c hr0 hc0; have s0 := st; have cl := cl_ st; have H := h; clear h; unfold laws_szPlaceS.f at H; go_enter Tryd.func20, Tryd.ntmps20; replace H := it_ H; rcases H with ⟨aq, H⟩ | ⟨aq, H⟩
 ·
  obtain rfl := Option.some.inj H; go_wp2; go_ret; exact ⟨tw_, st.b⟩
 ·
  have H' := A_ H; clear H; go_wp2
  go_loopg [1, 5] k (fun kq v1 v5 w' => ∃ (bF : Int) (ab : Int), v1 = .int .i64 bF ∧ v5 = .int .i64 ab ∧ Aside0 (laws_szPlaceS.l0 kq l0 bF ab = some r) ∧ Aside0 (kq ≤ k) ∧ ST w [CA k24 w A0 l0 c0] [] w')
  case atStart => exact ⟨(wrap64 (a1 - (l0.length : Int))), (0), tx_, tx_, H', ⟨Nat.le_refl _⟩, st.en⟩
  case round =>
   clear H' st cl; obtain ⟨bF, ab, rfl, rfl, HA, HK1, st⟩ := hrel; have cl := cl_ st
   cases gk with
   | zero => exact absurd HA.out (by simp [laws_szPlaceS.l0])
   | succ k1 =>
    have H := HA.out; clear HA; simp only [laws_szPlaceS.l0] at H; replace H := it_ H; rcases H with ⟨bZ, H⟩ | ⟨bZ, H⟩
    ·
     replace H := in_ H; obtain ⟨bg, H⟩ := H; obtain ⟨aL, A_23, H⟩ := bnd_ H; replace H := it_ H; rcases H with ⟨bh, H⟩ | ⟨bh, H⟩
     ·
      obtain rfl := Option.some.inj H; exact laws_szPlaceS.z0
     ·
      have H' := A_ H; clear H; exact laws_szPlaceS.z0
    ·
     obtain rfl := Option.some.inj H; exact laws_szPlaceS.z0

/-! ### laws_szDesk: function 5 -/
def laws_szDesk.f (k : Nat) (ac : List Int) (a0_1 : Int) (ad : List Int) (ap : List (S24)) (a1 : Int) : Option (Int) := (laws_szPlace.f ac a0_1 ad a1).bind fun aY => (if aY < 0 then (some (-1)) else ((laws_szPlaceS.f k ap aY).bind fun aZ => (if aZ < 0 then (some (-1)) else (some aZ))))
theorem laws_szDesk.mono : ∀ a0 a1 a2 a3 a4 k, LeO (laws_szDesk.f k a0 a1 a2 a3 a4) (laws_szDesk.f (k + 1) a0 a1 a2 a3 a4) := by
 intro a0 a1 a2 a3 a4 k; unfold laws_szDesk.f; repeat' (with_reducible first | exact laws_szPlaceS.mono _ _ _ | exact mr_ | exact mn_ | refine mi_ ?_ ?_ | refine mb_ ?_ (fun _ => ?_))
theorem laws_szDesk.z0 {P_ : Prop} (h_ : P_ := by go_wp2_with (first | ((with_reducible refine gate_dst (N := 2) rfl ?_); refine al_ st ?_; clear st cl; intro g2 w_ st; have cl := cl_ st) | ((with_reducible refine gate_callee (f := 19) rfl ?_); refine ca_ (some 8) Tryd.func19 _ (laws_szPlace.calls ak al _ _ am an _ _ _ _ (gt_ st) (gt_ st) (gt_ st) (gt_ st) A_8.out) ?_; rintro e w_ ⟨rfl, hb⟩; refine ⟨_, rfl, ?_⟩; replace st := st.ev hb; clear cl hb; have cl := cl_ st) | ((with_reducible refine gate_callee (f := 20) rfl ?_); refine ca_ (some 14) Tryd.func20 _ (laws_szPlaceS.calls k aG aH _ _ _ _ (gt_ st) (gt_ st) A_14.out) ?_; rintro e w_ ⟨rfl, hb⟩; refine ⟨_, rfl, ?_⟩; replace st := st.ev hb; clear cl hb; have cl := cl_ st)); (go_ret; exact ⟨tw_, st.b⟩)) : P_ := h_
theorem laws_szDesk.calls (k : Nat) (ak : Option Addr) (al : Nat) (ac : List Int) (a0_1 : Int) (am : Option Addr) (an : Nat) (ad : List Int) (aG : Option Addr) (aH : Nat) (ap : List (S24)) (a1 : Int) (r : Int) (w : World) (hr0_0 : Kd.C (Kd.int .i64) w ak ac.length ac) (hc0_0 : ac.length ≤ al) (hr0_2 : Kd.C (Kd.int .i64) w am ad.length ad) (hc0_2 : ad.length ≤ an) (hr0_3 : Kd.C k24 w aG ap.length ap) (hc0_3 : ap.length ≤ aH) (h : laws_szDesk.f k ac a0_1 ad ap a1 = some r) :
  Calls Tryd.prog 5 #[.agg #[.slice ak ac.length al, .int .i64 a0_1, .slice am ad.length an, .slice aG ap.length aH], .int .i64 a1] w fun e w' => e = .returned (.int .i64 r) ∧ Below w.heap.size w w' := by
 have hu27 := Tryd.underlying27; have hu24 := Tryd.underlying24; have st := (((ST.nil w).c hr0_0 hc0_0).c hr0_2 hc0_2).c hr0_3 hc0_3; have s0 := st; have cl := cl_ st; have H := h; clear h; unfold laws_szDesk.f at H; go_enter Tryd.func5, Tryd.ntmps5; obtain ⟨aY, A_8, H⟩ := bnd_ H; replace H := it_ H; rcases H with ⟨aq, H⟩ | ⟨aq, H⟩
 ·
  obtain rfl := Option.some.inj H; exact laws_szDesk.z0
 ·
  obtain ⟨aZ, A_14, H⟩ := bnd_ H; replace H := it_ H; rcases H with ⟨bf, H⟩ | ⟨bf, H⟩
  ·
   obtain rfl := Option.some.inj H; exact laws_szDesk.z0
  ·
   obtain rfl := Option.some.inj H; exact laws_szDesk.z0

/-! ### laws_toIntS: function 53 -/
def laws_toIntS.l0 : Nat → List Int → List Int → Int → Option (List Int)
 | 0, _, _, _ => none
 | k + 1, x0, x3, x4 => if x4 < (x0.length : Int) then (if 0 ≤ x4 then (if x4 < (x3.length : Int) then (laws_toIntS.l0 k x0 (x3.set (x4 : Int).toNat (rd x0 x4)) (wrap64 (x4 + 1))) else (none)) else (none)) else (some x3)
def laws_toIntS.f (k : Nat) (l0 : List Int) : Option (List Int) := if 0 ≤ (l0.length : Int) then (if ((l0.length : Int) : Int).toNat ≤ 35184372088832 then (laws_toIntS.l0 k l0 (List.replicate ((l0.length : Int) : Int).toNat 0) 0) else (none)) else (none)
theorem laws_toIntS.mono_l : ∀ k, (∀ y0 y1 y2, LeO (laws_toIntS.l0 k y0 y1 y2) (laws_toIntS.l0 (k + 1) y0 y1 y2))
 | 0 => fun _ _ _ r h => by simp [laws_toIntS.l0] at h
 | k + 1 => by
  have ih0 := laws_toIntS.mono_l k
  ·
   intro y0 y1 y2
   unfold laws_toIntS.l0
   repeat' (with_reducible first | exact ih0 _ _ _ | exact mr_ | exact mn_ | refine mi_ ?_ ?_ | refine mb_ ?_ (fun _ => ?_))
theorem laws_toIntS.mono : ∀ a0 k, LeO (laws_toIntS.f k a0) (laws_toIntS.f (k + 1) a0) := by
 intro a0 k; have ih0 := laws_toIntS.mono_l k; unfold laws_toIntS.f; repeat' (with_reducible first | exact ih0 _ _ _ | exact mr_ | exact mn_ | refine mi_ ?_ ?_ | refine mb_ ?_ (fun _ => ?_))
theorem laws_toIntS.calls (k : Nat) (A0 : Option Addr) (c0 : Nat) (l0 : List Int) (r : List Int) (w : World) (hr0 : Kd.C (Kd.int .i64) w A0 l0.length l0) (hc0 : l0.length ≤ c0) (h : laws_toIntS.f k l0 = some r) :
  Calls Tryd.prog 53 #[.slice A0 l0.length c0] w fun e w' => ∃ v0_ : Value, e = .returned (v0_) ∧ Kd.R (Kd.int .i64) 3 w' w.heap.size (fun _ => True) v0_ r ∧ Below w.heap.size w w' := by
 have HR0 := A_ hr0; have HC0 := A_ hc0; clear hr0 hc0; have HB := A_ (Below.refl w.heap.size w); have H : (if 0 ≤ (l0.length : Int) then (if ((l0.length : Int) : Int).toNat ≤ 35184372088832 then (laws_toIntS.l0 k l0 (List.replicate ((l0.length : Int) : Int).toNat 0) 0) else (none)) else (none)) = some r := h; clear h; replace H := i0_ H; obtain ⟨c2, H⟩ := H; have bG := eq_true c2; have bH : decide (0 ≤ (l0.length : Int)) = true := decide_eq_true c2; clear c2; replace H := i0_ H; obtain ⟨c3, H⟩ := H; have aq := eq_true c3; have aI : decide (((l0.length : Int) : Int).toNat ≤ 35184372088832) = true := decide_eq_true c3; clear c3; obtain ⟨b0, bi⟩ : ∃ y_ : List Int, y_ = (List.replicate ((l0.length : Int) : Int).toNat 0) := ⟨_, rfl⟩
 replace H : (laws_toIntS.l0 k l0 b0 0) = some r := yq_ bi H; have bw := A_ bi; clear bi; have H' := A_ H; clear H; go_enter Tryd.func53, Tryd.ntmps53; go_wp2_with (first | ((with_reducible refine gate_dst (N := 7) rfl ?_); refine Kd.R_make (Kd.int .i64) _ 3 rfl (N := 7) rfl 22 _ _ rfl (l0.length : Int) rfl rfl Tryd.underlying22 (.int .i64 0) 8 info3 rfl (by decide) (by omega) 0 (ok := fun _ => True) (okp := fun _ => True) rfl (fun _ hk => hk) trivial (od_) (Nat.le_trans (Nat.mul_le_mul_right _ (od_ : (l0.length : Int).toNat ≤ 35184372088832)) (by omega)) (Below.refl _ _) (Nat.le_refl _) ?_; intro cO w4 ho5 hb hg_ hnew_; clear hg_ hnew_; (first | rw [← bw.out] at ho5 | (simp only [Int.reduceToNat] at ho5; rw [← bw.out] at ho5)); have b1 := rx_ ho5 HB; replace HB := bs_ HB hb; clear hb ho5))
 go_loopg [4] k (fun kq v4 w' => ∃ (aj : List Int) (aa : Int), v4 = .int .i64 aa ∧ Aside0 (laws_toIntS.l0 kq l0 aj aa = some r) ∧ Aside0 (kq ≤ k) ∧ Aside0 (Kd.R (Kd.int .i64) 3 w' w.heap.size (fun _ => True) cO aj) ∧ Aside0 (Below w.heap.size w w'))
 case atStart => exact ⟨(b0), (0), tx_, H', ⟨Nat.le_refl _⟩, ⟨rR_ b1.out⟩, ⟨(tb_ HB.out)⟩⟩
 case round =>
  clear H'; (try clear c2); (try clear bG); (try clear bH); (try clear c3); (try clear aq); (try clear aI); obtain ⟨aj, aa, rfl, HA, HK1, ai, HB⟩ := hrel
  cases gk with
  | zero => exact absurd HA.out (by simp [laws_toIntS.l0])
  | succ k1 =>
   have H := HA.out; clear HA; simp only [laws_toIntS.l0] at H; replace H := it_ H; rcases H with ⟨bg, H⟩ | ⟨bg, H⟩
   ·
    replace H := in_ H; obtain ⟨bh, H⟩ := H; replace H := in_ H; obtain ⟨dv, H⟩ := H; obtain ⟨bI, bj⟩ : ∃ y_ : List Int, y_ = (aj.set (aa : Int).toNat (rd l0 aa)) := ⟨_, rfl⟩
    replace H : (laws_toIntS.l0 k1 l0 bI (wrap64 (aa + 1))) = some r := yq_ bj H; have b2 := A_ bj; clear bj; have H' := A_ H; clear H; obtain ⟨p112, q112, ad112, e112, ay⟩ := a2_ (Kd.at_int HR0.out aa); cases e112; replace ay := (HB.out.cell (World.block_lt_of_cell? w _ ay)).trans ay; have p9 : 0 ≤ (aa : Int) := od_; have q9 : (aa : Int) < ((aj.length : Int) : Int) := od_; obtain ⟨go9, co9, dg, dh, gl9, cl9, HG9⟩ := Kd.R_form ai.out (by omega); (first | cases dg | (injection dg with ea_ en_ ec_; (first | subst ea_ | (injection ea_ with ea_; subst ea_)); subst ec_; clear en_)); have GB9 := A_ dh; have GG9 := A_ HG9; clear dh gl9 HG9; obtain ⟨di, hf9_0⟩ := Kd.R_celln 0 ai.out (aa : Int) p9 q9; replace p9 := eq_true p9; replace q9 := eq_true q9; have HP10 := Kd.R_putg ai.out (aa : Int) (rd l0 aa); go_wp2_with (first | ((with_reducible refine gate_store (t := 3) (p := 20) rfl ?_); refine store_event (t := 3) (p := 20) (v := ?vo_w11) (w1 := (wr.setCell ⟨go9, (aa : Int).toNat, none⟩ (.int .i64 (rd l0 aa)))) ?hg ?ho ?hn ?hr ?_; (case ho => rfl); (case hg => rfl); (case hn => rfl); (case hr => first | (go_simp; done) | (go_simp; rfl)); intro a6 hw; have hg : wr.grownBy a6 (some go9) := (by rw [hw]; exact HP10.2); have hp_ : Kd.R (Kd.int .i64) 3 a6 w.heap.size (fun _ => True) (.slice (some ⟨go9, 0, none⟩) aj.length co9) bI := (by rw [hw, b2.out]; exact HP10.1); clear HP10; replace ai := A_ (hp_); replace HB := A_ ((by rw [hw]; exact below_set (HB.out) GB9.out : Below w.heap.size w a6)); clear hg hw hp_))
    go_roundg k1
    case measure => have := HK1.out; omega
    case rel => exact ⟨(bI), (wrap64 (aa + 1)), tx_, H', ⟨by have := HK1.out; omega⟩, ⟨rR_ ai.out⟩, ⟨(tb_ HB.out)⟩⟩
   ·
    obtain rfl := Option.some.inj H; go_wp2; go_ret; exact ⟨_, tw_, by refine qR_ ?_; exact ai.out, (tb_ HB.out)⟩
/-! ### laws_toPlace: function 26 -/
def laws_toPlace.f (k : Nat) (ac : List Int) (a0_1 : Int) (ad : List Int) : Option (List Int × Int × List Int) := (laws_toIntS.f k ac).bind fun aM => ((laws_toIntS.f k ad).bind fun aN => (some (aM, a0_1, aN)))
theorem laws_toPlace.mono : ∀ a0 a1 a2 k, LeO (laws_toPlace.f k a0 a1 a2) (laws_toPlace.f (k + 1) a0 a1 a2) := by
 intro a0 a1 a2 k; unfold laws_toPlace.f; repeat' (with_reducible first | exact laws_toIntS.mono _ _ | exact mr_ | exact mn_ | refine mi_ ?_ ?_ | refine mb_ ?_ (fun _ => ?_))
theorem laws_toPlace.calls (k : Nat) (ak : Option Addr) (al : Nat) (ac : List Int) (a0_1 : Int) (am : Option Addr) (an : Nat) (ad : List Int) (r1 : List Int) (r2 : Int) (r3 : List Int) (w : World) (hr0_0 : Kd.C (Kd.int .i64) w ak ac.length ac) (hc0_0 : ac.length ≤ al) (hr0_2 : Kd.C (Kd.int .i64) w am ad.length ad) (hc0_2 : ad.length ≤ an) (h : laws_toPlace.f k ac a0_1 ad = some (r1, r2, r3)) :
  Calls Tryd.prog 26 #[.agg #[.slice ak ac.length al, .int .i64 a0_1, .slice am ad.length an]] w fun e w' => ∃ v0_ v2_ : Value, e = .returned (.agg #[v0_, .int .i64 r2, v2_]) ∧ Kd.R (Kd.int .i64) 3 w' w.heap.size (fun k_ => some k_ ≠ (v2_ : Value).ownBlock) v0_ r1 ∧ Kd.R (Kd.int .i64) 3 w' w.heap.size (fun k_ => some k_ ≠ (v0_ : Value).ownBlock) v2_ r3 ∧ Below w.heap.size w w' := by
 have hu24 := Tryd.underlying24; have hu31 := Tryd.underlying31; have st := ((ST.nil w).c hr0_0 hc0_0).c hr0_2 hc0_2; have s0 := st; have cl := cl_ st; have H := h; clear h; unfold laws_toPlace.f at H; go_enter Tryd.func26, Tryd.ntmps26; obtain ⟨aM, A_6, H⟩ := bnd_ H; obtain ⟨aN, A_13, H⟩ := bnd_ H; simp only [Option.some.injEq, Prod.mk.injEq] at H; obtain ⟨rfl, rfl, rfl⟩ := H; go_wp2_with (first | ((with_reducible refine gate_dst (N := 1) rfl ?_); refine al_ st ?_; clear st cl; intro g1 w_ st; have cl := cl_ st) | ((with_reducible refine gate_dst (N := 2) rfl ?_); refine al_ st ?_; clear st cl; intro g2 w_ st; have cl := cl_ st) | ((with_reducible refine gate_dst (N := 3) rfl ?_); refine al_ st ?_; clear st cl; intro g3 w_ st; have cl := cl_ st) | ((with_reducible refine gate_callee (f := 53) rfl ?_); refine ca_ (some 6) Tryd.func53 _ (laws_toIntS.calls k ak al _ _ _ (gt_ st) (gt_ st) A_6.out) ?_; rintro e w_ ⟨v0, rfl, h0, hb⟩; refine ⟨_, rfl, ?_⟩; obtain ⟨B6_0, d6_0, rfl⟩ := Kd.R_slice h0; replace st := st.box (A := AR (Kd.int .i64) 3 w.heap.size (.slice B6_0 aM.length d6_0) aM) hb (st.mr h0); clear cl hb h0; have cl := cl_ st) | ((with_reducible refine gate_store (p := 7) rfl ?_); refine so1_ st ?_; clear st cl; intro w_ st; have cl := cl_ st) | ((with_reducible refine gate_store (p := 10) rfl ?_); refine so1_ st ?_; clear st cl; intro w_ st; have cl := cl_ st) | ((with_reducible refine gate_callee (f := 53) rfl ?_); refine ca_ (some 13) Tryd.func53 _ (laws_toIntS.calls k am an _ _ _ (gt_ st) (gt_ st) A_13.out) ?_; rintro e w_ ⟨v0, rfl, h0, hb⟩; refine ⟨_, rfl, ?_⟩; obtain ⟨B13_0, d13_0, rfl⟩ := Kd.R_slice h0; replace st := st.box (A := AR (Kd.int .i64) 3 w.heap.size (.slice B13_0 aN.length d13_0) aN) hb (st.mr h0); clear cl hb h0; have cl := cl_ st) | ((with_reducible refine gate_store (p := 14) rfl ?_); refine so1_ st ?_; clear st cl; intro w_ st; have cl := cl_ st) | ((with_reducible refine gate_store (p := 2) rfl ?_); refine so3_ st ?_; clear st cl; intro w_ st; have cl := cl_ st)); refine bodyPost_ret (rcc_ st Tryd.underlying31) rfl ?_; exact ⟨.slice B6_0 aM.length d6_0, .slice B13_0 aN.length d13_0, tw_, (tap_ st B6_0 aM B13_0 aN).1, (tap_ st B6_0 aM B13_0 aN).2, st.b⟩

/-! ### laws_toPlaceS: function 27 -/
def laws_toPlaceS.l0 : Nat → List (S24) → List (S31) → Int → Option ((List (S31)))
 | 0, _, _, _ => none
 | k + 1, x0, x3, x4 => if x4 < (x0.length : Int) then (if 0 ≤ x4 then ((laws_toPlace.f k ((rd_T24 x0 x4).f0) ((rd_T24 x0 x4).f1) ((rd_T24 x0 x4).f2)).bind fun bk => (if x4 < (x3.length : Int) then (laws_toPlaceS.l0 k x0 (x3.set (x4 : Int).toNat (⟨bk.1, bk.2.1, bk.2.2⟩ : S31)) (wrap64 (x4 + 1))) else (none))) else (none)) else (some x3)
def laws_toPlaceS.f (k : Nat) (l0 : List (S24)) : Option ((List (S31))) := if 0 ≤ (l0.length : Int) then (if ((l0.length : Int) : Int).toNat ≤ 5026338869833 then (laws_toPlaceS.l0 k l0 (List.replicate ((l0.length : Int) : Int).toNat z31) 0) else (none)) else (none)
theorem laws_toPlaceS.mono_l : ∀ k, (∀ y0 y1 y2, LeO (laws_toPlaceS.l0 k y0 y1 y2) (laws_toPlaceS.l0 (k + 1) y0 y1 y2))
 | 0 => fun _ _ _ r h => by simp [laws_toPlaceS.l0] at h
 | k + 1 => by
  have ih0 := laws_toPlaceS.mono_l k
  ·
   intro y0 y1 y2
   unfold laws_toPlaceS.l0
   repeat' (with_reducible first | exact ih0 _ _ _ | exact laws_toPlace.mono _ _ _ _ | exact mr_ | exact mn_ | refine mi_ ?_ ?_ | refine mb_ ?_ (fun _ => ?_))
theorem laws_toPlaceS.mono : ∀ a0 k, LeO (laws_toPlaceS.f k a0) (laws_toPlaceS.f (k + 1) a0) := by
 intro a0 k; have ih0 := laws_toPlaceS.mono_l k; unfold laws_toPlaceS.f; repeat' (with_reducible first | exact ih0 _ _ _ | exact laws_toPlace.mono _ _ _ _ | exact mr_ | exact mn_ | refine mi_ ?_ ?_ | refine mb_ ?_ (fun _ => ?_))
theorem laws_toPlaceS.calls (k : Nat) (A0 : Option Addr) (c0 : Nat) (l0 : List (S24)) (r : List (S31)) (w : World) (hr0 : Kd.C k24 w A0 l0.length l0) (hc0 : l0.length ≤ c0) (h : laws_toPlaceS.f k l0 = some r) :
  Calls Tryd.prog 27 #[.slice A0 l0.length c0] w fun e w' => ∃ v0_ : Value, e = .returned (v0_) ∧ Kd.S k31 31 w' w.heap.size (fun _ => True) v0_ r ∧ Below w.heap.size w w' := by
 have hu24 := Tryd.underlying24; have hu31 := Tryd.underlying31; have HR0 := A_ hr0; have HC0 := A_ hc0; clear hr0 hc0; have HB := A_ (Below.refl w.heap.size w); have H : (if 0 ≤ (l0.length : Int) then (if ((l0.length : Int) : Int).toNat ≤ 5026338869833 then (laws_toPlaceS.l0 k l0 (List.replicate ((l0.length : Int) : Int).toNat z31) 0) else (none)) else (none)) = some r := h; clear h; replace H := i0_ H; obtain ⟨c2, H⟩ := H; have bG := eq_true c2; have bH : decide (0 ≤ (l0.length : Int)) = true := decide_eq_true c2; clear c2; replace H := i0_ H; obtain ⟨c3, H⟩ := H; have aq := eq_true c3; have aI : decide (((l0.length : Int) : Int).toNat ≤ 5026338869833) = true := decide_eq_true c3; clear c3; obtain ⟨b3, bl⟩ : ∃ y_ : List (S31), y_ = (List.replicate ((l0.length : Int) : Int).toNat z31) := ⟨_, rfl⟩
 replace H : (laws_toPlaceS.l0 k l0 b3 0) = some r := yq_ bl H; have bx := A_ bl; clear bl; have H' := A_ H; clear H; go_enter Tryd.func27, Tryd.ntmps27; go_wp2_with (first | ((with_reducible refine gate_dst (N := 7) rfl ?_); refine Kd.S_make k31 _ 31 rfl (N := 7) rfl 32 _ _ rfl (l0.length : Int) rfl rfl Tryd.underlying32 (.agg #[(.slice none 0 0), (.int .i64 0), (.slice none 0 0)]) 56 info31 rfl (by decide) (by omega) z31 (ok := fun _ => True) (okp := fun _ => True) (k31_mkM _ _ _ z31 (Kd.R_nil _ _ _ _ _) (Kd.R_nil _ _ _ _ _)) (fun _ hk => hk) trivial (od_) (Nat.le_trans (Nat.mul_le_mul_right _ (od_ : (l0.length : Int).toNat ≤ 5026338869833)) (by omega)) (Below.refl _ _) (Nat.le_refl _) ?_; intro cP w4 ho5 hb hg_ hnew_; clear hg_ hnew_; (first | rw [← bx.out] at ho5 | (simp only [Int.reduceToNat] at ho5; rw [← bx.out] at ho5)); have b4 := A_ (Kd.S_lower ho5 (below_size (tb_ HB.out))); replace HB := bs_ HB hb; clear hb ho5))
 go_loopg [4] k (fun kq v4 w' => ∃ (aj : List (S31)) (aa : Int), v4 = .int .i64 aa ∧ Aside0 (laws_toPlaceS.l0 kq l0 aj aa = some r) ∧ Aside0 (kq ≤ k) ∧ Aside0 (Kd.S k31 31 w' w.heap.size (fun _ => True) cP aj) ∧ Aside0 (Below w.heap.size w w'))
 case atStart => exact ⟨(b3), (0), tx_, H', ⟨Nat.le_refl _⟩, ⟨rS_ b4.out⟩, ⟨(tb_ HB.out)⟩⟩
 case round =>
  clear H'; (try clear c2); (try clear bG); (try clear bH); (try clear c3); (try clear aq); (try clear aI); obtain ⟨aj, aa, rfl, HA, HK1, ai, HB⟩ := hrel
  cases gk with
  | zero => exact absurd HA.out (by simp [laws_toPlaceS.l0])
  | succ k1 =>
   have H := HA.out; clear HA; simp only [laws_toPlaceS.l0] at H; replace H := it_ H; rcases H with ⟨bg, H⟩ | ⟨bg, H⟩
   ·
    replace H := in_ H; obtain ⟨bh, H⟩ := H; obtain ⟨⟨bn, a7, bo⟩, A8, H⟩ := bnd_ H; (try dsimp only at H); replace H := in_ H; obtain ⟨dw, H⟩ := H; obtain ⟨bJ, bm⟩ : ∃ y_ : List (S31), y_ = (aj.set (aa : Int).toNat (⟨bn, a7, bo⟩ : S31)) := ⟨_, rfl⟩
    replace H : (laws_toPlaceS.l0 k1 l0 bJ (wrap64 (aa + 1))) = some r := yq_ bm H; have b5 := A_ bm; clear bm; have H' := A_ H; clear H; have p126 : 0 ≤ (aa : Int) := od_; have q126 : aa < (l0.length : Int) := od_; obtain ⟨ad126, bK, bL, bM, bN, e126, az, aA, aB, hl126_0, hi126_0, hl126_2, hi126_2⟩ := at_T24 HR0.out aa p126 q126; cases e126; replace az := (HB.out.cell (World.block_lt_of_cell? w _ az)).trans az; replace aA := (HB.out.cell (World.block_lt_of_cell? w _ aA)).trans aA; replace aB := (HB.out.cell (World.block_lt_of_cell? w _ aB)).trans aB; have ce := A_ hi126_0; have bp := A_ hl126_0; clear hi126_0 hl126_0; have cf := A_ hi126_2; have bq := A_ hl126_2; clear hi126_2 hl126_2; replace p126 := eq_true p126; replace q126 := eq_true q126; go_wp2_with (first | ((with_reducible refine gate_callee (f := 26) rfl ?_); refine gl_ (some 20) Tryd.func26 #[.agg #[.slice bK ((rd_T24 l0 aa).f0).length bL, .int .i64 ((rd_T24 l0 aa).f1), .slice bM ((rd_T24 l0 aa).f2).length bN]] ?_; (with_reducible refine (laws_toPlace.calls k1 _ _ ((rd_T24 l0 aa).f0) ((rd_T24 l0 aa).f1) _ _ ((rd_T24 l0 aa).f2) bn a7 bo _ ?s1 ?s2 ?s3 ?s4 A8.out).mono ?_); (case s1 => exact tD_); (case s2 => exact bp.out); (case s3 => exact tD_); (case s4 => exact bq.out); rintro e a6 ⟨br, bs, rfl, ho0, ho1, hb⟩; refine ⟨_, rfl, ?_⟩; replace ai := eS_ (tSR_ (tSR_ (Kd.S_old (rS_ ai.out) hb) ho0) ho1); have aU := rx_ ho0 HB; have aV := rx_ ho1 HB; replace HB := bs_ HB hb; (try clear hb ho0 ho1); have p10 : 0 ≤ (aa : Int) := od_; have q10 : (aa : Int) < ((aj.length : Int) : Int) := od_; obtain ⟨go10, b6, b7, b8, gl10, cl10, HG10⟩ := Kd.S_form ai.out (by omega); (first | cases b7 | (injection b7 with ea_ en_ ec_; (first | subst ea_ | (injection ea_ with ea_; subst ea_)); subst ec_; clear en_)); have GB10 := A_ b8; have GG10 := A_ HG10; clear b8 gl10 HG10; obtain ⟨_, ce10, hcl10, hM10, hcc10, hfr10, _, _⟩ := Kd.S_elem ai.out z31 (aa : Int) p10 q10; obtain ⟨ve10_0, ve10_2, rfl, ge10_0, ge10_2⟩ := k31_openM hM10; have cQ : a6.cell? ⟨go10, (aa : Int).toNat * 3, none⟩ = some (ve10_0) := hcc10 0 _ rfl; have cR : a6.cell? ⟨go10, (aa : Int).toNat * 3 + 1, none⟩ = some (.int .i64 ((rd_T31 aj aa).f1)) := hcc10 1 _ rfl; have cS : a6.cell? ⟨go10, (aa : Int).toNat * 3 + 2, none⟩ = some (ve10_2) := hcc10 2 _ rfl; have hf10_0 : a6.frozen? ⟨go10, (aa : Int).toNat * 3, none⟩ = false := hfr10 0; have hf10_1 : a6.frozen? ⟨go10, (aa : Int).toNat * 3 + 1, none⟩ = false := hfr10 1; have hf10_2 : a6.frozen? ⟨go10, (aa : Int).toNat * 3 + 2, none⟩ = false := hfr10 2; clear hcl10 hcc10 hfr10 hM10; replace p10 := eq_true p10; replace q10 := eq_true q10; have n_ := A_ (Kd.S_mono (ok' := (fun k_ => some k_ ≠ (br : Value).ownBlock ∧ some k_ ≠ (bs : Value).ownBlock)) ai.out (fun k_ hk => ⟨hk.1.2, hk.2⟩)); clear ai; have ai := n_; clear n_; have HX12 := A_ (show Kd.S k31 31 a6 w.heap.size (fun k_ => ((fun _ => True)) k_ ∧ ¬ ((fun k_ => some k_ = (br : Value).ownBlock ∨ some k_ = (bs : Value).ownBlock)) k_) (.slice (some ⟨go10, 0, none⟩) aj.length b6) aj from (by refine qS_ ?_; exact Kd.S_mono ai.out (fun k_ hk => ⟨trivial, fun e_ => e_.elim (fun h_ => hk.1 h_) (fun h_ => hk.2 h_)⟩))); obtain ⟨oki12, ce12, hcl12, hM12, hcc12, hfr12, hoki12, hH12⟩ := Kd.S_elem HX12.out z31 (aa : Int) (od_) (by have h_ : (aa : Int) < ((aj.length : Int) : Int) := od_; first | exact h_ | (have e_ := (Kd.S_reads' ai.out).1; omega) | simpa using h_); obtain ⟨ve12_0, ve12_2, rfl, ge12_0, ge12_2⟩ := k31_openM hM12; have HP12 := Kd.S_seg hH12 (od_) (by have h_ : (aa : Int) < ((aj.length : Int) : Int) := od_; first | exact h_ | (have e_ := (Kd.S_reads' ai.out).1; omega) | simpa using h_) (seg := [br, .int .i64 a7, bs]) (j := 0) (show 3 ≤ 3 from by decide) (x' := (⟨bn, a7, bo⟩ : S31)) (k31_mkM _ _ _ (⟨bn, a7, bo⟩ : S31) (Kd.R_mono (Kd.R_tight rfl (Kd.R_mono (ok' := fun k_ => ((fun _ => True)) k_ ∧ k_ ≠ go10) (Kd.R_apart' (aU.out) (Kd.S_typed ai.out) (by decide)) (fun k_ hk => ⟨trivial, fun e_ => (hk.2) (by rw [e_]; rfl)⟩))) (fun _ h_ => Or.inr (Or.inl h_))) (Kd.R_mono (Kd.R_tight rfl (Kd.R_mono (ok' := fun k_ => ((fun _ => True)) k_ ∧ k_ ≠ go10) (Kd.R_apart' (aV.out) (Kd.S_typed ai.out) (by decide)) (fun k_ hk => ⟨trivial, fun e_ => (hk.2) (by rw [e_]; rfl)⟩))) (fun _ h_ => Or.inr (Or.inr (h_))))) (fun _ hk => hk) (fun k_ hk_ => hk_.elim (fun h_ => ((Kd.R_mono (ok' := fun k_ => ((fun _ => True)) k_ ∧ k_ ≠ go10) (Kd.R_apart' (aU.out) (Kd.S_typed ai.out) (by decide)) (fun k_ hk => ⟨trivial, fun e_ => (hk.2) (by rw [e_]; rfl)⟩))).1 k_ h_.symm) (fun h_ => ((Kd.R_mono (ok' := fun k_ => ((fun _ => True)) k_ ∧ k_ ≠ go10) (Kd.R_apart' (aV.out) (Kd.S_typed ai.out) (by decide)) (fun k_ hk => ⟨trivial, fun e_ => (hk.2) (by rw [e_]; rfl)⟩))).1 k_ h_.symm)); have bO := hcc12 0 _ rfl; (try simp only [show (k31).sz = 3 from rfl, Nat.mul_one, Nat.add_zero] at bO); have hf12_0 := hfr12 0; (try simp only [show (k31).sz = 3 from rfl, Nat.mul_one, Nat.add_zero] at hf12_0); have bP := hcc12 1 _ rfl; (try simp only [show (k31).sz = 3 from rfl, Nat.mul_one, Nat.add_zero] at bP); have hf12_1 := hfr12 1; (try simp only [show (k31).sz = 3 from rfl, Nat.mul_one, Nat.add_zero] at hf12_1); have bQ := hcc12 2 _ rfl; (try simp only [show (k31).sz = 3 from rfl, Nat.mul_one, Nat.add_zero] at bQ); have hf12_2 := hfr12 2; (try simp only [show (k31).sz = 3 from rfl, Nat.mul_one, Nat.add_zero] at hf12_2); clear hcl12 hcc12 hfr12 hM12 hoki12 hH12) | ((with_reducible refine gate_store (t := 31) (p := 21) rfl ?_); refine store_event (t := 31) (p := 21) (v := ?vo_w13) (w1 := (((a6.setCell ⟨go10, (aa : Int).toNat * 3, none⟩ (br)).setCell ⟨go10, (aa : Int).toNat * 3 + 1, none⟩ (.int .i64 a7)).setCell ⟨go10, (aa : Int).toNat * 3 + 2, none⟩ (bs))) ?hg ?ho ?hn ?hr ?_; (case ho => rfl); (case hg => rfl); (case hn => rfl); (case hr => first | (go_simp; done) | (go_simp; rfl) | (obtain ⟨_, _, ef0_⟩ := Kd.R_slice aU.out; obtain ⟨_, _, ef1_⟩ := Kd.R_slice aV.out; simp only [ef0_, ef1_]; go_simp; first | done | rfl)); intro cT hw; have hg : a6.grownBy cT (some go10) := (by rw [hw]; exact HP12.2); have hp_ : Kd.S k31 31 cT w.heap.size (fun _ => True) (.slice (some ⟨go10, 0, none⟩) aj.length b6) bJ := (by rw [hw, b5.out]; exact HP12.1); clear HP12; replace ai := A_ (hp_); replace HB := A_ ((by rw [hw]; exact below_set (below_set (below_set (HB.out) GB10.out) GB10.out) GB10.out : Below w.heap.size w cT)); clear aU aV hg hw hp_))
    go_roundg k1
    case measure => have := HK1.out; omega
    case rel => exact ⟨(bJ), (wrap64 (aa + 1)), tx_, H', ⟨by have := HK1.out; omega⟩, ⟨rS_ ai.out⟩, ⟨(tb_ HB.out)⟩⟩
   ·
    obtain rfl := Option.some.inj H; go_wp2; go_ret; exact ⟨_, tw_, by refine qS_ ?_; exact ai.out, (tb_ HB.out)⟩
/-! ### laws_toDesk: function 7 -/
def laws_toDesk.f (k : Nat) (ac : List Int) (a0_1 : Int) (ad : List Int) (ap : List (S24)) : Option (List Int × Int × List Int × (List (S31))) := (laws_toPlace.f k ac a0_1 ad).bind fun au => ((laws_toPlaceS.f k ap).bind fun ar => (some (au.1, au.2.1, au.2.2, ar)))
theorem laws_toDesk.mono : ∀ a0 a1 a2 a3 k, LeO (laws_toDesk.f k a0 a1 a2 a3) (laws_toDesk.f (k + 1) a0 a1 a2 a3) := by
 intro a0 a1 a2 a3 k; unfold laws_toDesk.f; repeat' (with_reducible first | exact laws_toPlace.mono _ _ _ _ | exact laws_toPlaceS.mono _ _ | exact mr_ | exact mn_ | refine mi_ ?_ ?_ | refine mb_ ?_ (fun _ => ?_))
theorem laws_toDesk.calls (k : Nat) (ak : Option Addr) (al : Nat) (ac : List Int) (a0_1 : Int) (am : Option Addr) (an : Nat) (ad : List Int) (aG : Option Addr) (aH : Nat) (ap : List (S24)) (r1 : List Int) (r2 : Int) (r3 : List Int) (r4 : List (S31)) (w : World) (hr0_0 : Kd.C (Kd.int .i64) w ak ac.length ac) (hc0_0 : ac.length ≤ al) (hr0_2 : Kd.C (Kd.int .i64) w am ad.length ad) (hc0_2 : ad.length ≤ an) (hr0_3 : Kd.C k24 w aG ap.length ap) (hc0_3 : ap.length ≤ aH) (h : laws_toDesk.f k ac a0_1 ad ap = some (r1, r2, r3, r4)) :
  Calls Tryd.prog 7 #[.agg #[.slice ak ac.length al, .int .i64 a0_1, .slice am ad.length an, .slice aG ap.length aH]] w fun e w' => ∃ v0_ v2_ v3_ : Value, e = .returned (.agg #[v0_, .int .i64 r2, v2_, v3_]) ∧ Kd.R (Kd.int .i64) 3 w' w.heap.size (fun k_ => some k_ ≠ (v2_ : Value).ownBlock) v0_ r1 ∧ Kd.R (Kd.int .i64) 3 w' w.heap.size (fun k_ => some k_ ≠ (v0_ : Value).ownBlock) v2_ r3 ∧ Kd.S k31 31 w' w.heap.size (fun k_ => some k_ ≠ (v0_ : Value).ownBlock ∧ some k_ ≠ (v2_ : Value).ownBlock) v3_ r4 ∧ Below w.heap.size w w' := by
 have hu27 := Tryd.underlying27; have hu34 := Tryd.underlying34; have hu24 := Tryd.underlying24; have hu31 := Tryd.underlying31; have dj := A_ hr0_0; have b9 := A_ hc0_0; clear hr0_0 hc0_0; have dk := A_ hr0_2; have ca := A_ hc0_2; clear hr0_2 hc0_2; have cb := A_ hr0_3; have cc := A_ hc0_3; clear hr0_3 hc0_3; have HB := A_ (Below.refl w.heap.size w); have H : ((laws_toPlace.f k ac a0_1 ad).bind fun au => ((laws_toPlaceS.f k ap).bind fun ar => (some (au.1, au.2.1, au.2.2, ar)))) = some (r1, r2, r3, r4) := h; clear h; obtain ⟨⟨av, aw, ax⟩, A2, H⟩ := bnd_ H; (try dsimp only at H); obtain ⟨ar, A3, H⟩ := bnd_ H; (try dsimp only at H); simp only [Option.some.injEq, Prod.mk.injEq] at H; obtain ⟨rfl, rfl, rfl, rfl⟩ := H; go_enter Tryd.func7, Tryd.ntmps7; go_wp2_with (first | ((with_reducible refine gate_dst (N := 1) rfl ?_); refine be_ 1 #[.slice ak ac.length al, .int .i64 a0_1, .slice am ad.length an, .slice aG ap.length aH] 27 ?_; intro dl hg w4 ae hb; have dm := gx_ HB hg; have dn := gx_ HB hg; replace HB := bs_ HB hb; clear hb hg) | ((with_reducible refine gate_dst (N := 2) rfl ?_); refine be_ 2 #[.slice none 0 0, .int .i64 0, .slice none 0 0, .slice none 0 0] 34 ?_; intro ao hg w5 ag hb; have dp := gx_ HB hg; have dq := gx_ HB hg; replace HB := bs_ HB hb; have a8 := nl_ ae hg; have a9 := ng_ ae hg; replace ae := bb_ ae hb; clear hb hg) | ((with_reducible refine gate_dst (N := 3) rfl ?_); refine be_ 3 #[.slice none 0 0, .int .i64 0, .slice none 0 0, .slice none 0 0] 34 ?_; intro ah hg w6 af hb; have dr := gx_ HB hg; have ds := gx_ HB hg; replace HB := bs_ HB hb; have bb := nl_ ae hg; have bc := ng_ ae hg; replace ae := bb_ ae hb; have bd := nl_ ag hg; have be := ng_ ag hg; replace ag := bb_ ag hb; clear hb hg; have dx := a8.out; have dy := a9.out; have dz := bb.out; have dA := bc.out; obtain ⟨cU, cV, cW, cX, cY, cZ, da, db⟩ := cf4_ ae) | ((with_reducible refine gate_callee (f := 26) rfl ?_); refine gl_ (some 6) Tryd.func26 #[.agg #[.slice ak ac.length al, .int .i64 a0_1, .slice am ad.length an]] ?_; (with_reducible refine (laws_toPlace.calls k _ _ ac a0_1 _ _ ad av aw ax _ ?s1 ?s2 ?s3 ?s4 A2.out).mono ?_); (case s1 => exact tD_); (case s2 => exact b9.out); (case s3 => exact tD_); (case s4 => exact ca.out); rintro e dE ⟨dB, dC, rfl, ho0, ho1, hb⟩; refine ⟨_, rfl, ?_⟩; have aJ := rx_ ho0 HB; have aK := rx_ ho1 HB; replace ae := bb_ ae hb; replace ag := bb_ ag hb; replace af := bb_ af hb; replace HB := bs_ HB hb; (try clear hb ho0 ho1); obtain ⟨aC, aD, dc⟩ := Kd.R_slice aJ.out; subst dc; have dt := be.out; have du := bd.out; obtain ⟨cg, ch, ci, cj, ck, cm, cn, co⟩ := cf4_ af; obtain ⟨aE, aF, dd⟩ := Kd.R_slice aK.out; subst dd; obtain ⟨cp, cq, cr, ct, cu, cv, cw, cx⟩ := cf4_ ae) | ((with_reducible refine gate_callee (f := 27) rfl ?_); refine gl_ (some 10) Tryd.func27 #[.slice aG ap.length aH] ?_; (with_reducible refine (laws_toPlaceS.calls k _ _ ap ar _ ?s1 ?s2 A3.out).mono ?_); (case s1 => exact Kd.C_below cb.out (tb_ HB.out)); (case s2 => exact cc.out); rintro e dF ⟨dD, rfl, ho0, hb⟩; refine ⟨_, rfl, ?_⟩; have bz := sx_ (nS_ (nS_ ho0 (lR_ aJ)) (lR_ aK)) HB; replace aJ := A_ (Kd.R_below (wR_ aJ af) hb); replace aK := A_ (Kd.R_below (wR_ aK af) hb); replace ae := bb_ ae hb; replace ag := bb_ ag hb; replace af := bp_ #[.slice aC av.length aD, .int .i64 aw, .slice aE ax.length aF, .slice none 0 0] af hb; replace HB := bs_ HB hb; (try clear hb ho0); obtain ⟨aO, aP, de⟩ := Kd.S_slice bz.out; subst de; obtain ⟨cy, cz, cA, cB, cC, cD, cE, cF⟩ := cf4_ af; obtain ⟨cG, cH, cI, cJ, cK, cL, cM, cN⟩ := cf4_ ag)); refine bodyPost_ret (results_cell_row rfl _ _ ao 34 #[.slice aC av.length aD, .int .i64 aw, .slice aE ax.length aF, .slice aO ar.length aP] (0, 0) _ rfl (ps_ ag.out) Tryd.underlying34 rfl (by kernel_rfl)) rfl ?_; exact ⟨_, _, _, tw_, Kd.R_mono (zR_ aJ af ag) (fun _ hk => hk.1.1), Kd.R_mono (zR_ aK af ag) (fun _ hk => hk.1.1), Kd.S_mono (zS_ bz af ag) (fun _ hk => ⟨hk.1.1.1.2, hk.1.1.2⟩), (tb_ HB.out)⟩

/-! ### laws_eqIntS: function 62 -/
def laws_eqIntS.l0 : Nat → List Int → List Int → Int → Option (Bool)
 | 0, _, _, _ => none
 | k + 1, x0, x1, x5 => if x5 < (x0.length : Int) then (if 0 ≤ x5 then (if x5 < (x1.length : Int) then (if (rd x0 x5) = (rd x1 x5) then (laws_eqIntS.l0 k x0 x1 (wrap64 (x5 + 1))) else (some false)) else (none)) else (none)) else (some true)
def laws_eqIntS.f (k : Nat) (l0 : List Int) (l1 : List Int) : Option (Bool) := if (l0.length : Int) = (l1.length : Int) then (laws_eqIntS.l0 k l0 l1 0) else (some false)
theorem laws_eqIntS.mono_l : ∀ k, (∀ y0 y1 y2, LeO (laws_eqIntS.l0 k y0 y1 y2) (laws_eqIntS.l0 (k + 1) y0 y1 y2))
 | 0 => fun _ _ _ r h => by simp [laws_eqIntS.l0] at h
 | k + 1 => by
  have ih0 := laws_eqIntS.mono_l k
  ·
   intro y0 y1 y2
   unfold laws_eqIntS.l0
   repeat' (with_reducible first | exact ih0 _ _ _ | exact mr_ | exact mn_ | refine mi_ ?_ ?_ | refine mb_ ?_ (fun _ => ?_))
theorem laws_eqIntS.mono : ∀ a0 a1 k, LeO (laws_eqIntS.f k a0 a1) (laws_eqIntS.f (k + 1) a0 a1) := by
 intro a0 a1 k; have ih0 := laws_eqIntS.mono_l k; unfold laws_eqIntS.f; repeat' (with_reducible first | exact ih0 _ _ _ | exact mr_ | exact mn_ | refine mi_ ?_ ?_ | refine mb_ ?_ (fun _ => ?_))
theorem laws_eqIntS.calls (k : Nat) (A0 : Option Addr) (c0 : Nat) (l0 : List Int) (A1 : Option Addr) (c1 : Nat) (l1 : List Int) (r : Bool) (w : World) (hr0 : Kd.C (Kd.int .i64) w A0 l0.length l0) (hc0 : l0.length ≤ c0) (hr1 : Kd.C (Kd.int .i64) w A1 l1.length l1) (hc1 : l1.length ≤ c1) (h : laws_eqIntS.f k l0 l1 = some r) :
  Calls Tryd.prog 62 #[.slice A0 l0.length c0, .slice A1 l1.length c1] w fun e w' => e = .returned (.bool r) ∧ Drawn0 w w' := by
 have HR0 := A_ hr0; have HC0 := A_ hc0; clear hr0 hc0; have HR1 := A_ hr1; have HC1 := A_ hc1; clear hr1 hc1; have H : (if (l0.length : Int) = (l1.length : Int) then (laws_eqIntS.l0 k l0 l1 0) else (some false)) = some r := h; clear h; by_cases c3 : (l0.length : Int) = (l1.length : Int)
 ·
  rw [if_pos c3] at H; have aq : ((l0.length : Int) == (l1.length : Int)) = true := beq_iff_eq.mpr c3; have aI : ((l0.length : Int) != (l1.length : Int)) = false := bne_eq_false_iff_eq.mpr c3; have cd : (l0.length == l1.length) = true := by first | simpa using c3 | (simp at c3 ⊢; omega)
  clear c3; have H' := A_ H; clear H; go_enter Tryd.func62, Tryd.ntmps62; go_wp2; repeat (go_quiet (fail); try go_wp2)
  go_loopg [5] k (fun kq v5 w' => ∃ (ab : Int), v5 = .int .i64 ab ∧ Aside0 (laws_eqIntS.l0 kq l0 l1 ab = some r) ∧ Aside0 (kq ≤ k) ∧ Drawn0 w w')
  case atStart => exact ⟨(0), tx_, H', ⟨Nat.le_refl _⟩, dz_⟩
  case round =>
   clear H'; (try clear c3); (try clear aq); (try clear aI); (try clear cd); obtain ⟨ab, rfl, HA, HK1, ⟨m1, rfl⟩⟩ := hrel
   cases gk with
   | zero => exact absurd HA.out (by simp [laws_eqIntS.l0])
   | succ k1 =>
    have H := HA.out; clear HA; simp only [laws_eqIntS.l0] at H; replace H := it_ H; rcases H with ⟨bf, H⟩ | ⟨bf, H⟩
    ·
     replace H := in_ H; obtain ⟨bZ, H⟩ := H; replace H := in_ H; obtain ⟨bg, H⟩ := H; by_cases c7 : (rd l0 ab) = (rd l1 ab)
     ·
      rw [if_pos c7] at H; have bh : ((rd l0 ab) == (rd l1 ab)) = true := beq_iff_eq.mpr c7; have df : ((rd l0 ab) != (rd l1 ab)) = false := bne_eq_false_iff_eq.mpr c7; clear c7; have H' := A_ H; clear H; obtain ⟨p148, q148, ad148, e148, bu⟩ := a2_ (Kd.at_int HR0.out ab); cases e148; obtain ⟨p149, q149, ad149, e149, bv⟩ := a2_ (Kd.at_int HR1.out ab); cases e149; go_wp2; repeat (go_quiet (fail); try go_wp2)
      go_roundg k1
      case measure => have := HK1.out; omega
      case rel => exact ⟨(wrap64 (ab + 1)), tx_, H', ⟨by have := HK1.out; omega⟩, dz_⟩
     ·
      rw [if_neg c7] at H; have bh : ((rd l0 ab) == (rd l1 ab)) = false := beq_eq_false_iff_ne.mpr c7; have df : ((rd l0 ab) != (rd l1 ab)) = true := bne_iff_ne.mpr c7; obtain rfl := Option.some.inj H; obtain ⟨p148, q148, ad148, e148, bu⟩ := a2_ (Kd.at_int HR0.out ab); cases e148; obtain ⟨p149, q149, ad149, e149, bv⟩ := a2_ (Kd.at_int HR1.out ab); cases e149; go_wp2; repeat (go_quiet (fail); try go_wp2)
      go_ret; exact ⟨tx_, dz_⟩
    ·
     obtain rfl := Option.some.inj H; go_wp2; repeat (go_quiet (fail); try go_wp2)
     go_ret; exact ⟨tx_, dz_⟩
 ·
  rw [if_neg c3] at H; have aq : ((l0.length : Int) == (l1.length : Int)) = false := beq_eq_false_iff_ne.mpr c3; have aI : ((l0.length : Int) != (l1.length : Int)) = true := bne_iff_ne.mpr c3; have cd : (l0.length == l1.length) = false := by first | simpa using c3 | (simp at c3 ⊢; omega)
  obtain rfl := Option.some.inj H; go_enter Tryd.func62, Tryd.ntmps62; go_wp2; repeat (go_quiet (fail); try go_wp2)
  go_ret; exact ⟨tx_, dz_⟩

/-! ### laws_eqPlace: function 35 -/
def laws_eqPlace.f (k : Nat) (ac : List Int) (a0_1 : Int) (ad : List Int) (aQ : List Int) (a1_1 : Int) (aR : List Int) : Option (Bool) := (laws_eqIntS.f k ac aQ).bind fun bR => (if bR = true then (if a0_1 = a1_1 then ((laws_eqIntS.f k ad aR).bind fun bS => (if bS = true then (some true) else (some false))) else (some false)) else (some false))
theorem laws_eqPlace.mono : ∀ a0 a1 a2 a3 a4 a5 k, LeO (laws_eqPlace.f k a0 a1 a2 a3 a4 a5) (laws_eqPlace.f (k + 1) a0 a1 a2 a3 a4 a5) := by
 intro a0 a1 a2 a3 a4 a5 k; unfold laws_eqPlace.f; repeat' (with_reducible first | exact laws_eqIntS.mono _ _ _ | exact mr_ | exact mn_ | refine mi_ ?_ ?_ | refine mb_ ?_ (fun _ => ?_))
theorem laws_eqPlace.z0 {P_ : Prop} (h_ : P_ := by go_wp2_with (first | ((with_reducible refine gate_dst (N := 2) rfl ?_); refine al_ st ?_; clear st cl; intro g2 w_ st; have cl := cl_ st) | ((with_reducible refine gate_dst (N := 3) rfl ?_); refine al_ st ?_; clear st cl; intro g3 w_ st; have cl := cl_ st) | ((with_reducible refine gate_callee (f := 62) rfl ?_); refine ca_ (some 9) Tryd.func62 _ (laws_eqIntS.calls k ak al _ bU bV _ _ _ (gt_ st) (gt_ st) (gt_ st) (gt_ st) A_9.out) ?_; rintro e w_ ⟨rfl, hb⟩; refine ⟨_, rfl, ?_⟩; replace hb := hb.below; replace st := st.ev hb; clear cl hb; have cl := cl_ st) | ((with_reducible refine gate_callee (f := 62) rfl ?_); refine ca_ (some 20) Tryd.func62 _ (laws_eqIntS.calls k am an _ bW bX _ _ _ (gt_ st) (gt_ st) (gt_ st) (gt_ st) A_20.out) ?_; rintro e w_ ⟨rfl, hb⟩; refine ⟨_, rfl, ?_⟩; replace hb := hb.below; replace st := st.ev hb; clear cl hb; have cl := cl_ st)); (go_ret; exact ⟨tw_, st.b⟩)) : P_ := h_
theorem laws_eqPlace.calls (k : Nat) (ak : Option Addr) (al : Nat) (ac : List Int) (a0_1 : Int) (am : Option Addr) (an : Nat) (ad : List Int) (bU : Option Addr) (bV : Nat) (aQ : List Int) (a1_1 : Int) (bW : Option Addr) (bX : Nat) (aR : List Int) (r : Bool) (w : World) (hr0_0 : Kd.C (Kd.int .i64) w ak ac.length ac) (hc0_0 : ac.length ≤ al) (hr0_2 : Kd.C (Kd.int .i64) w am ad.length ad) (hc0_2 : ad.length ≤ an) (hr1_0 : Kd.C (Kd.int .i64) w bU aQ.length aQ) (hc1_0 : aQ.length ≤ bV) (hr1_2 : Kd.C (Kd.int .i64) w bW aR.length aR) (hc1_2 : aR.length ≤ bX) (h : laws_eqPlace.f k ac a0_1 ad aQ a1_1 aR = some r) :
  Calls Tryd.prog 35 #[.agg #[.slice ak ac.length al, .int .i64 a0_1, .slice am ad.length an], .agg #[.slice bU aQ.length bV, .int .i64 a1_1, .slice bW aR.length bX]] w fun e w' => e = .returned (.bool r) ∧ Below w.heap.size w w' := by
 have hu31 := Tryd.underlying31; have st := ((((ST.nil w).c hr0_0 hc0_0).c hr0_2 hc0_2).c hr1_0 hc1_0).c hr1_2 hc1_2; have s0 := st; have cl := cl_ st; have H := h; clear h; unfold laws_eqPlace.f at H; go_enter Tryd.func35, Tryd.ntmps35; obtain ⟨bR, A_9, H⟩ := bnd_ H; rcases bx_ bR with rfl | rfl
 ·
  replace H := bt_ H; by_cases c3 : a0_1 = a1_1
  ·
   rw [if_pos c3] at H; have aq : (a0_1 == a1_1) = true := beq_iff_eq.mpr c3; have aI : (a0_1 != a1_1) = false := bne_eq_false_iff_eq.mpr c3; clear c3; obtain ⟨bS, A_20, H⟩ := bnd_ H; rcases bx_ bS with rfl | rfl
   ·
    replace H := bt_ H; obtain rfl := Option.some.inj H; exact laws_eqPlace.z0
   ·
    replace H := bf_ H; obtain rfl := Option.some.inj H; exact laws_eqPlace.z0
  ·
   rw [if_neg c3] at H; have aq : (a0_1 == a1_1) = false := beq_eq_false_iff_ne.mpr c3; have aI : (a0_1 != a1_1) = true := bne_iff_ne.mpr c3; obtain rfl := Option.some.inj H; exact laws_eqPlace.z0
 ·
  replace H := bf_ H; obtain rfl := Option.some.inj H; exact laws_eqPlace.z0

end Go.Proofs.YtmodbemkflkbeaaDoor.MFnExactDeskRun
