/- For the law FnExactStoreOpen: walks of the functions that it reaches: each call returns what the plain function beside it tells. The conditions stand in each statement. -/
import Derived.Test.YtmodbemkflkbeaaGreatDoorV
import Derived.Test.YtmodbemkflkbeaaGreatDoorMFnExactStoreOpenx0
import Derived.Test.YtmodbemkflkbeaaGreatDoorMFnExactStoreOpenx2
import Derived.Test.YtmodbemkflkbeaaGreatDoorMFnExactStoreOpenx3
namespace Go.Proofs.YtmodbemkflkbeaaGreatDoor.MFnExactStoreOpen
open Go.RowKit Go.Proofs.YtmodbemkflkbeaaGreatDoorW.PrintWords Go.Proofs.YtmodbemkflkbeaaGreatDoorW.PrintLast Go.Proofs.YtmodbemkflkbeaaGreatDoorW.PrintMore
attribute [local go_sem] max2_int min2_int max_two min_two max_three min_three max_four min_four   -- for this text's walks alone
set_option linter.unusedVariables false
set_option linter.unusedSimpArgs false
set_option maxHeartbeats 8000000
set_option maxRecDepth 100000

/-! ### spec_SameRule: function 53 -/
def spec_SameRule.l0 : Nat → Int → Int → List (List Int) → Int → Option ((List (List Int)))
 | 0, _, _, _, _ => none
 | k + 1, x0, x1, x5, x6 => if x6 < x0 then ((spec_l1In.f x0 1 3).bind fun aY => (if aY = true then ((spec_l1In.f x1 (-1) 3).bind fun ax => (if ax = true then (if 0 ≤ x0 then (if (x0 : Int).toNat ≤ 35184372088832 then ((some (List.replicate (x0 : Int).toNat 0 : List Int)).bind fun ab => (if 0 ≤ x6 then (if x6 < (ab.length : Int) then (if x5.length < 5864062014805 then (spec_SameRule.l0 k x0 x1 (x5 ++ [(ab.set (x6 : Int).toNat x1)]) (wrap64 (x6 + 1))) else (none)) else (none)) else (none))) else (none)) else (none)) else (some x5))) else (some x5))) else (some x5)
def spec_SameRule.f (k : Nat) (a0 : Int) (a1 : Int) : Option ((List (List Int))) := spec_SameRule.l0 k a0 a1 (([] : List (List Int))) 0
theorem spec_SameRule.mono_l : ∀ k, (∀ y0 y1 y2 y3, LeO (spec_SameRule.l0 k y0 y1 y2 y3) (spec_SameRule.l0 (k + 1) y0 y1 y2 y3))
 | 0 => fun _ _ _ _ r h => by simp [spec_SameRule.l0] at h
 | k + 1 => by
  have ih0 := spec_SameRule.mono_l k
  ·
   intro y0 y1 y2 y3
   unfold spec_SameRule.l0
   repeat' (with_reducible first | exact ih0 _ _ _ _ | exact mr_ | exact mn_ | refine mi_ ?_ ?_ | refine mb_ ?_ (fun _ => ?_))
theorem spec_SameRule.mono : ∀ a0 a1 k, LeO (spec_SameRule.f k a0 a1) (spec_SameRule.f (k + 1) a0 a1) := by
 intro a0 a1 k; have ih0 := spec_SameRule.mono_l k; unfold spec_SameRule.f; repeat' (with_reducible first | exact ih0 _ _ _ _ | exact mr_ | exact mn_ | refine mi_ ?_ ?_ | refine mb_ ?_ (fun _ => ?_))
theorem spec_SameRule.calls (k : Nat) (a0 : Int) (a1 : Int) (r : List (List Int)) (w : World) (h : spec_SameRule.f k a0 a1 = some r) :
  Calls Tryz.prog 53 #[.int .i64 a0, .int .i64 a1] w fun e w' => ∃ v0_ : Value, e = .returned (v0_) ∧ Kd.S (Kd.slice 3 (Kd.int .i64)) 25 w' w.heap.size (fun _ => True) v0_ r ∧ Below w.heap.size w w' := by
 have HB := A_ (Below.refl w.heap.size w); have H : (spec_SameRule.l0 k a0 a1 (([] : List (List Int))) 0) = some r := h; clear h; obtain ⟨a5, ay⟩ : ∃ y_ : List (List Int), y_ = (([] : List (List Int))) := ⟨_, rfl⟩
 replace H : (spec_SameRule.l0 k a0 a1 a5 0) = some r := yq_ ay H; have aR := A_ ay; clear ay; have H' := A_ H; clear H; go_enter Tryz.func53, Tryz.ntmps53; go_wp2_with (first | ((with_reducible refine gate_dst (N := 8) rfl ?_); refine Kd.S_lit (Kd.slice 3 (Kd.int .i64)) _ 25 ?hg (N := 8) ?hd (xs := ([] : List (List Int))) (inner := []) (ok := fun _ => True) (okp := fun _ => True) ?hr ?hp (fun _ hk => hk) trivial (Below.refl _ _) (Nat.le_refl _) (by simp) ?_; (case hd => rfl); (case hg => rfl); (case hr => first | (go_simp; done) | (go_simp; rfl)); (case hp => exact (Reps.none _ _)); intro bz w3 ho4 hb hg_ hnew_; clear hg_ hnew_; (first | rw [← aR.out] at ho4 | (simp only [Int.reduceToNat] at ho4; rw [← aR.out] at ho4)); have a6 := A_ (Kd.S_lower ho4 (below_size (tb_ HB.out))); replace HB := bs_ HB hb; clear hb ho4))
 go_loopg [5, 6] k (fun kq v5 v6 w' => ∃ (ac : List (List Int)) (aa : Int), v6 = .int .i64 aa ∧ Aside0 (spec_SameRule.l0 kq a0 a1 ac aa = some r) ∧ Aside0 (kq ≤ k) ∧ Aside0 (Kd.S (Kd.slice 3 (Kd.int .i64)) 25 w' w.heap.size (fun _ => True) v5 ac) ∧ Aside0 (Below w.heap.size w w'))
 case atStart => exact ⟨(a5), (0), tx_, H', ⟨Nat.le_refl _⟩, ⟨rS_ a6.out⟩, ⟨(tb_ HB.out)⟩⟩
 case round =>
  clear H'; obtain ⟨ac, aa, rfl, HA, HK1, ae, HB⟩ := hrel
  cases gk with
  | zero => exact absurd HA.out (by simp [spec_SameRule.l0])
  | succ k1 =>
   have H := HA.out; clear HA; simp only [spec_SameRule.l0] at H; replace H := it_ H; rcases H with ⟨a7, H⟩ | ⟨a7, H⟩
   ·
    obtain ⟨aY, A6, H⟩ := bnd_ H; (try dsimp only at H); by_cases c7 : aY = true
    ·
     subst c7; replace H : ((spec_l1In.f a1 (-1) 3).bind fun ax => (if ax = true then (if 0 ≤ a0 then (if (a0 : Int).toNat ≤ 35184372088832 then ((some (List.replicate (a0 : Int).toNat 0 : List Int)).bind fun ab => (if 0 ≤ aa then (if aa < (ab.length : Int) then (if ac.length < 5864062014805 then (spec_SameRule.l0 k1 a0 a1 (ac ++ [(ab.set (aa : Int).toNat a1)]) (wrap64 (aa + 1))) else (none)) else (none)) else (none))) else (none)) else (none)) else (some ac))) = some r := by rw [if_pos rfl] at H; exact H
     obtain ⟨ax, A8, H⟩ := bnd_ H; (try dsimp only at H); by_cases c9 : ax = true
     ·
      subst c9; replace H : (if 0 ≤ a0 then (if (a0 : Int).toNat ≤ 35184372088832 then ((some (List.replicate (a0 : Int).toNat 0 : List Int)).bind fun ab => (if 0 ≤ aa then (if aa < (ab.length : Int) then (if ac.length < 5864062014805 then (spec_SameRule.l0 k1 a0 a1 (ac ++ [(ab.set (aa : Int).toNat a1)]) (wrap64 (aa + 1))) else (none)) else (none)) else (none))) else (none)) else (none)) = some r := by rw [if_pos rfl] at H; exact H
      replace H := i0_ H; obtain ⟨c10, H⟩ := H; have aU := eq_true c10; have aV : decide (0 ≤ a0) = true := decide_eq_true c10; clear c10; replace H := i0_ H; obtain ⟨c11, H⟩ := H; have bq := eq_true c11; have br : decide ((a0 : Int).toNat ≤ 35184372088832) = true := decide_eq_true c11; clear c11; obtain ⟨ab, az⟩ : ∃ y_ : List Int, y_ = (List.replicate (a0 : Int).toNat 0) := ⟨_, rfl⟩
      replace H : (if 0 ≤ aa then (if aa < (ab.length : Int) then (if ac.length < 5864062014805 then (spec_SameRule.l0 k1 a0 a1 (ac ++ [(ab.set (aa : Int).toNat a1)]) (wrap64 (aa + 1))) else (none)) else (none)) else (none)) = some r := yq_ az H; have aW := A_ az; clear az; replace H := in_ H; obtain ⟨bs, H⟩ := H; replace H := in_ H; obtain ⟨bu, H⟩ := H; obtain ⟨aK, aA⟩ : ∃ y_ : List Int, y_ = (ab.set (aa : Int).toNat a1) := ⟨_, rfl⟩
      replace H : (if ac.length < 5864062014805 then (spec_SameRule.l0 k1 a0 a1 (ac ++ [aK]) (wrap64 (aa + 1))) else (none)) = some r := yq_ aA H; have a8 := A_ aA; clear aA; replace H := il_ H; obtain ⟨a9, H⟩ := H; obtain ⟨bb, aC⟩ : ∃ y_ : List (List Int), y_ = (ac ++ [aK]) := ⟨_, rfl⟩
      replace H : (spec_SameRule.l0 k1 a0 a1 bb (wrap64 (aa + 1))) = some r := yq_ aC H; have bc := A_ aC; clear aC; have H' := A_ H; clear H; go_wp2_with (first | (go_at_call 23; (with_reducible refine (spec_l1In.calls a0 1 3 true _ A6.out).mono ?_); rintro e w' ⟨rfl, ⟨nd, rfl⟩⟩; (try (rw [drewN_self wr]; generalize hq_ : World.drewN wr _ = wr; have n0_ : Aside0 (Kd.S (Kd.slice 3 (Kd.int .i64)) 25 wr w.heap.size (fun _ => True) u5 ac) := ⟨by rw [← hq_]; exact (rS_ ae.out)⟩; have n1_ : Aside0 (Below w.heap.size w wr) := ⟨by rw [← hq_]; exact (tb_ HB.out)⟩; clear ae HB hq_; have ae := n0_; have HB := n1_; clear n0_ n1_))) | (go_at_call 23; (with_reducible refine (spec_l1In.calls a1 (-1) 3 true _ A8.out).mono ?_); rintro e w' ⟨rfl, ⟨nd, rfl⟩⟩; (try (rw [drewN_self wr]; generalize hq_ : World.drewN wr _ = wr; have n0_ : Aside0 (Kd.S (Kd.slice 3 (Kd.int .i64)) 25 wr w.heap.size (fun _ => True) u5 ac) := ⟨by rw [← hq_]; exact (rS_ ae.out)⟩; have n1_ : Aside0 (Below w.heap.size w wr) := ⟨by rw [← hq_]; exact (tb_ HB.out)⟩; clear ae HB hq_; have ae := n0_; have HB := n1_; clear n0_ n1_))) | ((with_reducible refine gate_dst (N := 23) rfl ?_); refine Kd.R_make (Kd.int .i64) _ 3 rfl (N := 23) rfl 25 _ _ rfl a0 rfl rfl Tryz.underlying25 (.int .i64 0) 8 info3 rfl (by decide) (by omega) 0 (ok := fun _ => True) (okp := fun _ => True) rfl (fun _ hk => hk) trivial (od_) (Nat.le_trans (Nat.mul_le_mul_right _ (od_ : a0.toNat ≤ 35184372088832)) (by omega)) (Below.refl _ _) (Nat.le_refl _) ?_; intro bB bv ho17 hb hg_ hnew_; clear hg_ hnew_; (first | rw [← aW.out] at ho17 | (simp only [Int.reduceToNat] at ho17; rw [← aW.out] at ho17)); replace ae := A_ (Kd.S_elder' (rS_ ae.out) (Kd.R_base ho17) hb); have aj := rx_ ho17 HB; replace HB := bs_ HB hb; clear hb ho17; have p14 : 0 ≤ (aa : Int) := od_; have q14 : (aa : Int) < ((ab.length : Int) : Int) := od_; obtain ⟨go14, aD, bd, be, gl14, cl14, HG14⟩ := Kd.R_form aj.out (by omega); (first | cases bd | (injection bd with ea_ en_ ec_; (first | subst ea_ | (injection ea_ with ea_; subst ea_)); subst ec_; clear en_)); have GB14 := A_ be; have GG14 := A_ HG14; clear be gl14 HG14; obtain ⟨bl, hf14_0⟩ := Kd.R_celln 0 aj.out (aa : Int) p14 q14; replace p14 := eq_true p14; replace q14 := eq_true q14; obtain ⟨hy18_, hz18_⟩ := Kd.R_celln 0 aj.out (aa : Int) (od_) (od_); have HP18 := Kd.R_putg aj.out (aa : Int) a1) | ((with_reducible refine gate_store (t := 3) (p := 27) rfl ?_); refine store_event (t := 3) (p := 27) (v := ?vo_w19) (w1 := (bv.setCell ⟨go14, (aa : Int).toNat, none⟩ (.int .i64 a1))) ?hg ?ho ?hn ?hr ?_; (case ho => rfl); (case hg => rfl); (case hn => rfl); (case hr => first | (go_simp; done) | (go_simp; rfl)); intro bm hw; have hg : bv.grownBy bm (some go14) := (by rw [hw]; exact HP18.2); have hp_ : Kd.R (Kd.int .i64) 3 bm w.heap.size (fun _ => True) (.slice (some ⟨go14, 0, none⟩) ab.length aD) aK := (by rw [hw, a8.out]; exact HP18.1); clear HP18; replace ae := A_ (Kd.S_after (v := (.slice (some ⟨go14, 0, none⟩) ab.length aD)) (v1 := (.slice (some ⟨go14, 0, none⟩) ab.length aD)) (ok := (fun _ => True)) (rS_ ae.out) hg (.inl rfl)); replace aj := A_ (hp_); replace HB := A_ ((by rw [hw]; exact below_set (HB.out) GB14.out : Below w.heap.size w bm)); clear hg hw hp_) | ((with_reducible refine gate_builtin (b := .append) (xs := #[.tmp 28, .tmp 30]) rfl ?_); at_builtin; refine Kd.S_append (Kd.slice 3 (Kd.int .i64)) (w0 := w) w.heap.size rfl (.tmp 28) (.tmp 30) 81 25 (.slice none 0 0) 24 rfl Tryz.underlying81 info25 rfl (by decide) (by omega) u5 ac aK [.slice (some ⟨go14, 0, none⟩) ab.length aD] (fun _ => True) (fun k_ => some k_ = (.slice (some ⟨go14, 0, none⟩) ab.length aD : Value).ownBlock) rfl rfl ?aP (fun k_ hk_ => ((Kd.R_mono (ok' := fun k_ => ((fun _ => True)) k_ ∧ some k_ ≠ (u5 : Value).ownBlock) (Kd.R_apart' (aj.out) (Kd.S_typed ae.out) (by decide)) (fun k_ hk => ⟨trivial, hk.2⟩))).1 k_ hk_.symm) ?aF ?aO ?aB ?aS ?aL ?_; (case aP => exact Kd.M_row (Kd.R_mono (Kd.R_tight rfl (Kd.R_mono (ok' := fun k_ => ((fun _ => True)) k_ ∧ some k_ ≠ (u5 : Value).ownBlock) (Kd.R_apart' (aj.out) (Kd.S_typed ae.out) (by decide)) (fun k_ hk => ⟨trivial, hk.2⟩))) (fun _ h_ => h_))); (case aB => exact (tb_ HB.out)); (case aF => exact (fun _ _ => trivial)); (case aO => exact (by refine qS_ ?_; exact Kd.S_mono ae.out (fun k_ hk => ⟨trivial, fun e_ => hk.2 e_⟩))); (case aS => exact (below_size (tb_ HB.out))); (case aL => have := a9.out; omega); intro bC bX ho hb hg hat; rw [← bc.out] at ho; replace HB := A_ (hb); have bf := A_ (ho); clear ae aj ho hb hg hat))
      go_roundg k1
      case measure => have := HK1.out; omega
      case rel => exact ⟨(bb), (wrap64 (aa + 1)), tx_, H', ⟨by have := HK1.out; omega⟩, ⟨rS_ bf.out⟩, ⟨(tb_ HB.out)⟩⟩
     ·
      replace c9 := Bool.eq_false_iff.mpr c9; subst c9; replace H : (some ac) = some r := by rw [if_neg (show ¬ (false = true) by decide)] at H; exact H
      obtain rfl := Option.some.inj H; go_wp2_with (first | (go_at_call 23; (with_reducible refine (spec_l1In.calls a0 1 3 true _ A6.out).mono ?_); rintro e w' ⟨rfl, ⟨nd, rfl⟩⟩) | (go_at_call 23; (with_reducible refine (spec_l1In.calls a1 (-1) 3 false _ A8.out).mono ?_); rintro e w' ⟨rfl, ⟨nd, rfl⟩⟩)); go_ret; exact ⟨_, tw_, by refine qS_ ?_; exact ae.out, (tb_ HB.out)⟩
    ·
     replace c7 := Bool.eq_false_iff.mpr c7; subst c7; replace H : (some ac) = some r := by rw [if_neg (show ¬ (false = true) by decide)] at H; exact H
     obtain rfl := Option.some.inj H; go_wp2_with (first | (go_at_call 23; (with_reducible refine (spec_l1In.calls a0 1 3 false _ A6.out).mono ?_); rintro e w' ⟨rfl, ⟨nd, rfl⟩⟩)); go_ret; exact ⟨_, tw_, by refine qS_ ?_; exact ae.out, (tb_ HB.out)⟩
   ·
    obtain rfl := Option.some.inj H; go_wp2; go_ret; exact ⟨_, tw_, by refine qS_ ?_; exact ae.out, (tb_ HB.out)⟩

/-! ### spec_PlaceOk: function 37 -/
def spec_PlaceOk.j0 : Nat → Bool → List Int → Int → List Int → Option (Bool)
 | 0, _, _, _, _ => none
 | k + 1, x14, ao, aM, aN => if x14 = true then (some false) else ((spec_SameRule.f k (ao.length : Int) aM).bind fun bg => ((spec_AfterWord.f k ao bg aN).bind fun bh => (some bh.2)))
def spec_PlaceOk.f (k : Nat) (ak : List Int) (a0_1 : Int) (al : List Int) : Option (Bool) := (spec_StartOk.f k ak).bind fun aZ => (if aZ = true then ((spec_l1In.f a0_1 (-1) 3).bind fun a3 => (spec_PlaceOk.j0 k (!a3) ak a0_1 al)) else (spec_PlaceOk.j0 k true ak a0_1 al))
theorem spec_PlaceOk.mono_l : ∀ k, (∀ y0 y1 y2 y3, LeO (spec_PlaceOk.j0 k y0 y1 y2 y3) (spec_PlaceOk.j0 (k + 1) y0 y1 y2 y3))
 | 0 => fun _ _ _ _ r h => by simp [spec_PlaceOk.j0] at h
 | k + 1 => by
  have ih0 := spec_PlaceOk.mono_l k
  ·
   intro y0 y1 y2 y3
   unfold spec_PlaceOk.j0
   repeat' (with_reducible first | exact ih0 _ _ _ _ | exact spec_AfterWord.mono _ _ _ _ | exact spec_SameRule.mono _ _ _ | exact spec_StartOk.mono _ _ | exact mr_ | exact mn_ | refine mi_ ?_ ?_ | refine mb_ ?_ (fun _ => ?_))
theorem spec_PlaceOk.mono : ∀ a0 a1 a2 k, LeO (spec_PlaceOk.f k a0 a1 a2) (spec_PlaceOk.f (k + 1) a0 a1 a2) := by
 intro a0 a1 a2 k; have ih0 := spec_PlaceOk.mono_l k; unfold spec_PlaceOk.f; repeat' (with_reducible first | exact ih0 _ _ _ _ | exact spec_AfterWord.mono _ _ _ _ | exact spec_SameRule.mono _ _ _ | exact spec_StartOk.mono _ _ | exact mr_ | exact mn_ | refine mi_ ?_ ?_ | refine mb_ ?_ (fun _ => ?_))
def spec_PlaceOk.T3 : Bool × List (List Nat × List Nat) := (true, [([], []), ([0], [0]), ([], []), ([2], [2]), ([3], [3]), ([], []), ([5], [5]), ([4, 6], [4, 6]), ([], []), ([8], [8]), ([1, 7, 9, 7], [1, 7, 9]), ([10], [10]), ([11], [11]), ([11], [11]), ([12, 10, 0, 1, 2, 3, 4, 5, 6, 7, 8, 9, 10, 11, 12], [12]), ([13, 14, 0, 1, 2, 3, 4, 5, 6, 7, 8, 9, 10, 11, 12, 13, 14], [13])])
def spec_PlaceOk.B3 : List Nat := [0, 1, 0, 4, 12, 0, 32, 124, 0, 256, 1023, 2047, 4095, 4095, 8191, 32767]
theorem spec_PlaceOk.tab3 : rtab .any (opsOf Tryz.f37 3) = spec_PlaceOk.T3 := by kernel_rfl
theorem spec_PlaceOk.bits3 : waitsOk spec_PlaceOk.T3.2 spec_PlaceOk.B3 = true := by kernel_rfl
theorem spec_PlaceOk.z0 {P_ : Prop} (h_ : P_ := by go_wp2_with (first | ((with_reducible refine gate_callee (f := 51) rfl ?_); refine ca_ (some 7) Tryz.func51 _ (spec_StartOk.calls k ar au _ _ _ (gt_ st) (gt_ st) A_7.out) ?_; rintro e w_ ⟨rfl, hb⟩; refine ⟨_, rfl, ?_⟩; replace hb := hb.below; replace st := st.ev hb; clear cl hb; have cl := cl_ st) | ((with_reducible refine gate_callee (f := 23) rfl ?_); refine gate_guard (by rfl) ?_; dsimp only; refine ca_ (some 12) Tryz.func23 _ (spec_l1In.calls _ _ _ _ _ A_12.out) ?_; rintro e w_ ⟨rfl, hb⟩; refine ⟨_, rfl, ?_⟩; replace hb := hb.below; replace st := st.ev hb; clear cl hb; have cl := cl_ st)); first | (go_meet; (case rel => exact ⟨_, (!a3), tx_, H', ⟨by first | omega | exact Nat.le_refl _⟩, st.en⟩)) | (go_meet; (case rel => exact ⟨_, (true), tx_, H', ⟨by first | omega | exact Nat.le_refl _⟩, st.en⟩))) : P_ := h_
theorem spec_PlaceOk.calls (k : Nat) (ar : Option Addr) (au : Nat) (ak : List Int) (a0_1 : Int) (aE : Option Addr) (aG : Nat) (al : List Int) (r : Bool) (w : World) (hr0_0 : Kd.C (Kd.int .i64) w ar ak.length ak) (hc0_0 : ak.length ≤ au) (hr0_2 : Kd.C (Kd.int .i64) w aE al.length al) (hc0_2 : al.length ≤ aG) (h : spec_PlaceOk.f k ak a0_1 al = some r) :
  Calls Tryz.prog 37 #[.agg #[.slice ar ak.length au, .int .i64 a0_1, .slice aE al.length aG]] w fun e w' => e = .returned (.bool r) ∧ Below w.heap.size w w' := by
 have hu27 := Tryz.underlying27; have st := ((ST.nil w).c hr0_0 hc0_0).c hr0_2 hc0_2; have s0 := st; have cl := cl_ st; have H := h; clear h; unfold spec_PlaceOk.f at H; go_enter Tryz.func37, Tryz.ntmps37; have HC3 := A_ H; clear H
 go_upto_region 1 with (first | ((with_reducible refine gate_dst (N := 1) rfl ?_); refine al_ st ?_; clear st cl; intro g1 w_ st; have cl := cl_ st))
 (try simp only [Act.put, sa_, sb_, sc_])
 go_cut [14] (fun bD wc => ∃ (kq : Nat) (ap : Bool), bD = .bool ap ∧ Aside0 (spec_PlaceOk.j0 kq ap ak a0_1 al = some r) ∧ Aside0 (kq ≤ k) ∧ ST w [CA (Kd.int .i64) w ar ak au, CA (Kd.int .i64) w aE al aG] [Bx g1 #[.slice ar ak.length au, .int .i64 a0_1, .slice aE al.length aG] 27] wc)
 case first =>
  have H := HC3.out; clear HC3; obtain ⟨aZ, A_7, H⟩ := bnd_ H; rcases bx_ aZ with rfl | rfl
  ·
   replace H := bt_ H; obtain ⟨a3, A_12, H⟩ := bnd_ H; have H' := A_ H; clear H; exact spec_PlaceOk.z0
  ·
   replace H := bf_ H; have H' := A_ H; clear H; exact spec_PlaceOk.z0
 case rest =>
  clear HC3 st cl; obtain ⟨kq, ap, rfl, HA, HJ2, st⟩ := hcut; have cl := cl_ st
  cases kq with
  | zero => exact absurd HA.out (by simp [spec_PlaceOk.j0])
  | succ kj2 =>
   have H := HA.out; clear HA; simp only [spec_PlaceOk.j0] at H; rcases bx_ ap with rfl | rfl
   ·
    replace H := bt_ H; obtain rfl := Option.some.inj H; go_wp2; go_ret; exact ⟨tw_, st.b⟩
   ·
    replace H := bf_ H; obtain ⟨bg, A_23, H⟩ := bnd_ H; obtain ⟨⟨bE, bF⟩, A_26, H⟩ := bnd_ H; (try dsimp only at H); obtain rfl := Option.some.inj H; (try go_wp2); (all_goals (refine rg_ st [] ?_; clear st cl; intro w_ st hs; have cl := cl_ st; refine with_tabW spec_PlaceOk.tab3 spec_PlaceOk.bits3 (fun HT_ HW_ => ?_); refine pv_ 0 ?_; refine pv_ 2 ?_; refine pv_ 5 ?_; refine pv_ 8 ?_; refine tu_ 1 ?_; refine tu_ 3 ?_; refine tu_ 6 ?_; refine tu_ 9 ?_; refine pv_ 4 ?_; refine ov_ 7 (fun K hK => ?_); refine ca2_ (some 23) Tryz.func53 _ (spec_SameRule.calls kj2 _ _ _ _ A_23.out) ?_; rintro e w_ ⟨v0, rfl, h0, hb⟩; refine ⟨_, rfl, ?_⟩; obtain ⟨B23_0, d23_0, rfl⟩ := Kd.S_slice h0; replace st := st.p1 hb (st.ms h0); clear cl hb h0; have cl := cl_ st; refine hK.out _ _ st.en (fun hs => ?_); clear hK K; refine nr_ 23 ?_; refine ov_ 10 (fun K hK => ?_); refine ca2_ (some 26) Tryz.func52 _ (spec_AfterWord.calls kj2 ar au _ B23_0 d23_0 _ aE aG _ _ _ _ (gt_ st) (gt_ st) (gt_ st) (gt_ st) (gt_ st) (gt_ st) A_26.out) ?_; rintro e w_ ⟨v0, rfl, h0, hb⟩; refine ⟨_, rfl, ?_⟩; obtain ⟨B26_0, d26_0, rfl⟩ := Kd.R_slice h0; replace st := st.p1 hb (st.mr h0); clear cl hb h0; have cl := cl_ st; refine hK.out _ _ st.en (fun hs => ?_); clear hK K; refine nr_ 26 ?_; refine pv_ 11 ?_; refine pv_ 12 ?_; refine pv_ 13 ?_; refine pv_ 14 ?_; refine pv_ 15 ?_; refine done_ (done_of HT_.out (by kernel_rfl)) ?_; all_goals (try go_wp2))); go_ret; exact ⟨tw_, st.b⟩

/-! ### spec_l1Number: function 54 -/
def spec_l1Number.f : Nat → Int → Option (ByteArray)
 | 0, _ => none
 | k + 1, a0 => if a0 < 10 then (some (strOfNums (([(wrap64 (48 + (mx a0 0))) % 256] : List Int)))) else ((spec_l1Number.f k (wrap64 (Int.tdiv a0 10))).bind fun ag => ((some (([(wrap64 (48 + (Int.tmod a0 10))) % 256] : List Int) : List Int)).bind fun ai => (if ag.size + (strOfNums ai).size ≤ 9223372036854775807 then (some (ag ++ (strOfNums ai))) else (none))))
theorem spec_l1Number.mono_l : ∀ k, (∀ y0, LeO (spec_l1Number.f k y0) (spec_l1Number.f (k + 1) y0))
 | 0 => fun _ r h => by simp [spec_l1Number.f] at h
 | k + 1 => by
  have ih0 := spec_l1Number.mono_l k
  ·
   intro y0
   unfold spec_l1Number.f
   repeat' (with_reducible first | exact ih0 _ | exact mr_ | exact mn_ | refine mi_ ?_ ?_ | refine mb_ ?_ (fun _ => ?_))
theorem spec_l1Number.mono : ∀ a0 k, LeO (spec_l1Number.f k a0) (spec_l1Number.f (k + 1) a0) := by
 intro a0 k; have ih0 := spec_l1Number.mono_l k; exact ih0 a0
def spec_l1Number.T3 : Bool × List (List Nat × List Nat) := (true, [([], []), ([0], [0]), ([1], [1]), ([], []), ([3], [3]), ([4], [4]), ([5], [5]), ([6], [6]), ([7], [7]), ([2, 8], [2, 8]), ([9, 2, 0, 1, 2, 3, 4, 5, 6, 7, 8, 9], [9])])
def spec_l1Number.B3 : List Nat := [0, 1, 3, 0, 8, 24, 56, 120, 248, 511, 1023]
theorem spec_l1Number.tab3 : rtab .any (opsOf Tryz.f54 3) = spec_l1Number.T3 := by kernel_rfl
theorem spec_l1Number.bits3 : waitsOk spec_l1Number.T3.2 spec_l1Number.B3 = true := by kernel_rfl
theorem spec_l1Number.calls (k : Nat) : ∀ (a0 : Int) (r : ByteArray) (w : World) (h : spec_l1Number.f k a0 = some r),
  Calls Tryz.prog 54 #[.int .i64 a0] w fun e w' => e = .returned (.string r) ∧ Below w.heap.size w w' := by
 induction k using Nat.strongRecOn with
 | _ k ih =>
 intro a0 r w h
 cases k with
 | zero => exact absurd h (by simp [spec_l1Number.f])
 | succ k =>
 simp only [spec_l1Number.f] at h; have HB := A_ (Below.refl w.heap.size w); have H : (if a0 < 10 then (some (strOfNums (([(wrap64 (48 + (mx a0 0))) % 256] : List Int)))) else ((spec_l1Number.f k (wrap64 (Int.tdiv a0 10))).bind fun ag => ((some (([(wrap64 (48 + (Int.tmod a0 10))) % 256] : List Int) : List Int)).bind fun ai => (if ag.size + (strOfNums ai).size ≤ 9223372036854775807 then (some (ag ++ (strOfNums ai))) else (none))))) = some r := h; clear h; replace H := it_ H; rcases H with ⟨a4, H⟩ | ⟨a4, H⟩
 ·
  obtain ⟨aQ, aH⟩ : ∃ j_ : Int, (mx a0 0) = j_ := ⟨_, rfl⟩
  replace H : (some (strOfNums (([(wrap64 (48 + (aQ))) % 256] : List Int)))) = some r := by first | (rw [aH] at H; exact H) | (simp only [aH] at H ⊢; exact H)
  (try (have hji3l : 0 ≤ aQ := by (rw [← aH]; unfold mx; (repeat' split) <;> omega))); (try (have hji3m : 0 ≤ aQ := by omega)); have hji3_ : (if a0 < 0 then 0 else a0) = aQ := aH; obtain ⟨bn, aI⟩ : ∃ y_ : List Int, y_ = (([(wrap64 (48 + (aQ))) % 256] : List Int)) := ⟨_, rfl⟩
  replace H : (some (strOfNums bn)) = some r := yq_ aI H; have aX := A_ aI; clear aI; obtain rfl := Option.some.inj H; go_enter Tryz.func54, Tryz.ntmps54; go_wp2_with (first | ((with_reducible refine gate_dst (N := 9) rfl ?_); refine Kd.R_lit (Kd.int .u8) _ 5 ?hg (N := 9) ?hd (xs := ([(wrap64 (48 + (aQ))) % 256] : List Int)) (inner := [.int .u8 ((wrap64 (48 + (aQ))) % 256)]) (ok := fun _ => True) (okp := fun _ => True) ?hr ?hp (fun _ hk => hk) trivial (Below.refl _ _) (Nat.le_refl _) (by simp) ?_; (case hd => rfl); (case hg => rfl); (case hr => first | (go_simp; done) | (go_simp; rfl)); (case hp => exact (Reps.one (show Kd.M (Kd.int .u8) _ _ _ ((wrap64 (48 + (aQ))) % 256) [.int .u8 ((wrap64 (48 + (aQ))) % 256)] from rfl) (Reps.none _ _))); intro bG w4 ho5 hb hg_ hnew_; clear hg_ hnew_; (first | rw [← aX.out] at ho5 | (simp only [Int.reduceToNat] at ho5; rw [← aX.out] at ho5)); have bi := rx_ ho5 HB; replace HB := bs_ HB hb; clear hb ho5; have hcv6 := own_string (P := Tryz.prog) Tryz.underlying86 Tryz.underlying5 Tryz.underlying9 (Kd.own_of_R bi.out))); go_ret; exact ⟨by first | rfl | (simp [errW_none, errW_some, Option.map_none, Option.map_some] <;> rfl) | (simp only [← aH]; first | rfl | (simp [errW_none, errW_some, Option.map_none, Option.map_some] <;> rfl)) | (simp [*, errW_none, errW_some] <;> rfl), (tb_ HB.out)⟩
 ·
  obtain ⟨ag, A7, H⟩ := bnd_ H; (try dsimp only at H); obtain ⟨ai, aJ⟩ : ∃ y_ : List Int, y_ = (([(wrap64 (48 + (Int.tmod a0 10))) % 256] : List Int)) := ⟨_, rfl⟩
  replace H : (if ag.size + (strOfNums ai).size ≤ 9223372036854775807 then (some (ag ++ (strOfNums ai))) else (none)) = some r := yq_ aJ H; have aq := A_ aJ; clear aJ; replace H := i0_ H; obtain ⟨c8, H⟩ := H; have bo := eq_true c8; have bH : decide (ag.size + (strOfNums ai).size ≤ 9223372036854775807) = true := decide_eq_true c8; (try have bI : (9223372036854775807 < ag.size + (strOfNums ai).size) = False := eq_false (Nat.not_lt.2 c8)); obtain rfl := Option.some.inj H; go_enter Tryz.func54, Tryz.ntmps54; (try go_wp2); replace HB := A_ (ld_ HB.out); refine sv_ (S := fun w' => True) (ds := []) trivial (fun hHeld => ?_); refine with_tabW spec_l1Number.tab3 spec_l1Number.bits3 (fun HT_ HW_ => ?_); generalize w.drew = w9 at HB hHeld ⊢; refine pv_ 0 ?_; refine pv_ 1 ?_; refine pv_ 3 ?_; refine pv_ 4 ?_; refine pv_ 5 ?_; refine pv_ 6 ?_; refine join_ (σ := Value) 2 #[true, true, true, true, true, true, true, true, true, false, false] (fun s_ => [(13, .string ag), (18, s_), (19, .string (strOfNums ai))]) (fun s_ w' => (Kd.R (Kd.int .u8) 5 w' w.heap.size (fun _ => True) s_ ai) ∧ (Below w.heap.size w w')) ?_ ?_; rotate_left
  ·
   intro hCont; refine wv_ 2 7 (fun K hK => ?_) (fun K hK => ?_)
   ·
    skip; refine goes_ Tryz.func54 (by kernel_rfl) rfl #[.int .i64 (wrap64 (Int.tdiv a0 10))] (by rfl) rfl rfl tz_ ?_; (with_reducible refine (ih k (by omega) (wrap64 (Int.tdiv a0 10)) ag _ A7.out).mono ?_); rintro e bJ ⟨rfl, hb⟩; refine ⟨_, rfl, ?_⟩; replace HB := bs_ HB hb; (try clear hb); (try clear hb2); (try clear hk); (try clear hi); refine hK.out _ _ trivial (fun hHeld => ?_); clear hK K; refine nr_ 13 ?_; refine ov_ 7 (fun K hK => ?_); refine Kd.R_lit_step (Kd.int .u8) _ 5 ?hg (N := 18) ?hd (xs := ([(wrap64 (48 + (Int.tmod a0 10))) % 256] : List Int)) (inner := [.int .u8 ((wrap64 (48 + (Int.tmod a0 10))) % 256)]) (ok := fun _ => True) (okp := fun _ => True) ?hr ?hp (fun _ hk => hk) trivial (Below.refl _ _) (Nat.le_refl _) (by simp) ?_; (case hd => rfl); (case hg => rfl); (case hr => first | (go_simp; done) | (go_simp; rfl)); (case hp => exact (Reps.one (show Kd.M (Kd.int .u8) _ _ _ ((wrap64 (48 + (Int.tmod a0 10))) % 256) [.int .u8 ((wrap64 (48 + (Int.tmod a0 10))) % 256)] from rfl) (Reps.none _ _))); intro av bZ ho12 hb hg_ hnew_; clear hg_ hnew_; (first | rw [← aq.out] at ho12 | (simp only [Int.reduceToNat] at ho12; rw [← aq.out] at ho12)); have ad := rx_ ho12 HB; replace HB := bs_ HB hb; clear hb ho12; refine hK.out _ _ trivial (fun hHeld => ?_); clear hK K; refine nr_ 18 ?_; refine ov_ 8 (fun K hK => ?_); have hcv13 := own_string (P := Tryz.prog) Tryz.underlying86 Tryz.underlying5 Tryz.underlying9 (Kd.own_of_R ad.out); refine va_ rfl ?_; clear hcv13; refine hK.out _ _ trivial (fun hHeld => ?_); clear hK K; refine nr_ 19 ?_; exact nq_ (hCont (av) _ ⟨(rR_ ad.out), (tb_ HB.out)⟩)
   ·
    skip; refine Kd.R_lit_step (Kd.int .u8) _ 5 ?hg (N := 18) ?hd (xs := ([(wrap64 (48 + (Int.tmod a0 10))) % 256] : List Int)) (inner := [.int .u8 ((wrap64 (48 + (Int.tmod a0 10))) % 256)]) (ok := fun _ => True) (okp := fun _ => True) ?hr ?hp (fun _ hk => hk) trivial (Below.refl _ _) (Nat.le_refl _) (by simp) ?_; (case hd => rfl); (case hg => rfl); (case hr => first | (go_simp; done) | (go_simp; rfl)); (case hp => exact (Reps.one (show Kd.M (Kd.int .u8) _ _ _ ((wrap64 (48 + (Int.tmod a0 10))) % 256) [.int .u8 ((wrap64 (48 + (Int.tmod a0 10))) % 256)] from rfl) (Reps.none _ _))); intro av bJ ho11 hb hg_ hnew_; clear hg_ hnew_; (first | rw [← aq.out] at ho11 | (simp only [Int.reduceToNat] at ho11; rw [← aq.out] at ho11)); have ad := rx_ ho11 HB; replace HB := bs_ HB hb; clear hb ho11; refine hK.out _ _ trivial (fun hHeld => ?_); clear hK K; refine nr_ 18 ?_; refine wv_ 2 8 (fun K hK => ?_) (fun K hK => ?_)
    ·
     skip; refine goes_ Tryz.func54 (by kernel_rfl) rfl #[.int .i64 (wrap64 (Int.tdiv a0 10))] (by rfl) rfl rfl tz_ ?_; (with_reducible refine (ih k (by omega) (wrap64 (Int.tdiv a0 10)) ag _ A7.out).mono ?_); rintro e b0 ⟨rfl, hb⟩; refine ⟨_, rfl, ?_⟩; replace ad := rb_ ad hb; replace HB := bs_ HB hb; (try clear hb); (try clear hb2); (try clear hk); (try clear hi); refine hK.out _ _ trivial (fun hHeld => ?_); clear hK K; refine nr_ 13 ?_; refine ov_ 8 (fun K hK => ?_); have hcv13 := own_string (P := Tryz.prog) Tryz.underlying86 Tryz.underlying5 Tryz.underlying9 (Kd.own_of_R ad.out); refine va_ rfl ?_; clear hcv13; refine hK.out _ _ trivial (fun hHeld => ?_); clear hK K; refine nr_ 19 ?_; exact nq_ (hCont (av) _ ⟨(rR_ ad.out), (tb_ HB.out)⟩)
    ·
     skip; have hcv12 := own_string (P := Tryz.prog) Tryz.underlying86 Tryz.underlying5 Tryz.underlying9 (Kd.own_of_R ad.out); refine va_ rfl ?_; clear hcv12; refine hK.out _ _ trivial (fun hHeld => ?_); clear hK K; refine nr_ 19 ?_; refine ov_ 2 (fun K hK => ?_); refine goes_ Tryz.func54 (by kernel_rfl) rfl #[.int .i64 (wrap64 (Int.tdiv a0 10))] (by rfl) rfl rfl tz_ ?_; (with_reducible refine (ih k (by omega) (wrap64 (Int.tdiv a0 10)) ag _ A7.out).mono ?_); rintro e b1 ⟨rfl, hb⟩; refine ⟨_, rfl, ?_⟩; replace ad := rb_ ad hb; replace HB := bs_ HB hb; (try clear hb); (try clear hb2); (try clear hk); (try clear hi); refine hK.out _ _ trivial (fun hHeld => ?_); clear hK K; refine nr_ 13 ?_; exact nq_ (hCont (av) _ ⟨(rR_ ad.out), (tb_ HB.out)⟩)
  rintro av bw ⟨h0_, h1_⟩; have ad : Aside0 (Kd.R (Kd.int .u8) 5 bw w.heap.size (fun _ => True) av ai) := ⟨h0_⟩
  replace HB : Aside0 (Below w.heap.size w bw) := ⟨h1_⟩
  clear h0_ h1_; have hHeld := trivial; refine norm_ (a' := ?_) ?_ ?_; rotate_left
  ·
   simp only [putAll, Act.put, sa_, sb_, sc_]; rfl
  refine pv_ 9 ?_; refine pv_ 10 ?_; refine done_ (done_of HT_.out (by kernel_rfl)) ?_; (try go_wp2); go_ret; exact ⟨tw_, (tb_ HB.out)⟩
/-! ### spec_l15Row: function 38 -/
def spec_l15Row.l0 : Nat → List Int → ByteArray → Int → Option (ByteArray)
 | 0, _, _, _ => none
 | k + 1, x0, x3, x4 => if x4 < (x0.length : Int) then (if x4 > 0 then (if x3.size + 1 ≤ 9223372036854775807 then (if 0 ≤ x4 then ((spec_l1Number.f k (rd x0 x4)).bind fun am => (if (x3 ++ (⟨#[44]⟩ : ByteArray)).size + am.size ≤ 9223372036854775807 then (spec_l15Row.l0 k x0 ((x3 ++ (⟨#[44]⟩ : ByteArray)) ++ am) (wrap64 (x4 + 1))) else (none))) else (none)) else (none)) else (if 0 ≤ x4 then ((spec_l1Number.f k (rd x0 x4)).bind fun an => (if x3.size + an.size ≤ 9223372036854775807 then (spec_l15Row.l0 k x0 (x3 ++ an) (wrap64 (x4 + 1))) else (none))) else (none))) else (if (x0.length : Int) = 0 then (some (⟨#[110, 111, 110, 101]⟩ : ByteArray)) else (some x3))
def spec_l15Row.f (k : Nat) (l0 : List Int) : Option (ByteArray) := spec_l15Row.l0 k l0 (⟨#[]⟩ : ByteArray) 0
theorem spec_l15Row.mono_l : ∀ k, (∀ y0 y1 y2, LeO (spec_l15Row.l0 k y0 y1 y2) (spec_l15Row.l0 (k + 1) y0 y1 y2))
 | 0 => fun _ _ _ r h => by simp [spec_l15Row.l0] at h
 | k + 1 => by
  have ih0 := spec_l15Row.mono_l k
  ·
   intro y0 y1 y2
   unfold spec_l15Row.l0
   repeat' (with_reducible first | exact ih0 _ _ _ | exact spec_l1Number.mono _ _ | exact mr_ | exact mn_ | refine mi_ ?_ ?_ | refine mb_ ?_ (fun _ => ?_))
theorem spec_l15Row.mono : ∀ a0 k, LeO (spec_l15Row.f k a0) (spec_l15Row.f (k + 1) a0) := by
 intro a0 k; have ih0 := spec_l15Row.mono_l k; unfold spec_l15Row.f; repeat' (with_reducible first | exact ih0 _ _ _ | exact spec_l1Number.mono _ _ | exact mr_ | exact mn_ | refine mi_ ?_ ?_ | refine mb_ ?_ (fun _ => ?_))
theorem spec_l15Row.z0 {P_ : Prop} (h_ : P_ := by go_wp2_with (first | ((with_reducible refine gate_dst (N := 18) rfl ?_); obtain ⟨p_, q_, ad_, e_, x0⟩ := a2_ (Kd.at_int (gC_ st (Kd.int .i64) A0 l0) af); have ix_ := ix1_ Tryz.underlying25 e_ p_ q_ (c := c0); clear e_; go_step) | ((with_reducible refine gate_callee (f := 54) rfl ?_); refine ca_ (some 20) Tryz.func54 _ (spec_l1Number.calls k1 _ _ _ A_20.out) ?_; rintro e w_ ⟨rfl, hb⟩; refine ⟨_, rfl, ?_⟩; replace st := st.ev hb; clear cl hb; have cl := cl_ st)); first | (go_roundg k1; (case measure => have := HK1.out; omega); (case rel => exact ⟨((ah ++ (⟨#[44]⟩ : ByteArray)) ++ am), (wrap64 (af + 1)), tx_, tx_, H', ⟨by have := HK1.out; omega⟩, st.en⟩)) | (go_roundg k1; (case measure => have := HK1.out; omega); (case rel => exact ⟨(ah ++ an), (wrap64 (af + 1)), tx_, tx_, H', ⟨by have := HK1.out; omega⟩, st.en⟩)) | (go_ret; exact ⟨tw_, st.b⟩)) : P_ := h_
theorem spec_l15Row.calls (k : Nat) (A0 : Option Addr) (c0 : Nat) (l0 : List Int) (r : ByteArray) (w : World) (hr0 : Kd.C (Kd.int .i64) w A0 l0.length l0) (hc0 : l0.length ≤ c0) (h : spec_l15Row.f k l0 = some r) :
  Calls Tryz.prog 38 #[.slice A0 l0.length c0] w fun e w' => e = .returned (.string r) ∧ Below w.heap.size w w' := by
 have st := (ST.nil w).c hr0 hc0; have s0 := st; have cl := cl_ st; have H := h; clear h; unfold spec_l15Row.f at H; go_enter Tryz.func38, Tryz.ntmps38; have H' := A_ H; clear H; go_wp2
 go_loopg [3, 4] k (fun kq v3 v4 w' => ∃ (ah : ByteArray) (af : Int), v3 = .string ah ∧ v4 = .int .i64 af ∧ Aside0 (spec_l15Row.l0 kq l0 ah af = some r) ∧ Aside0 (kq ≤ k) ∧ ST w [CA (Kd.int .i64) w A0 l0 c0] [] w')
 case atStart => exact ⟨((⟨#[]⟩ : ByteArray)), (0), tx_, tx_, H', ⟨Nat.le_refl _⟩, st.en⟩
 case round =>
  clear H' st cl; obtain ⟨ah, af, rfl, rfl, HA, HK1, st⟩ := hrel; have cl := cl_ st
  cases gk with
  | zero => exact absurd HA.out (by simp [spec_l15Row.l0])
  | succ k1 =>
   have H := HA.out; clear HA; simp only [spec_l15Row.l0] at H; replace H := it_ H; rcases H with ⟨bj, H⟩ | ⟨bj, H⟩
   ·
    replace H := ig_ H; rcases H with ⟨bp, H⟩ | ⟨bp, H⟩
    ·
     replace H := i0_ H; obtain ⟨c5, H⟩ := H; have a7 := eq_true c5; have bK : decide (ah.size + 1 ≤ 9223372036854775807) = true := decide_eq_true c5; (try have bL : (9223372036854775807 < ah.size + 1) = False := eq_false (Nat.not_lt.2 c5)); replace H := in_ H; obtain ⟨bM, H⟩ := H; obtain ⟨am, A_20, H⟩ := bnd_ H; replace H := i0_ H; obtain ⟨c7, H⟩ := H; have bN := eq_true c7; have bO : decide ((ah ++ (⟨#[44]⟩ : ByteArray)).size + am.size ≤ 9223372036854775807) = true := decide_eq_true c7; (try have bP : (9223372036854775807 < (ah ++ (⟨#[44]⟩ : ByteArray)).size + am.size) = False := eq_false (Nat.not_lt.2 c7)); (try have bQ : (9223372036854775807 < ah.size + 1 + am.size) = False := eq_false (by have h := c7; simp only [ByteArray.size_append] at h; simp only [ByteArray.size] at h ⊢; simp at h ⊢; omega)); have H' := A_ H; clear H; exact spec_l15Row.z0
    ·
     replace H := in_ H; obtain ⟨bo, H⟩ := H; obtain ⟨an, A_20, H⟩ := bnd_ H; replace H := i0_ H; obtain ⟨c9, H⟩ := H; have bR := eq_true c9; have bS : decide (ah.size + an.size ≤ 9223372036854775807) = true := decide_eq_true c9; (try have bU : (9223372036854775807 < ah.size + an.size) = False := eq_false (Nat.not_lt.2 c9)); have H' := A_ H; clear H; exact spec_l15Row.z0
   ·
    by_cases c10 : (l0.length : Int) = 0
    ·
     rw [if_pos c10] at H; have aU : ((l0.length : Int) == 0) = true := beq_iff_eq.mpr c10; have aV : ((l0.length : Int) != 0) = false := bne_eq_false_iff_eq.mpr c10; clear c10; obtain rfl := Option.some.inj H; exact spec_l15Row.z0
    ·
     rw [if_neg c10] at H; have aU : ((l0.length : Int) == 0) = false := beq_eq_false_iff_ne.mpr c10; have aV : ((l0.length : Int) != 0) = true := bne_iff_ne.mpr c10; have bx : ¬ (l0 = []) := fun h_ => c10 (by rw [h_]; rfl); obtain rfl := Option.some.inj H; exact spec_l15Row.z0

/-! ### spec_l15Step: function 39 -/
def spec_l15Step.f (k : Nat) (a0 : Int) : Option (ByteArray) := if a0 < 0 then ((spec_l1Number.f k (wrap64 (-a0))).bind fun aw => (if 1 + aw.size ≤ 9223372036854775807 then (some ((⟨#[45]⟩ : ByteArray) ++ aw)) else (none))) else ((spec_l1Number.f k a0).bind fun bk => (some bk))
theorem spec_l15Step.mono : ∀ a0 k, LeO (spec_l15Step.f k a0) (spec_l15Step.f (k + 1) a0) := by
 intro a0 k; unfold spec_l15Step.f; repeat' (with_reducible first | exact spec_l1Number.mono _ _ | exact mr_ | exact mn_ | refine mi_ ?_ ?_ | refine mb_ ?_ (fun _ => ?_))
theorem spec_l15Step.z0 {P_ : Prop} (h_ : P_ := by go_wp2_with (first | ((with_reducible refine gate_callee (f := 54) rfl ?_); refine ca_ (some 7) Tryz.func54 _ (spec_l1Number.calls k _ _ _ A_7.out) ?_; rintro e w_ ⟨rfl, hb⟩; refine ⟨_, rfl, ?_⟩; replace st := st.ev hb; clear cl hb; have cl := cl_ st) | ((with_reducible refine gate_callee (f := 54) rfl ?_); refine ca_ (some 10) Tryz.func54 _ (spec_l1Number.calls k _ _ _ A_10.out) ?_; rintro e w_ ⟨rfl, hb⟩; refine ⟨_, rfl, ?_⟩; replace st := st.ev hb; clear cl hb; have cl := cl_ st)); (go_ret; exact ⟨tw_, st.b⟩)) : P_ := h_
theorem spec_l15Step.calls (k : Nat) (a0 : Int) (r : ByteArray) (w : World) (h : spec_l15Step.f k a0 = some r) :
  Calls Tryz.prog 39 #[.int .i64 a0] w fun e w' => e = .returned (.string r) ∧ Below w.heap.size w w' := by
 have st := ST.nil w; have s0 := st; have cl := cl_ st; have H := h; clear h; unfold spec_l15Step.f at H; go_enter Tryz.func39, Tryz.ntmps39; replace H := it_ H; rcases H with ⟨a4, H⟩ | ⟨a4, H⟩
 ·
  obtain ⟨aw, A_7, H⟩ := bnd_ H; replace H := i0_ H; obtain ⟨c3, H⟩ := H; have bj := eq_true c3; have bV : decide (1 + aw.size ≤ 9223372036854775807) = true := decide_eq_true c3; (try have bW : (9223372036854775807 < 1 + aw.size) = False := eq_false (Nat.not_lt.2 c3)); obtain rfl := Option.some.inj H; exact spec_l15Step.z0
 ·
  obtain ⟨bk, A_10, H⟩ := bnd_ H; obtain rfl := Option.some.inj H; exact spec_l15Step.z0

end Go.Proofs.YtmodbemkflkbeaaGreatDoor.MFnExactStoreOpen
