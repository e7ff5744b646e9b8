/- For the law FnStoreSync: walks of the functions that it reaches: each call returns what the plain function beside it tells. The conditions stand in each statement. -/
import Derived.Test.YtmcibffagofkjaaGreatDoorV
import Derived.Test.YtmcibffagofkjaaGreatDoorMFnStoreSyncx0
import Derived.Test.YtmcibffagofkjaaGreatDoorMFnStoreSyncx3
import Derived.Test.YtmcibffagofkjaaGreatDoorMFnStoreSyncx4
namespace Go.Proofs.YtmcibffagofkjaaGreatDoor.MFnStoreSync
open Go.RowKit Go.Proofs.YtmcibffagofkjaaGreatDoorW.PrintWords Go.Proofs.YtmcibffagofkjaaGreatDoorW.PrintLast Go.Proofs.YtmcibffagofkjaaGreatDoorW.PrintMore
attribute [local go_sem] max2_int min2_int max_two min_two max_three min_three max_four min_four   -- for this text's walks alone
set_option linter.unusedVariables false
set_option linter.unusedSimpArgs false
set_option maxHeartbeats 8000000
set_option maxRecDepth 100000

/-! ### spec_SameRule: function 58 -/
def spec_SameRule.l0 : Nat → Int → Int → List (List Int) → Int → Option ((List (List Int)))
 | 0, _, _, _, _ => none
 | k + 1, x0, x1, x5, x6 => if x6 < x0 then ((spec_l1In.f x0 1 3).bind fun a3 => (if a3 = true then ((spec_l1In.f x1 (-1) 3).bind fun aA => (if aA = true then (if 0 ≤ x0 then (if (x0 : Int).toNat ≤ 35184372088832 then ((some (List.replicate (x0 : Int).toNat 0 : List Int)).bind fun ad => (if 0 ≤ x6 then (if x6 < (ad.length : Int) then (if x5.length < 5864062014805 then (spec_SameRule.l0 k x0 x1 (x5 ++ [(ad.set (x6 : Int).toNat x1)]) (wrap64 (x6 + 1))) else (none)) else (none)) else (none))) else (none)) else (none)) else (some x5))) else (some x5))) else (some x5)
def spec_SameRule.f (k : Nat) (a0 : Int) (a1 : Int) : Option ((List (List Int))) := spec_SameRule.l0 k a0 a1 (([] : List (List Int))) 0
theorem spec_SameRule.mono_l : ∀ k, (∀ y0 y1 y2 y3, LeO (spec_SameRule.l0 k y0 y1 y2 y3) (spec_SameRule.l0 (k + 1) y0 y1 y2 y3))
 | 0 => fun _ _ _ _ r h => by simp [spec_SameRule.l0] at h
 | k + 1 => by
  have ih0 := spec_SameRule.mono_l k
  ·
   intro y0 y1 y2 y3
   unfold spec_SameRule.l0
   repeat' (with_reducible first | exact ih0 _ _ _ _ | exact mr_ | exact mn_ | refine mi_ ?_ ?_ | refine mb_ ?_ (fun _ => ?_))
theorem spec_SameRule.mono : ∀ a0 a1 k, LeO (spec_SameRule.f k a0 a1) (spec_SameRule.f (k + 1) a0 a1) := by
 intro a0 a1 k; have ih0 := spec_SameRule.mono_l k; unfold spec_SameRule.f; repeat' (with_reducible first | exact ih0 _ _ _ _ | exact mr_ | exact mn_ | refine mi_ ?_ ?_ | refine mb_ ?_ (fun _ => ?_))
theorem spec_SameRule.calls (k : Nat) (a0 : Int) (a1 : Int) (r : List (List Int)) (w : World) (h : spec_SameRule.f k a0 a1 = some r) :
  Calls Tryz.prog 58 #[.int .i64 a0, .int .i64 a1] w fun e w' => ∃ v0_ : Value, e = .returned (v0_) ∧ Kd.S (Kd.slice 3 (Kd.int .i64)) 34 w' w.heap.size (fun _ => True) v0_ r ∧ Below w.heap.size w w' := by
 have HB := A_ (Below.refl w.heap.size w); have H : (spec_SameRule.l0 k a0 a1 (([] : List (List Int))) 0) = some r := h; clear h; obtain ⟨bh, aC⟩ : ∃ y_ : List (List Int), y_ = (([] : List (List Int))) := ⟨_, rfl⟩
 replace H : (spec_SameRule.l0 k a0 a1 bh 0) = some r := yq_ aC H; have aX := A_ aC; clear aC; have H' := A_ H; clear H; go_enter Tryz.func58, Tryz.ntmps58; go_wp2_with (first | ((with_reducible refine gate_dst (N := 8) rfl ?_); refine Kd.S_lit (Kd.slice 3 (Kd.int .i64)) _ 34 ?hg (N := 8) ?hd (xs := ([] : List (List Int))) (inner := []) (ok := fun _ => True) (okp := fun _ => True) ?hr ?hp (fun _ hk => hk) trivial (Below.refl _ _) (Nat.le_refl _) (by simp) ?_; (case hd => rfl); (case hg => rfl); (case hr => first | (go_simp; done) | (go_simp; rfl)); (case hp => exact (Reps.none _ _)); intro bP w3 ho4 hb hg_ hnew_; clear hg_ hnew_; (first | rw [← aX.out] at ho4 | (simp only [Int.reduceToNat] at ho4; rw [← aX.out] at ho4)); have bi := A_ (Kd.S_lower ho4 (below_size (tb_ HB.out))); replace HB := bs_ HB hb; clear hb ho4))
 go_loopg [5, 6] k (fun kq v5 v6 w' => ∃ (ae : List (List Int)) (ab : Int), v6 = .int .i64 ab ∧ Aside0 (spec_SameRule.l0 kq a0 a1 ae ab = some r) ∧ Aside0 (kq ≤ k) ∧ Aside0 (Kd.S (Kd.slice 3 (Kd.int .i64)) 34 w' w.heap.size (fun _ => True) v5 ae) ∧ Aside0 (Below w.heap.size w w'))
 case atStart => exact ⟨(bh), (0), tx_, H', ⟨Nat.le_refl _⟩, ⟨rS_ bi.out⟩, ⟨(tb_ HB.out)⟩⟩
 case round =>
  clear H'; obtain ⟨ae, ab, rfl, HA, HK1, ah, HB⟩ := hrel
  cases gk with
  | zero => exact absurd HA.out (by simp [spec_SameRule.l0])
  | succ k1 =>
   have H := HA.out; clear HA; simp only [spec_SameRule.l0] at H; replace H := it_ H; rcases H with ⟨br, H⟩ | ⟨br, H⟩
   ·
    obtain ⟨a3, A6, H⟩ := bnd_ H; (try dsimp only at H); by_cases c7 : a3 = true
    ·
     subst c7; replace H : ((spec_l1In.f a1 (-1) 3).bind fun aA => (if aA = true then (if 0 ≤ a0 then (if (a0 : Int).toNat ≤ 35184372088832 then ((some (List.replicate (a0 : Int).toNat 0 : List Int)).bind fun ad => (if 0 ≤ ab then (if ab < (ad.length : Int) then (if ae.length < 5864062014805 then (spec_SameRule.l0 k1 a0 a1 (ae ++ [(ad.set (ab : Int).toNat a1)]) (wrap64 (ab + 1))) else (none)) else (none)) else (none))) else (none)) else (none)) else (some ae))) = some r := by rw [if_pos rfl] at H; exact H
     obtain ⟨aA, A8, H⟩ := bnd_ H; (try dsimp only at H); by_cases c9 : aA = true
     ·
      subst c9; replace H : (if 0 ≤ a0 then (if (a0 : Int).toNat ≤ 35184372088832 then ((some (List.replicate (a0 : Int).toNat 0 : List Int)).bind fun ad => (if 0 ≤ ab then (if ab < (ad.length : Int) then (if ae.length < 5864062014805 then (spec_SameRule.l0 k1 a0 a1 (ae ++ [(ad.set (ab : Int).toNat a1)]) (wrap64 (ab + 1))) else (none)) else (none)) else (none))) else (none)) else (none)) = some r := by rw [if_pos rfl] at H; exact H
      replace H := i0_ H; obtain ⟨c10, H⟩ := H; have bC := eq_true c10; have bD : decide (0 ≤ a0) = true := decide_eq_true c10; clear c10; replace H := i0_ H; obtain ⟨c11, H⟩ := H; have bE := eq_true c11; have bF : decide ((a0 : Int).toNat ≤ 35184372088832) = true := decide_eq_true c11; clear c11; obtain ⟨ad, aD⟩ : ∃ y_ : List Int, y_ = (List.replicate (a0 : Int).toNat 0) := ⟨_, rfl⟩
      replace H : (if 0 ≤ ab then (if ab < (ad.length : Int) then (if ae.length < 5864062014805 then (spec_SameRule.l0 k1 a0 a1 (ae ++ [(ad.set (ab : Int).toNat a1)]) (wrap64 (ab + 1))) else (none)) else (none)) else (none)) = some r := yq_ aD H; have aY := A_ aD; clear aD; replace H := in_ H; obtain ⟨bG, H⟩ := H; replace H := in_ H; obtain ⟨bH, H⟩ := H; obtain ⟨aR, aE⟩ : ∃ y_ : List Int, y_ = (ad.set (ab : Int).toNat a1) := ⟨_, rfl⟩
      replace H : (if ae.length < 5864062014805 then (spec_SameRule.l0 k1 a0 a1 (ae ++ [aR]) (wrap64 (ab + 1))) else (none)) = some r := yq_ aE H; have bj := A_ aE; clear aE; replace H := il_ H; obtain ⟨bk, H⟩ := H; obtain ⟨bl, aG⟩ : ∃ y_ : List (List Int), y_ = (ae ++ [aR]) := ⟨_, rfl⟩
      replace H : (spec_SameRule.l0 k1 a0 a1 bl (wrap64 (ab + 1))) = some r := yq_ aG H; have bm := A_ aG; clear aG; have H' := A_ H; clear H; go_wp2_with (first | (go_at_call 27; (with_reducible refine (spec_l1In.calls a0 1 3 true _ A6.out).mono ?_); rintro e w' ⟨rfl, ⟨nd, rfl⟩⟩; (try (rw [drewN_self wr]; generalize hq_ : World.drewN wr _ = wr; have n0_ : Aside0 (Kd.S (Kd.slice 3 (Kd.int .i64)) 34 wr w.heap.size (fun _ => True) u5 ae) := ⟨by rw [← hq_]; exact (rS_ ah.out)⟩; have n1_ : Aside0 (Below w.heap.size w wr) := ⟨by rw [← hq_]; exact (tb_ HB.out)⟩; clear ah HB hq_; have ah := n0_; have HB := n1_; clear n0_ n1_))) | (go_at_call 27; (with_reducible refine (spec_l1In.calls a1 (-1) 3 true _ A8.out).mono ?_); rintro e w' ⟨rfl, ⟨nd, rfl⟩⟩; (try (rw [drewN_self wr]; generalize hq_ : World.drewN wr _ = wr; have n0_ : Aside0 (Kd.S (Kd.slice 3 (Kd.int .i64)) 34 wr w.heap.size (fun _ => True) u5 ae) := ⟨by rw [← hq_]; exact (rS_ ah.out)⟩; have n1_ : Aside0 (Below w.heap.size w wr) := ⟨by rw [← hq_]; exact (tb_ HB.out)⟩; clear ah HB hq_; have ah := n0_; have HB := n1_; clear n0_ n1_))) | ((with_reducible refine gate_dst (N := 23) rfl ?_); refine Kd.R_make (Kd.int .i64) _ 3 rfl (N := 23) rfl 34 _ _ rfl a0 rfl rfl Tryz.underlying34 (.int .i64 0) 8 info3 rfl (by decide) (by omega) 0 (ok := fun _ => True) (okp := fun _ => True) rfl (fun _ hk => hk) trivial (od_) (Nat.le_trans (Nat.mul_le_mul_right _ (od_ : a0.toNat ≤ 35184372088832)) (by omega)) (Below.refl _ _) (Nat.le_refl _) ?_; intro bQ bI ho17 hb hg_ hnew_; clear hg_ hnew_; (first | rw [← aY.out] at ho17 | (simp only [Int.reduceToNat] at ho17; rw [← aY.out] at ho17)); replace ah := A_ (Kd.S_elder' (rS_ ah.out) (Kd.R_base ho17) hb); have ak := rx_ ho17 HB; replace HB := bs_ HB hb; clear hb ho17; have p14 : 0 ≤ (ab : Int) := od_; have q14 : (ab : Int) < ((ad.length : Int) : Int) := od_; obtain ⟨go14, ap, aH, bn, gl14, cl14, HG14⟩ := Kd.R_form ak.out (by omega); (first | cases aH | (injection aH with ea_ en_ ec_; (first | subst ea_ | (injection ea_ with ea_; subst ea_)); subst ec_; clear en_)); have GB14 := A_ bn; have GG14 := A_ HG14; clear bn gl14 HG14; obtain ⟨bs, hf14_0⟩ := Kd.R_celln 0 ak.out (ab : Int) p14 q14; replace p14 := eq_true p14; replace q14 := eq_true q14; obtain ⟨hy18_, hz18_⟩ := Kd.R_celln 0 ak.out (ab : Int) (od_) (od_); have HP18 := Kd.R_putg ak.out (ab : Int) a1) | ((with_reducible refine gate_store (t := 3) (p := 27) rfl ?_); refine store_event (t := 3) (p := 27) (v := ?vo_w19) (w1 := (bI.setCell ⟨go14, (ab : Int).toNat, none⟩ (.int .i64 a1))) ?hg ?ho ?hn ?hr ?_; (case ho => rfl); (case hg => rfl); (case hn => rfl); (case hr => first | (go_simp; done) | (go_simp; rfl)); intro bu hw; have hg : bI.grownBy bu (some go14) := (by rw [hw]; exact HP18.2); have hp_ : Kd.R (Kd.int .i64) 3 bu w.heap.size (fun _ => True) (.slice (some ⟨go14, 0, none⟩) ad.length ap) aR := (by rw [hw, bj.out]; exact HP18.1); clear HP18; replace ah := A_ (Kd.S_after (v := (.slice (some ⟨go14, 0, none⟩) ad.length ap)) (v1 := (.slice (some ⟨go14, 0, none⟩) ad.length ap)) (ok := (fun _ => True)) (rS_ ah.out) hg (.inl rfl)); replace ak := A_ (hp_); replace HB := A_ ((by rw [hw]; exact below_set (HB.out) GB14.out : Below w.heap.size w bu)); clear hg hw hp_) | ((with_reducible refine gate_builtin (b := .append) (xs := #[.tmp 28, .tmp 30]) rfl ?_); at_builtin; refine Kd.S_append (Kd.slice 3 (Kd.int .i64)) (w0 := w) w.heap.size rfl (.tmp 28) (.tmp 30) 79 34 (.slice none 0 0) 24 rfl Tryz.underlying79 info34 rfl (by decide) (by omega) u5 ae aR [.slice (some ⟨go14, 0, none⟩) ad.length ap] (fun _ => True) (fun k_ => some k_ = (.slice (some ⟨go14, 0, none⟩) ad.length ap : Value).ownBlock) rfl rfl ?aP (fun k_ hk_ => ((Kd.R_mono (ok' := fun k_ => ((fun _ => True)) k_ ∧ some k_ ≠ (u5 : Value).ownBlock) (Kd.R_apart' (ak.out) (Kd.S_typed ah.out) (by decide)) (fun k_ hk => ⟨trivial, hk.2⟩))).1 k_ hk_.symm) ?aF ?aO ?aB ?aS ?aL ?_; (case aP => exact Kd.M_row (Kd.R_mono (Kd.R_tight rfl (Kd.R_mono (ok' := fun k_ => ((fun _ => True)) k_ ∧ some k_ ≠ (u5 : Value).ownBlock) (Kd.R_apart' (ak.out) (Kd.S_typed ah.out) (by decide)) (fun k_ hk => ⟨trivial, hk.2⟩))) (fun _ h_ => h_))); (case aB => exact (tb_ HB.out)); (case aF => exact (fun _ _ => trivial)); (case aO => exact (by refine qS_ ?_; exact Kd.S_mono ah.out (fun k_ hk => ⟨trivial, fun e_ => hk.2 e_⟩))); (case aS => exact (below_size (tb_ HB.out))); (case aL => have := bk.out; omega); intro bR b4 ho hb hg hat; rw [← bm.out] at ho; replace HB := A_ (hb); have bo := A_ (ho); clear ah ak ho hb hg hat))
      go_roundg k1
      case measure => have := HK1.out; omega
      case rel => exact ⟨(bl), (wrap64 (ab + 1)), tx_, H', ⟨by have := HK1.out; omega⟩, ⟨rS_ bo.out⟩, ⟨(tb_ HB.out)⟩⟩
     ·
      replace c9 := Bool.eq_false_iff.mpr c9; subst c9; replace H : (some ae) = some r := by rw [if_neg (show ¬ (false = true) by decide)] at H; exact H
      obtain rfl := Option.some.inj H; go_wp2_with (first | (go_at_call 27; (with_reducible refine (spec_l1In.calls a0 1 3 true _ A6.out).mono ?_); rintro e w' ⟨rfl, ⟨nd, rfl⟩⟩) | (go_at_call 27; (with_reducible refine (spec_l1In.calls a1 (-1) 3 false _ A8.out).mono ?_); rintro e w' ⟨rfl, ⟨nd, rfl⟩⟩)); go_ret; exact ⟨_, tw_, by refine qS_ ?_; exact ah.out, (tb_ HB.out)⟩
    ·
     replace c7 := Bool.eq_false_iff.mpr c7; subst c7; replace H : (some ae) = some r := by rw [if_neg (show ¬ (false = true) by decide)] at H; exact H
     obtain rfl := Option.some.inj H; go_wp2_with (first | (go_at_call 27; (with_reducible refine (spec_l1In.calls a0 1 3 false _ A6.out).mono ?_); rintro e w' ⟨rfl, ⟨nd, rfl⟩⟩)); go_ret; exact ⟨_, tw_, by refine qS_ ?_; exact ah.out, (tb_ HB.out)⟩
   ·
    obtain rfl := Option.some.inj H; go_wp2; go_ret; exact ⟨_, tw_, by refine qS_ ?_; exact ah.out, (tb_ HB.out)⟩

/-! ### spec_PlaceOk: function 33 -/
def spec_PlaceOk.j0 : Nat → Bool → List Int → Int → List Int → Option (Bool)
 | 0, _, _, _, _ => none
 | k + 1, x14, ar, aU, aV => if x14 = true then (some false) else ((spec_SameRule.f k (ar.length : Int) aU).bind fun aq => ((spec_AfterWord.f k ar aq aV).bind fun aI => (some aI.2)))
def spec_PlaceOk.f (k : Nat) (ac : List Int) (a0_1 : Int) (af : List Int) : Option (Bool) := (spec_StartOk.f k ac).bind fun aJ => (if aJ = true then ((spec_l1In.f a0_1 (-1) 3).bind fun al => (spec_PlaceOk.j0 k (!al) ac a0_1 af)) else (spec_PlaceOk.j0 k true ac a0_1 af))
theorem spec_PlaceOk.mono_l : ∀ k, (∀ y0 y1 y2 y3, LeO (spec_PlaceOk.j0 k y0 y1 y2 y3) (spec_PlaceOk.j0 (k + 1) y0 y1 y2 y3))
 | 0 => fun _ _ _ _ r h => by simp [spec_PlaceOk.j0] at h
 | k + 1 => by
  have ih0 := spec_PlaceOk.mono_l k
  ·
   intro y0 y1 y2 y3
   unfold spec_PlaceOk.j0
   repeat' (with_reducible first | exact ih0 _ _ _ _ | exact spec_AfterWord.mono _ _ _ _ | exact spec_SameRule.mono _ _ _ | exact spec_StartOk.mono _ _ | exact mr_ | exact mn_ | refine mi_ ?_ ?_ | refine mb_ ?_ (fun _ => ?_))
theorem spec_PlaceOk.mono : ∀ a0 a1 a2 k, LeO (spec_PlaceOk.f k a0 a1 a2) (spec_PlaceOk.f (k + 1) a0 a1 a2) := by
 intro a0 a1 a2 k; have ih0 := spec_PlaceOk.mono_l k; unfold spec_PlaceOk.f; repeat' (with_reducible first | exact ih0 _ _ _ _ | exact spec_AfterWord.mono _ _ _ _ | exact spec_SameRule.mono _ _ _ | exact spec_StartOk.mono _ _ | exact mr_ | exact mn_ | refine mi_ ?_ ?_ | refine mb_ ?_ (fun _ => ?_))
def spec_PlaceOk.T3 : Bool × List (List Nat × List Nat) := (true, [([], []), ([0], [0]), ([], []), ([2], [2]), ([3], [3]), ([], []), ([5], [5]), ([4, 6], [4, 6]), ([], []), ([8], [8]), ([1, 7, 9, 7], [1, 7, 9]), ([10], [10]), ([11], [11]), ([11], [11]), ([12, 10, 0, 1, 2, 3, 4, 5, 6, 7, 8, 9, 10, 11, 12], [12]), ([13, 14, 0, 1, 2, 3, 4, 5, 6, 7, 8, 9, 10, 11, 12, 13, 14], [13])])
def spec_PlaceOk.B3 : List Nat := [0, 1, 0, 4, 12, 0, 32, 124, 0, 256, 1023, 2047, 4095, 4095, 8191, 32767]
theorem spec_PlaceOk.tab3 : rtab .any (opsOf Tryz.f33 3) = spec_PlaceOk.T3 := by kernel_rfl
theorem spec_PlaceOk.bits3 : waitsOk spec_PlaceOk.T3.2 spec_PlaceOk.B3 = true := by kernel_rfl
theorem spec_PlaceOk.calls (k : Nat) (am : Option Addr) (an : Nat) (ac : List Int) (a0_1 : Int) (ax : Option Addr) (ay : Nat) (af : List Int) (r : Bool) (w : World) (hr0_0 : Kd.C (Kd.int .i64) w am ac.length ac) (hc0_0 : ac.length ≤ an) (hr0_2 : Kd.C (Kd.int .i64) w ax af.length af) (hc0_2 : af.length ≤ ay) (h : spec_PlaceOk.f k ac a0_1 af = some r) :
  Calls Tryz.prog 33 #[.agg #[.slice am ac.length an, .int .i64 a0_1, .slice ax af.length ay]] w fun e w' => e = .returned (.bool r) ∧ Below w.heap.size w w' := by
 have hu36 := Tryz.underlying36; have bJ := A_ hr0_0; have aK := A_ hc0_0; clear hr0_0 hc0_0; have bK := A_ hr0_2; have bp := A_ hc0_2; clear hr0_2 hc0_2; have HB := A_ (Below.refl w.heap.size w); have H : ((spec_StartOk.f k ac).bind fun aJ => (if aJ = true then ((spec_l1In.f a0_1 (-1) 3).bind fun al => (spec_PlaceOk.j0 k (!al) ac a0_1 af)) else (spec_PlaceOk.j0 k true ac a0_1 af))) = some r := h; clear h; have HC2 := A_ H; clear H; go_enter Tryz.func33, Tryz.ntmps33
 go_upto_region 1 with (first | ((with_reducible refine gate_dst (N := 1) rfl ?_); refine be_ 1 #[.slice am ac.length an, .int .i64 a0_1, .slice ax af.length ay] 36 ?_; intro au hg w3 aa hb; have bL := gx_ HB hg; have bM := gx_ HB hg; replace HB := bs_ HB hb; clear hb hg))
 (try simp only [Act.put, sa_, sb_, sc_])
 go_cut [14] (fun bS wc => ∃ (kq : Nat) (av : Bool), bS = .bool av ∧ Aside0 (spec_PlaceOk.j0 kq av ac a0_1 af = some r) ∧ Aside0 (kq ≤ k) ∧ Aside0 (wc.heap[au]? = some (.cells #[(.slice am ac.length an), .int .i64 a0_1, (.slice ax af.length ay)] 36 (0, 0))) ∧ Aside0 (Below w.heap.size w wc))
 case first =>
  have H := HC2.out; clear HC2; obtain ⟨aJ, A4, H⟩ := bnd_ H; (try dsimp only at H); by_cases c5 : aJ = true
  ·
   subst c5; replace H : ((spec_l1In.f a0_1 (-1) 3).bind fun al => (spec_PlaceOk.j0 k (!al) ac a0_1 af)) = some r := by rw [if_pos rfl] at H; exact H
   obtain ⟨al, A6, H⟩ := bnd_ H; (try dsimp only at H); have H' := A_ H; clear H; obtain ⟨a4, a5, a6, a7, a8, a9⟩ := cf3_ aa; go_wp2_with (first | ((with_reducible refine gate_callee (f := 56) rfl ?_); refine gl_ (some 7) Tryz.func56 #[.slice am ac.length an] ?_; (with_reducible refine (spec_StartOk.calls k _ _ ac true _ ?s1 ?s2 A4.out).mono ?_); (case s1 => exact tD_); (case s2 => exact aK.out); rintro e w' ⟨rfl, ⟨nd, rfl⟩⟩; refine ⟨_, rfl, ?_⟩) | (go_at_call 27; (with_reducible refine (spec_l1In.calls a0_1 (-1) 3 al _ A6.out).mono ?_); rintro e w' ⟨rfl, ⟨nd, rfl⟩⟩)); go_meet
   case rel => exact ⟨_, (!al), tx_, H', ⟨by first | omega | exact Nat.le_refl _⟩, ⟨tk_ aa.out⟩, ⟨(tb_ HB.out)⟩⟩
  ·
   replace c5 := Bool.eq_false_iff.mpr c5; subst c5; replace H : (spec_PlaceOk.j0 k true ac a0_1 af) = some r := by rw [if_neg (show ¬ (false = true) by decide)] at H; exact H
   have H' := A_ H; clear H; obtain ⟨bb, bc, bd, be, bf, bg⟩ := cf3_ aa; go_wp2_with (first | ((with_reducible refine gate_callee (f := 56) rfl ?_); refine gl_ (some 7) Tryz.func56 #[.slice am ac.length an] ?_; (with_reducible refine (spec_StartOk.calls k _ _ ac false _ ?s1 ?s2 A4.out).mono ?_); (case s1 => exact tD_); (case s2 => exact aK.out); rintro e w' ⟨rfl, ⟨nd, rfl⟩⟩; refine ⟨_, rfl, ?_⟩)); go_meet
   case rel => exact ⟨_, (true), tx_, H', ⟨by first | omega | exact Nat.le_refl _⟩, ⟨tk_ aa.out⟩, ⟨(tb_ HB.out)⟩⟩
 case rest =>
  clear HC2; obtain ⟨kq, av, rfl, HA, HJ1, aa, HB⟩ := hcut
  cases kq with
  | zero => exact absurd HA.out (by simp [spec_PlaceOk.j0])
  | succ kj1 =>
   have H := HA.out; clear HA; simp only [spec_PlaceOk.j0] at H; by_cases c9 : av = true
   ·
    subst c9; replace H : (some false) = some r := by rw [if_pos rfl] at H; exact H
    obtain rfl := Option.some.inj H; go_wp2; go_ret; exact ⟨tw_, (tb_ HB.out)⟩
   ·
    replace c9 := Bool.eq_false_iff.mpr c9; subst c9; replace H : ((spec_SameRule.f kj1 (ac.length : Int) a0_1).bind fun aq => ((spec_AfterWord.f kj1 ac aq af).bind fun aI => (some aI.2))) = some r := by rw [if_neg (show ¬ (false = true) by decide)] at H; exact H
    obtain ⟨aq, A10, H⟩ := bnd_ H; (try dsimp only at H); obtain ⟨⟨bv, bw⟩, A11, H⟩ := bnd_ H; (try dsimp only at H); obtain rfl := Option.some.inj H; (try go_wp2); replace aa := dB_ aa; replace HB := A_ (ld_ HB.out); refine sv_ (S := fun w' => w'.cell? ⟨au, 0, none⟩ = some (.slice am ac.length an) ∧ w'.cell? ⟨au, 1, none⟩ = some (.int .i64 a0_1) ∧ w'.cell? ⟨au, 2, none⟩ = some (.slice ax af.length ay)) (ds := []) hh_ (fun hHeld => ?_); refine with_tabW spec_PlaceOk.tab3 spec_PlaceOk.bits3 (fun HT_ HW_ => ?_); generalize wc.drew = bU at aa HB hHeld ⊢; refine pv_ 0 ?_; refine pv_ 2 ?_; refine pv_ 5 ?_; refine pv_ 8 ?_; refine tv_ 1 ?_; refine tv_ 3 ?_; refine pv_ 4 ?_; refine tv_ 6 ?_; refine tv_ 9 ?_; refine ov_ 7 (fun K hK => ?_); refine goes_ Tryz.func58 (by kernel_rfl) rfl #[.int .i64 (ac.length : Int), .int .i64 a0_1] (by rfl) rfl rfl tz_ ?_; (with_reducible refine (spec_SameRule.calls kj1 (ac.length : Int) a0_1 aq _ A10.out).mono ?_); rintro e bV ⟨bW, rfl, ho0, hb⟩; refine ⟨_, rfl, ?_⟩; have ao := A_ (Kd.S_lower ho0 (below_size (tb_ HB.out))); replace aa := bb_ aa hb; replace HB := bs_ HB hb; (try clear hb); (try clear hb2); (try clear hk); (try clear hi); (try clear ho0); obtain ⟨bx, ap, aH⟩ := Kd.S_slice ao.out; (first | subst aH | (injection aH with f1_ f2_ f3_; have f4_ := f1_.symm; have f5_ := f3_.symm; clear f1_ f2_ f3_; subst f4_; subst f5_)); refine hK.out _ _ hh_ (fun hHeld => ?_); clear hK K; refine nr_ 23 ?_; refine ov_ 10 (fun K hK => ?_); refine goes_ Tryz.func57 (by kernel_rfl) rfl #[.slice am ac.length an, .slice bx aq.length ap, .slice ax af.length ay] (by rfl) rfl rfl tz_ ?_; (with_reducible refine (spec_AfterWord.calls kj1 _ _ ac _ _ aq _ _ af bv bw _ ?s1 ?s2 ?s3 ?s4 ?s5 ?s6 A11.out).mono ?_); (case s1 => exact tD_); (case s2 => exact aK.out); (case s3 => repeat (first | exact (Kd.S_reads' ao.out).2.2 | (with_reducible refine Kd.C_alloc ?_ _) | (with_reducible refine Kd.C_drewN ?_ _) | (with_reducible refine Kd.C_drew ?_))); (case s4 => exact (Kd.S_reads' ao.out).2.1); (case s5 => exact tD_); (case s6 => exact bp.out); rintro e b5 ⟨bX, rfl, ho0, hb⟩; refine ⟨_, rfl, ?_⟩; replace ao := A_ (Kd.S_elder' (rS_ ao.out) (Kd.R_base ho0) hb); have bN := rx_ ho0 HB; replace aa := bb_ aa hb; replace HB := bs_ HB hb; (try clear hb); (try clear hb2); (try clear hk); (try clear hi); (try clear ho0); refine hK.out _ _ hh_ (fun hHeld => ?_); clear hK K; refine nr_ 26 ?_; refine pv_ 11 ?_; refine pv_ 12 ?_; refine pv_ 13 ?_; refine pv_ 14 ?_; refine pv_ 15 ?_; refine done_ (done_of HT_.out (by kernel_rfl)) ?_; (try go_wp2); go_ret; exact ⟨tw_, (tb_ HB.out)⟩

/-! ### spec_l1Number: function 79 -/
def spec_l1Number.f : Nat → Int → Option (ByteArray)
 | 0, _ => none
 | k + 1, a0 => if a0 < 10 then (some (strOfNums (([(wrap64 (48 + (mx a0 0))) % 256] : List Int)))) else ((spec_l1Number.f k (wrap64 (Int.tdiv a0 10))).bind fun ai => ((some (([(wrap64 (48 + (Int.tmod a0 10))) % 256] : List Int) : List Int)).bind fun aj => (if ai.size + (strOfNums aj).size ≤ 9223372036854775807 then (some (ai ++ (strOfNums aj))) else (none))))
theorem spec_l1Number.mono_l : ∀ k, (∀ y0, LeO (spec_l1Number.f k y0) (spec_l1Number.f (k + 1) y0))
 | 0 => fun _ r h => by simp [spec_l1Number.f] at h
 | k + 1 => by
  have ih0 := spec_l1Number.mono_l k
  ·
   intro y0
   unfold spec_l1Number.f
   repeat' (with_reducible first | exact ih0 _ | exact mr_ | exact mn_ | refine mi_ ?_ ?_ | refine mb_ ?_ (fun _ => ?_))
theorem spec_l1Number.mono : ∀ a0 k, LeO (spec_l1Number.f k a0) (spec_l1Number.f (k + 1) a0) := by
 intro a0 k; have ih0 := spec_l1Number.mono_l k; exact ih0 a0
def spec_l1Number.T3 : Bool × List (List Nat × List Nat) := (true, [([], []), ([0], [0]), ([1], [1]), ([], []), ([3], [3]), ([4], [4]), ([5], [5]), ([6], [6]), ([7], [7]), ([2, 8], [2, 8]), ([9, 2, 0, 1, 2, 3, 4, 5, 6, 7, 8, 9], [9])])
def spec_l1Number.B3 : List Nat := [0, 1, 3, 0, 8, 24, 56, 120, 248, 511, 1023]
theorem spec_l1Number.tab3 : rtab .any (opsOf Tryz.f79 3) = spec_l1Number.T3 := by kernel_rfl
theorem spec_l1Number.bits3 : waitsOk spec_l1Number.T3.2 spec_l1Number.B3 = true := by kernel_rfl
theorem spec_l1Number.calls (k : Nat) : ∀ (a0 : Int) (r : ByteArray) (w : World) (h : spec_l1Number.f k a0 = some r),
  Calls Tryz.prog 79 #[.int .i64 a0] w fun e w' => e = .returned (.string r) ∧ Below w.heap.size w w' := by
 induction k using Nat.strongRecOn with
 | _ k ih =>
 intro a0 r w h
 cases k with
 | zero => exact absurd h (by simp [spec_l1Number.f])
 | succ k =>
 simp only [spec_l1Number.f] at h; have HB := A_ (Below.refl w.heap.size w); have H : (if a0 < 10 then (some (strOfNums (([(wrap64 (48 + (mx a0 0))) % 256] : List Int)))) else ((spec_l1Number.f k (wrap64 (Int.tdiv a0 10))).bind fun ai => ((some (([(wrap64 (48 + (Int.tmod a0 10))) % 256] : List Int) : List Int)).bind fun aj => (if ai.size + (strOfNums aj).size ≤ 9223372036854775807 then (some (ai ++ (strOfNums aj))) else (none))))) = some r := h; clear h; replace H := it_ H; rcases H with ⟨bz, H⟩ | ⟨bz, H⟩
 ·
  obtain ⟨aW, aM⟩ : ∃ j_ : Int, (mx a0 0) = j_ := ⟨_, rfl⟩
  replace H : (some (strOfNums (([(wrap64 (48 + (aW))) % 256] : List Int)))) = some r := by first | (rw [aM] at H; exact H) | (simp only [aM] at H ⊢; exact H)
  (try (have hji3l : 0 ≤ aW := by (rw [← aM]; unfold mx; (repeat' split) <;> omega))); (try (have hji3m : 0 ≤ aW := by omega)); have hji3_ : (if a0 < 0 then 0 else a0) = aW := aM; obtain ⟨bB, aN⟩ : ∃ y_ : List Int, y_ = (([(wrap64 (48 + (aW))) % 256] : List Int)) := ⟨_, rfl⟩
  replace H : (some (strOfNums bB)) = some r := yq_ aN H; have aZ := A_ aN; clear aN; obtain rfl := Option.some.inj H; go_enter Tryz.func79, Tryz.ntmps79; go_wp2_with (first | ((with_reducible refine gate_dst (N := 9) rfl ?_); refine Kd.R_lit (Kd.int .u8) _ 5 ?hg (N := 9) ?hd (xs := ([(wrap64 (48 + (aW))) % 256] : List Int)) (inner := [.int .u8 ((wrap64 (48 + (aW))) % 256)]) (ok := fun _ => True) (okp := fun _ => True) ?hr ?hp (fun _ hk => hk) trivial (Below.refl _ _) (Nat.le_refl _) (by simp) ?_; (case hd => rfl); (case hg => rfl); (case hr => first | (go_simp; done) | (go_simp; rfl)); (case hp => exact (Reps.one (show Kd.M (Kd.int .u8) _ _ _ ((wrap64 (48 + (aW))) % 256) [.int .u8 ((wrap64 (48 + (aW))) % 256)] from rfl) (Reps.none _ _))); intro bZ w4 ho5 hb hg_ hnew_; clear hg_ hnew_; (first | rw [← aZ.out] at ho5 | (simp only [Int.reduceToNat] at ho5; rw [← aZ.out] at ho5)); have bq := rx_ ho5 HB; replace HB := bs_ HB hb; clear hb ho5; have hcv6 := own_string (P := Tryz.prog) Tryz.underlying22 Tryz.underlying5 Tryz.underlying9 (Kd.own_of_R bq.out))); go_ret; exact ⟨by first | rfl | (simp [errW_none, errW_some, Option.map_none, Option.map_some] <;> rfl) | (simp only [← aM]; first | rfl | (simp [errW_none, errW_some, Option.map_none, Option.map_some] <;> rfl)) | (simp [*, errW_none, errW_some] <;> rfl), (tb_ HB.out)⟩
 ·
  obtain ⟨ai, A7, H⟩ := bnd_ H; (try dsimp only at H); obtain ⟨aj, aQ⟩ : ∃ y_ : List Int, y_ = (([(wrap64 (48 + (Int.tmod a0 10))) % 256] : List Int)) := ⟨_, rfl⟩
  replace H : (if ai.size + (strOfNums aj).size ≤ 9223372036854775807 then (some (ai ++ (strOfNums aj))) else (none)) = some r := yq_ aQ H; have aw := A_ aQ; clear aQ; replace H := i0_ H; obtain ⟨c8, H⟩ := H; have b0 := eq_true c8; have b1 : decide (ai.size + (strOfNums aj).size ≤ 9223372036854775807) = true := decide_eq_true c8; (try have b2 : (9223372036854775807 < ai.size + (strOfNums aj).size) = False := eq_false (Nat.not_lt.2 c8)); obtain rfl := Option.some.inj H; go_enter Tryz.func79, Tryz.ntmps79; (try go_wp2); replace HB := A_ (ld_ HB.out); refine sv_ (S := fun w' => True) (ds := []) trivial (fun hHeld => ?_); refine with_tabW spec_l1Number.tab3 spec_l1Number.bits3 (fun HT_ HW_ => ?_); generalize w.drew = w9 at HB hHeld ⊢; refine pv_ 0 ?_; refine pv_ 1 ?_; refine pv_ 3 ?_; refine pv_ 4 ?_; refine pv_ 5 ?_; refine pv_ 6 ?_; refine join_ (σ := Value) 2 #[true, true, true, true, true, true, true, true, true, false, false] (fun s_ => [(13, .string ai), (18, s_), (19, .string (strOfNums aj))]) (fun s_ w' => (Kd.R (Kd.int .u8) 5 w' w.heap.size (fun _ => True) s_ aj) ∧ (Below w.heap.size w w')) ?_ ?_; rotate_left
  ·
   intro hCont; refine wv_ 2 7 (fun K hK => ?_) (fun K hK => ?_)
   ·
    skip; refine goes_ Tryz.func79 (by kernel_rfl) rfl #[.int .i64 (wrap64 (Int.tdiv a0 10))] (by rfl) rfl rfl tz_ ?_; (with_reducible refine (ih k (by omega) (wrap64 (Int.tdiv a0 10)) ai _ A7.out).mono ?_); rintro e b3 ⟨rfl, hb⟩; refine ⟨_, rfl, ?_⟩; replace HB := bs_ HB hb; (try clear hb); (try clear hb2); (try clear hk); (try clear hi); refine hK.out _ _ trivial (fun hHeld => ?_); clear hK K; refine nr_ 13 ?_; refine ov_ 7 (fun K hK => ?_); refine Kd.R_lit_step (Kd.int .u8) _ 5 ?hg (N := 18) ?hd (xs := ([(wrap64 (48 + (Int.tmod a0 10))) % 256] : List Int)) (inner := [.int .u8 ((wrap64 (48 + (Int.tmod a0 10))) % 256)]) (ok := fun _ => True) (okp := fun _ => True) ?hr ?hp (fun _ hk => hk) trivial (Below.refl _ _) (Nat.le_refl _) (by simp) ?_; (case hd => rfl); (case hg => rfl); (case hr => first | (go_simp; done) | (go_simp; rfl)); (case hp => exact (Reps.one (show Kd.M (Kd.int .u8) _ _ _ ((wrap64 (48 + (Int.tmod a0 10))) % 256) [.int .u8 ((wrap64 (48 + (Int.tmod a0 10))) % 256)] from rfl) (Reps.none _ _))); intro az b6 ho12 hb hg_ hnew_; clear hg_ hnew_; (first | rw [← aw.out] at ho12 | (simp only [Int.reduceToNat] at ho12; rw [← aw.out] at ho12)); have ag := rx_ ho12 HB; replace HB := bs_ HB hb; clear hb ho12; refine hK.out _ _ trivial (fun hHeld => ?_); clear hK K; refine nr_ 18 ?_; refine ov_ 8 (fun K hK => ?_); have hcv13 := own_string (P := Tryz.prog) Tryz.underlying22 Tryz.underlying5 Tryz.underlying9 (Kd.own_of_R ag.out); refine va_ rfl ?_; clear hcv13; refine hK.out _ _ trivial (fun hHeld => ?_); clear hK K; refine nr_ 19 ?_; exact nq_ (hCont (az) _ ⟨(rR_ ag.out), (tb_ HB.out)⟩)
   ·
    skip; refine Kd.R_lit_step (Kd.int .u8) _ 5 ?hg (N := 18) ?hd (xs := ([(wrap64 (48 + (Int.tmod a0 10))) % 256] : List Int)) (inner := [.int .u8 ((wrap64 (48 + (Int.tmod a0 10))) % 256)]) (ok := fun _ => True) (okp := fun _ => True) ?hr ?hp (fun _ hk => hk) trivial (Below.refl _ _) (Nat.le_refl _) (by simp) ?_; (case hd => rfl); (case hg => rfl); (case hr => first | (go_simp; done) | (go_simp; rfl)); (case hp => exact (Reps.one (show Kd.M (Kd.int .u8) _ _ _ ((wrap64 (48 + (Int.tmod a0 10))) % 256) [.int .u8 ((wrap64 (48 + (Int.tmod a0 10))) % 256)] from rfl) (Reps.none _ _))); intro az b3 ho11 hb hg_ hnew_; clear hg_ hnew_; (first | rw [← aw.out] at ho11 | (simp only [Int.reduceToNat] at ho11; rw [← aw.out] at ho11)); have ag := rx_ ho11 HB; replace HB := bs_ HB hb; clear hb ho11; refine hK.out _ _ trivial (fun hHeld => ?_); clear hK K; refine nr_ 18 ?_; refine wv_ 2 8 (fun K hK => ?_) (fun K hK => ?_)
    ·
     skip; refine goes_ Tryz.func79 (by kernel_rfl) rfl #[.int .i64 (wrap64 (Int.tdiv a0 10))] (by rfl) rfl rfl tz_ ?_; (with_reducible refine (ih k (by omega) (wrap64 (Int.tdiv a0 10)) ai _ A7.out).mono ?_); rintro e bU ⟨rfl, hb⟩; refine ⟨_, rfl, ?_⟩; replace ag := rb_ ag hb; replace HB := bs_ HB hb; (try clear hb); (try clear hb2); (try clear hk); (try clear hi); refine hK.out _ _ trivial (fun hHeld => ?_); clear hK K; refine nr_ 13 ?_; refine ov_ 8 (fun K hK => ?_); have hcv13 := own_string (P := Tryz.prog) Tryz.underlying22 Tryz.underlying5 Tryz.underlying9 (Kd.own_of_R ag.out); refine va_ rfl ?_; clear hcv13; refine hK.out _ _ trivial (fun hHeld => ?_); clear hK K; refine nr_ 19 ?_; exact nq_ (hCont (az) _ ⟨(rR_ ag.out), (tb_ HB.out)⟩)
    ·
     skip; have hcv12 := own_string (P := Tryz.prog) Tryz.underlying22 Tryz.underlying5 Tryz.underlying9 (Kd.own_of_R ag.out); refine va_ rfl ?_; clear hcv12; refine hK.out _ _ trivial (fun hHeld => ?_); clear hK K; refine nr_ 19 ?_; refine ov_ 2 (fun K hK => ?_); refine goes_ Tryz.func79 (by kernel_rfl) rfl #[.int .i64 (wrap64 (Int.tdiv a0 10))] (by rfl) rfl rfl tz_ ?_; (with_reducible refine (ih k (by omega) (wrap64 (Int.tdiv a0 10)) ai _ A7.out).mono ?_); rintro e bV ⟨rfl, hb⟩; refine ⟨_, rfl, ?_⟩; replace ag := rb_ ag hb; replace HB := bs_ HB hb; (try clear hb); (try clear hb2); (try clear hk); (try clear hi); refine hK.out _ _ trivial (fun hHeld => ?_); clear hK K; refine nr_ 13 ?_; exact nq_ (hCont (az) _ ⟨(rR_ ag.out), (tb_ HB.out)⟩)
  rintro az bO ⟨h0_, h1_⟩; have ag : Aside0 (Kd.R (Kd.int .u8) 5 bO w.heap.size (fun _ => True) az aj) := ⟨h0_⟩
  replace HB : Aside0 (Below w.heap.size w bO) := ⟨h1_⟩
  clear h0_ h1_; have hHeld := trivial; refine norm_ (a' := ?_) ?_ ?_; rotate_left
  ·
   simp only [putAll, Act.put, sa_, sb_, sc_]; rfl
  refine pv_ 9 ?_; refine pv_ 10 ?_; refine done_ (done_of HT_.out (by kernel_rfl)) ?_; (try go_wp2); go_ret; exact ⟨tw_, (tb_ HB.out)⟩
end Go.Proofs.YtmcibffagofkjaaGreatDoor.MFnStoreSync
