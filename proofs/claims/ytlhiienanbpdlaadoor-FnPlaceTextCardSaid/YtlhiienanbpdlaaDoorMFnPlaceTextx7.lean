/- For the law FnPlaceText: walks of the functions that it reaches: each call returns what the plain function beside it tells. The conditions stand in each statement. -/
import Derived.Test.YtlhiienanbpdlaaDoorV
import Derived.Test.YtlhiienanbpdlaaDoorMFnPlaceTextx0
import Derived.Test.YtlhiienanbpdlaaDoorMFnPlaceTextx5
import Derived.Test.YtlhiienanbpdlaaDoorMFnPlaceTextx6
namespace Go.Proofs.YtlhiienanbpdlaaDoor.MFnPlaceText
open Go.RowKit Go.Proofs.YtlhiienanbpdlaaDoorW.PrintWords Go.Proofs.YtlhiienanbpdlaaDoorW.PrintLast Go.Proofs.YtlhiienanbpdlaaDoorW.PrintMore
attribute [local go_sem] max2_int min2_int max_two min_two max_three min_three max_four min_four   -- for this text's walks alone
set_option linter.unusedVariables false
set_option linter.unusedSimpArgs false

/-! ### spec_SameRule: function 118 -/
def spec_SameRule.l0 : Nat → Int → Int → List (List Int) → Int → Option ((List (List Int)))
 | 0, _, _, _, _ => none
 | k + 1, x0, x1, x5, x6 => if x6 < x0 then ((spec_l1In.f x0 1 3).bind fun a9 => (if a9 = true then ((spec_l1In.f x1 (-1) 3).bind fun aJ => (if aJ = true then (if 0 ≤ x0 then (if (x0 : Int).toNat ≤ 35184372088832 then ((some (List.replicate (x0 : Int).toNat 0 : List Int)).bind fun ah => (if 0 ≤ x6 then (if x6 < (ah.length : Int) then (if x5.length < 5864062014805 then (spec_SameRule.l0 k x0 x1 (x5 ++ [(ah.set (x6 : Int).toNat x1)]) (wrap64 (x6 + 1))) else (none)) else (none)) else (none))) else (none)) else (none)) else (some x5))) else (some x5))) else (some x5)
def spec_SameRule.f (k : Nat) (a0 : Int) (a1 : Int) : Option ((List (List Int))) := spec_SameRule.l0 k a0 a1 (([] : List (List Int))) 0
theorem spec_SameRule.mono_l : ∀ k, (∀ y0 y1 y2 y3, LeO (spec_SameRule.l0 k y0 y1 y2 y3) (spec_SameRule.l0 (k + 1) y0 y1 y2 y3))
 | 0 => fun _ _ _ _ r h => by simp [spec_SameRule.l0] at h
 | k + 1 => by
  have ih0 := spec_SameRule.mono_l k
  ·
   intro y0 y1 y2 y3
   unfold spec_SameRule.l0
   repeat' (with_reducible first | exact ih0 _ _ _ _ | exact mr_ | exact mn_ | refine mi_ ?_ ?_ | refine mb_ ?_ (fun _ => ?_))
theorem spec_SameRule.mono : ∀ a0 a1 k, LeO (spec_SameRule.f k a0 a1) (spec_SameRule.f (k + 1) a0 a1) := by
 intro a0 a1 k
 have ih0 := spec_SameRule.mono_l k
 unfold spec_SameRule.f
 repeat' (with_reducible first | exact ih0 _ _ _ _ | exact mr_ | exact mn_ | refine mi_ ?_ ?_ | refine mb_ ?_ (fun _ => ?_))
set_option maxHeartbeats 8000000 in
set_option maxRecDepth 100000 in
theorem spec_SameRule.calls (k : Nat) (a0 : Int) (a1 : Int) (r : List (List Int)) (w : World) (h : spec_SameRule.f k a0 a1 = some r) :
  Calls Tryd.prog 118 #[.int .i64 a0, .int .i64 a1] w fun e w' => ∃ v0_ : Value, e = .returned (v0_) ∧ Kd.S (Kd.slice 3 (Kd.int .i64)) 23 w' w.heap.size (fun _ => True) v0_ r ∧ Below w.heap.size w w' := by
 have HB := Aside0.mk (Below.refl w.heap.size w)
 have H : (spec_SameRule.l0 k a0 a1 (([] : List (List Int))) 0) = some r := h
 clear h
 obtain ⟨bu, aK⟩ : ∃ y_ : List (List Int), y_ = (([] : List (List Int))) := ⟨_, rfl⟩
 replace H : (spec_SameRule.l0 k a0 a1 bu 0) = some r := yq_ aK H
 have a6 := Aside0.mk aK
 clear aK
 have H' := Aside0.mk H
 clear H
 go_enter Tryd.func118, Tryd.ntmps118
 go_wp2_with (first | ((with_reducible refine gate_dst (N := 8) rfl ?_); refine Kd.S_lit (Kd.slice 3 (Kd.int .i64)) _ 23 ?hg (N := 8) ?hd (xs := ([] : List (List Int))) (inner := []) (ok := fun _ => True) (okp := fun _ => True) ?hr ?hp (fun _ hk => hk) trivial (Below.refl _ _) (Nat.le_refl _) (by simp) ?_; (case hd => rfl); (case hg => rfl); (case hr => first | (go_simp; done) | (go_simp; rfl)); (case hp => exact (Reps.none _ _)); intro ch w3 ho4 hb hg_ hnew_; clear hg_ hnew_; (first | rw [← a6.out] at ho4 | (simp only [Int.reduceToNat] at ho4; rw [← a6.out] at ho4)); have bv := Aside0.mk (Kd.S_lower ho4 (below_size (tb_ HB.out))); replace HB := bs_ HB hb; clear hb ho4))
 go_loopg [5, 6] k (fun kq v5 v6 w' => ∃ (ai : List (List Int)) (ad : Int), v6 = .int .i64 ad ∧ Aside0 (spec_SameRule.l0 kq a0 a1 ai ad = some r) ∧ Aside0 (kq ≤ k) ∧ Aside0 (Kd.S (Kd.slice 3 (Kd.int .i64)) 23 w' w.heap.size (fun _ => True) v5 ai) ∧ Aside0 (Below w.heap.size w w'))
 case atStart => exact ⟨(bu), (0), tx_, H', ⟨Nat.le_refl _⟩, ⟨rS_ bv.out⟩, ⟨(tb_ HB.out)⟩⟩
 case round =>
  clear H'
  try clear c1
  try clear p2
  obtain ⟨ai, ad, rfl, HA, HK1, ak, HB⟩ := hrel
  cases gk with
  | zero => exact absurd HA.out (by simp [spec_SameRule.l0])
  | succ k1 =>
   have H := HA.out
   clear HA
   simp only [spec_SameRule.l0] at H
   by_cases c5 : ad < a0
   ·
    rw [if_pos c5] at H
    have ao : decide (ad < a0) = true := decide_eq_true c5
    clear c5
    obtain ⟨a9, A6, H⟩ := bnd_ H
    try dsimp only at H
    by_cases c7 : a9 = true
    ·
     subst c7
     have H1 : ((spec_l1In.f a1 (-1) 3).bind fun aJ => (if aJ = true then (if 0 ≤ a0 then (if (a0 : Int).toNat ≤ 35184372088832 then ((some (List.replicate (a0 : Int).toNat 0 : List Int)).bind fun ah => (if 0 ≤ ad then (if ad < (ah.length : Int) then (if ai.length < 5864062014805 then (spec_SameRule.l0 k1 a0 a1 (ai ++ [(ah.set (ad : Int).toNat a1)]) (wrap64 (ad + 1))) else (none)) else (none)) else (none))) else (none)) else (none)) else (some ai))) = some r := by rw [if_pos rfl] at H; exact H
     clear H
     have H := H1
     clear H1
     obtain ⟨aJ, A8, H⟩ := bnd_ H
     try dsimp only at H
     by_cases c9 : aJ = true
     ·
      subst c9
      have H1 : (if 0 ≤ a0 then (if (a0 : Int).toNat ≤ 35184372088832 then ((some (List.replicate (a0 : Int).toNat 0 : List Int)).bind fun ah => (if 0 ≤ ad then (if ad < (ah.length : Int) then (if ai.length < 5864062014805 then (spec_SameRule.l0 k1 a0 a1 (ai ++ [(ah.set (ad : Int).toNat a1)]) (wrap64 (ad + 1))) else (none)) else (none)) else (none))) else (none)) else (none)) = some r := by rw [if_pos rfl] at H; exact H
      clear H
      have H := H1
      clear H1
      by_cases c10 : 0 ≤ a0
      ·
       rw [if_pos c10] at H
       have bw := eq_true c10
       have b0 : decide (0 ≤ a0) = true := decide_eq_true c10
       clear c10
       by_cases c11 : (a0 : Int).toNat ≤ 35184372088832
       ·
        rw [if_pos c11] at H
        have bx := eq_true c11
        have bz : decide ((a0 : Int).toNat ≤ 35184372088832) = true := decide_eq_true c11
        clear c11
        obtain ⟨ah, aM⟩ : ∃ y_ : List Int, y_ = (List.replicate (a0 : Int).toNat 0) := ⟨_, rfl⟩
        replace H : (if 0 ≤ ad then (if ad < (ah.length : Int) then (if ai.length < 5864062014805 then (spec_SameRule.l0 k1 a0 a1 (ai ++ [(ah.set (ad : Int).toNat a1)]) (wrap64 (ad + 1))) else (none)) else (none)) else (none)) = some r := yq_ aM H
        have a7 := Aside0.mk aM
        clear aM
        by_cases c12 : 0 ≤ ad
        ·
         rw [if_pos c12] at H
         have b1 : decide (0 ≤ ad) = true := decide_eq_true c12
         clear c12
         by_cases c13 : ad < (ah.length : Int)
         ·
          rw [if_pos c13] at H
          have bB : decide (ad < (ah.length : Int)) = true := decide_eq_true c13
          clear c13
          obtain ⟨a3, aN⟩ : ∃ y_ : List Int, y_ = (ah.set (ad : Int).toNat a1) := ⟨_, rfl⟩
          replace H : (if ai.length < 5864062014805 then (spec_SameRule.l0 k1 a0 a1 (ai ++ [a3]) (wrap64 (ad + 1))) else (none)) = some r := yq_ aN H
          have bC := Aside0.mk aN
          clear aN
          by_cases c15 : ai.length < 5864062014805
          ·
           rw [if_pos c15] at H
           have bD := Aside0.mk c15
           clear c15
           obtain ⟨bE, aQ⟩ : ∃ y_ : List (List Int), y_ = (ai ++ [a3]) := ⟨_, rfl⟩
           replace H : (spec_SameRule.l0 k1 a0 a1 bE (wrap64 (ad + 1))) = some r := yq_ aQ H
           have bF := Aside0.mk aQ
           clear aQ
           have H' := Aside0.mk H
           clear H
           go_wp2_with (first | (go_at_call 99; (with_reducible refine (spec_l1In.calls a0 1 3 true _ A6.out).mono ?_); rintro e w' ⟨rfl, ⟨nd, rfl⟩⟩; (try (rw [drewN_self wr]; generalize hq_ : World.drewN wr _ = wr; have n0_ : Aside0 (Kd.S (Kd.slice 3 (Kd.int .i64)) 23 wr w.heap.size (fun _ => True) u5 ai) := ⟨by rw [← hq_]; exact (rS_ ak.out)⟩; have n1_ : Aside0 (Below w.heap.size w wr) := ⟨by rw [← hq_]; exact (tb_ HB.out)⟩; clear ak HB hq_; have ak := n0_; have HB := n1_; clear n0_ n1_))) | (go_at_call 99; (with_reducible refine (spec_l1In.calls a1 (-1) 3 true _ A8.out).mono ?_); rintro e w' ⟨rfl, ⟨nd, rfl⟩⟩; (try (rw [drewN_self wr]; generalize hq_ : World.drewN wr _ = wr; have n0_ : Aside0 (Kd.S (Kd.slice 3 (Kd.int .i64)) 23 wr w.heap.size (fun _ => True) u5 ai) := ⟨by rw [← hq_]; exact (rS_ ak.out)⟩; have n1_ : Aside0 (Below w.heap.size w wr) := ⟨by rw [← hq_]; exact (tb_ HB.out)⟩; clear ak HB hq_; have ak := n0_; have HB := n1_; clear n0_ n1_))) | ((with_reducible refine gate_dst (N := 23) rfl ?_); refine Kd.R_make (Kd.int .i64) _ 3 rfl (N := 23) rfl 23 _ _ rfl a0 rfl rfl Tryd.underlying23 (.int .i64 0) 8 info3 rfl (by decide) (by omega) 0 (ok := fun _ => True) (okp := fun _ => True) rfl (fun _ hk => hk) trivial (od_) (Nat.le_trans (Nat.mul_le_mul_right _ (od_ : a0.toNat ≤ 35184372088832)) (by omega)) (Below.refl _ _) (Nat.le_refl _) ?_; intro ci b2 ho17 hb hg_ hnew_; clear hg_ hnew_; (first | rw [← a7.out] at ho17 | (simp only [Int.reduceToNat] at ho17; rw [← a7.out] at ho17)); replace ak := Aside0.mk (Kd.S_elder' (rS_ ak.out) (Kd.R_base ho17) hb); have am := rx_ ho17 HB; replace HB := bs_ HB hb; clear hb ho17; have p14 : 0 ≤ (ad : Int) := od_; have q14 : (ad : Int) < ((ah.length : Int) : Int) := od_; obtain ⟨go14, aw, aR, bG, gl14, cl14, HG14⟩ := Kd.R_form am.out (by omega); (first | cases aR | (injection aR with ea_ en_ ec_; (first | subst ea_ | (injection ea_ with ea_; subst ea_)); subst ec_; clear en_)); have GB14 := Aside0.mk bG; have GG14 := Aside0.mk HG14; clear bG gl14 HG14; obtain ⟨bQ, hf14_0⟩ := Kd.R_celln 0 am.out (ad : Int) p14 q14; replace p14 := eq_true p14; replace q14 := eq_true q14; obtain ⟨hy18_, hz18_⟩ := Kd.R_celln 0 am.out (ad : Int) (od_) (od_); have HP18 := Kd.R_putg am.out (ad : Int) a1) | ((with_reducible refine gate_store (t := 3) (p := 27) rfl ?_); refine store_event (t := 3) (p := 27) (v := ?vo_w19) (w1 := (b2.setCell ⟨go14, (ad : Int).toNat, none⟩ (.int .i64 a1))) ?hg ?ho ?hn ?hr ?_; (case ho => rfl); (case hg => rfl); (case hn => rfl); (case hr => first | (go_simp; done) | (go_simp; rfl)); intro bR hw; have hg : b2.grownBy bR (some go14) := (by rw [hw]; exact HP18.2); have hp_ : Kd.R (Kd.int .i64) 3 bR w.heap.size (fun _ => True) (.slice (some ⟨go14, 0, none⟩) ah.length aw) a3 := (by rw [hw, bC.out]; exact HP18.1); clear HP18; replace ak := Aside0.mk (Kd.S_after (v := (.slice (some ⟨go14, 0, none⟩) ah.length aw)) (v1 := (.slice (some ⟨go14, 0, none⟩) ah.length aw)) (ok := (fun _ => True)) (rS_ ak.out) hg (.inl rfl)); replace am := Aside0.mk (hp_); replace HB := Aside0.mk ((by rw [hw]; exact below_set (HB.out) GB14.out : Below w.heap.size w bR)); clear hg hw hp_) | ((with_reducible refine gate_builtin (b := .append) (xs := #[.tmp 28, .tmp 30]) rfl ?_); at_builtin; refine Kd.S_append (Kd.slice 3 (Kd.int .i64)) (w0 := w) w.heap.size rfl (.tmp 28) (.tmp 30) 38 23 (.slice none 0 0) 24 rfl Tryd.underlying38 info23 rfl (by decide) (by omega) u5 ai a3 [.slice (some ⟨go14, 0, none⟩) ah.length aw] (fun _ => True) (fun k_ => some k_ = (.slice (some ⟨go14, 0, none⟩) ah.length aw : Value).ownBlock) rfl rfl ?aP (fun k_ hk_ => ((Kd.R_mono (ok' := fun k_ => ((fun _ => True)) k_ ∧ some k_ ≠ (u5 : Value).ownBlock) (Kd.R_apart' (am.out) (Kd.S_typed ak.out) (by decide)) (fun k_ hk => ⟨trivial, hk.2⟩))).1 k_ hk_.symm) ?aF ?aO ?aB ?aS ?aL ?_; (case aP => exact Kd.M_row (Kd.R_mono (Kd.R_tight rfl (Kd.R_mono (ok' := fun k_ => ((fun _ => True)) k_ ∧ some k_ ≠ (u5 : Value).ownBlock) (Kd.R_apart' (am.out) (Kd.S_typed ak.out) (by decide)) (fun k_ hk => ⟨trivial, hk.2⟩))) (fun _ h_ => h_))); (case aB => exact (tb_ HB.out)); (case aF => exact (fun _ _ => trivial)); (case aO => exact (by refine qS_ ?_; exact Kd.S_mono ak.out (fun k_ hk => ⟨trivial, fun e_ => hk.2 e_⟩))); (case aS => exact (below_size (tb_ HB.out))); (case aL => have := bD.out; omega); intro cj co ho hb hg hat; rw [← bF.out] at ho; replace HB := Aside0.mk (hb); have bH := Aside0.mk (ho); clear ak am ho hb hg hat))
           go_roundg k1
           case measure => have := HK1.out; omega
           case rel => exact ⟨(bE), (wrap64 (ad + 1)), tx_, H', ⟨by have := HK1.out; omega⟩, ⟨rS_ bH.out⟩, ⟨(tb_ HB.out)⟩⟩
          ·
           rw [if_neg c15] at H
           exact absurd H (by simp)
         ·
          rw [if_neg c13] at H
          exact absurd H (by simp)
        ·
         rw [if_neg c12] at H
         exact absurd H (by simp)
       ·
        rw [if_neg c11] at H
        exact absurd H (by simp)
      ·
       rw [if_neg c10] at H
       exact absurd H (by simp)
     ·
      replace c9 := Bool.eq_false_iff.mpr c9
      subst c9
      have H1 : (some ai) = some r := by rw [if_neg (show ¬ (false = true) by decide)] at H; exact H
      clear H
      have H := H1
      clear H1
      obtain rfl := Option.some.inj H
      go_wp2_with (first | (go_at_call 99; (with_reducible refine (spec_l1In.calls a0 1 3 true _ A6.out).mono ?_); rintro e w' ⟨rfl, ⟨nd, rfl⟩⟩) | (go_at_call 99; (with_reducible refine (spec_l1In.calls a1 (-1) 3 false _ A8.out).mono ?_); rintro e w' ⟨rfl, ⟨nd, rfl⟩⟩))
      go_ret
      exact ⟨_, tw_, by refine qS_ ?_; exact ak.out, (tb_ HB.out)⟩
    ·
     replace c7 := Bool.eq_false_iff.mpr c7
     subst c7
     have H1 : (some ai) = some r := by rw [if_neg (show ¬ (false = true) by decide)] at H; exact H
     clear H
     have H := H1
     clear H1
     obtain rfl := Option.some.inj H
     go_wp2_with (first | (go_at_call 99; (with_reducible refine (spec_l1In.calls a0 1 3 false _ A6.out).mono ?_); rintro e w' ⟨rfl, ⟨nd, rfl⟩⟩))
     go_ret
     exact ⟨_, tw_, by refine qS_ ?_; exact ak.out, (tb_ HB.out)⟩
   ·
    rw [if_neg c5] at H
    have ao : decide (ad < a0) = false := decide_eq_false c5
    clear c5
    obtain rfl := Option.some.inj H
    go_wp2
    go_ret
    exact ⟨_, tw_, by refine qS_ ?_; exact ak.out, (tb_ HB.out)⟩

/-! ### spec_PlaceOk: function 73 -/
def spec_PlaceOk.j0 : Nat → Bool → List Int → Int → List Int → Option (Bool)
 | 0, _, _, _, _ => none
 | k + 1, x14, ay, a4, a5 => if x14 = true then (some false) else ((spec_SameRule.f k (ay.length : Int) a4).bind fun ax => ((spec_AfterWord.f k ay ax a5).bind fun aU => (some aU.2)))
def spec_PlaceOk.f (k : Nat) (af : List Int) (a0_1 : Int) (aj : List Int) : Option (Bool) := (spec_StartOk.f k af).bind fun aV => (if aV = true then ((spec_l1In.f a0_1 (-1) 3).bind fun ap => (spec_PlaceOk.j0 k (!ap) af a0_1 aj)) else (spec_PlaceOk.j0 k true af a0_1 aj))
theorem spec_PlaceOk.mono_l : ∀ k, (∀ y0 y1 y2 y3, LeO (spec_PlaceOk.j0 k y0 y1 y2 y3) (spec_PlaceOk.j0 (k + 1) y0 y1 y2 y3))
 | 0 => fun _ _ _ _ r h => by simp [spec_PlaceOk.j0] at h
 | k + 1 => by
  have ih0 := spec_PlaceOk.mono_l k
  ·
   intro y0 y1 y2 y3
   unfold spec_PlaceOk.j0
   repeat' (with_reducible first | exact ih0 _ _ _ _ | exact spec_AfterWord.mono _ _ _ _ | exact spec_SameRule.mono _ _ _ | exact spec_StartOk.mono _ _ | exact mr_ | exact mn_ | refine mi_ ?_ ?_ | refine mb_ ?_ (fun _ => ?_))
theorem spec_PlaceOk.mono : ∀ a0 a1 a2 k, LeO (spec_PlaceOk.f k a0 a1 a2) (spec_PlaceOk.f (k + 1) a0 a1 a2) := by
 intro a0 a1 a2 k
 have ih0 := spec_PlaceOk.mono_l k
 unfold spec_PlaceOk.f
 repeat' (with_reducible first | exact ih0 _ _ _ _ | exact spec_AfterWord.mono _ _ _ _ | exact spec_SameRule.mono _ _ _ | exact spec_StartOk.mono _ _ | exact mr_ | exact mn_ | refine mi_ ?_ ?_ | refine mb_ ?_ (fun _ => ?_))
def spec_PlaceOk.T3 : Bool × List (List Nat × List Nat) := (true, [([], []), ([0], [0]), ([], []), ([2], [2]), ([3], [3]), ([], []), ([5], [5]), ([4, 6], [4, 6]), ([], []), ([8], [8]), ([1, 7, 9, 7], [1, 7, 9]), ([10], [10]), ([11], [11]), ([11], [11]), ([12, 10, 0, 1, 2, 3, 4, 5, 6, 7, 8, 9, 10, 11, 12], [12]), ([13, 14, 0, 1, 2, 3, 4, 5, 6, 7, 8, 9, 10, 11, 12, 13, 14], [13])])
def spec_PlaceOk.B3 : List Nat := [0, 1, 0, 4, 12, 0, 32, 124, 0, 256, 1023, 2047, 4095, 4095, 8191, 32767]
theorem spec_PlaceOk.tab3 : rtab .any (opsOf Tryd.f73 3) = spec_PlaceOk.T3 := by kernel_rfl
theorem spec_PlaceOk.bits3 : waitsOk spec_PlaceOk.T3.2 spec_PlaceOk.B3 = true := by kernel_rfl
set_option maxHeartbeats 8000000 in
set_option maxRecDepth 100000 in
theorem spec_PlaceOk.calls (k : Nat) (aq : Option Addr) (ar : Nat) (af : List Int) (a0_1 : Int) (aH : Option Addr) (aI : Nat) (aj : List Int) (r : Bool) (w : World) (hr0_0 : Kd.C (Kd.int .i64) w aq af.length af) (hc0_0 : af.length ≤ ar) (hr0_2 : Kd.C (Kd.int .i64) w aH aj.length aj) (hc0_2 : aj.length ≤ aI) (h : spec_PlaceOk.f k af a0_1 aj = some r) :
  Calls Tryd.prog 73 #[.agg #[.slice aq af.length ar, .int .i64 a0_1, .slice aH aj.length aI]] w fun e w' => e = .returned (.bool r) ∧ Below w.heap.size w w' := by
 have hu25 := Tryd.underlying25
 have b3 := Aside0.mk hr0_0
 have aW := Aside0.mk hc0_0
 clear hr0_0 hc0_0
 have b4 := Aside0.mk hr0_2
 have bI := Aside0.mk hc0_2
 clear hr0_2 hc0_2
 have HB := Aside0.mk (Below.refl w.heap.size w)
 have H : ((spec_StartOk.f k af).bind fun aV => (if aV = true then ((spec_l1In.f a0_1 (-1) 3).bind fun ap => (spec_PlaceOk.j0 k (!ap) af a0_1 aj)) else (spec_PlaceOk.j0 k true af a0_1 aj))) = some r := h
 clear h
 have HC2 := Aside0.mk H
 clear H
 go_enter Tryd.func73, Tryd.ntmps73
 go_upto_region 1 with (first | ((with_reducible refine gate_dst (N := 1) rfl ?_); refine box_event ?hg (N := 1) ?hd (cs := #[.slice aq af.length ar, .int .i64 a0_1, .slice aH aj.length aI]) (t := 25) ?hr ?_; (case hd => rfl); (case hg => rfl); (case hr => first | (go_simp; done) | (go_simp; rfl)); intro az hg w3 hbox hb; have ac := Aside0.mk (hbox); have b5 := gx_ HB hg; have b6 := gx_ HB hg; replace HB := bs_ HB hb; clear hb hbox hg))
 (try simp only [Act.put, sa_, sb_, sc_])
 go_cut [14] (fun ck wc => ∃ (kq : Nat) (aA : Bool), ck = .bool aA ∧ Aside0 (spec_PlaceOk.j0 kq aA af a0_1 aj = some r) ∧ Aside0 (kq ≤ k) ∧ Aside0 (wc.heap[az]? = some (.cells #[(.slice aq af.length ar), .int .i64 a0_1, (.slice aH aj.length aI)] 25 (0, 0))) ∧ Aside0 (Below w.heap.size w wc))
 case first =>
  have H := HC2.out
  clear HC2
  obtain ⟨aV, A4, H⟩ := bnd_ H
  try dsimp only at H
  by_cases c5 : aV = true
  ·
   subst c5
   have H1 : ((spec_l1In.f a0_1 (-1) 3).bind fun ap => (spec_PlaceOk.j0 k (!ap) af a0_1 aj)) = some r := by rw [if_pos rfl] at H; exact H
   clear H
   have H := H1
   clear H1
   obtain ⟨ap, A6, H⟩ := bnd_ H
   try dsimp only at H
   have H' := Aside0.mk H
   clear H
   have bb := cz_ ac 0
   have bc := cz_ ac 1
   have bd := cz_ ac 2
   have be := blk_frozen ac.out 0
   have bf := blk_frozen ac.out 1
   have bg := blk_frozen ac.out 2
   go_wp2_with (first | ((with_reducible refine gate_callee (f := 116) rfl ?_); refine gl_ (some 7) Tryd.func116 #[.slice aq af.length ar] ?_; (with_reducible refine (spec_StartOk.calls k _ _ af true _ ?s1 ?s2 A4.out).mono ?_); (case s1 => exact tD_); (case s2 => exact aW.out); rintro e w' ⟨rfl, ⟨nd, rfl⟩⟩; refine ⟨_, rfl, ?_⟩) | (go_at_call 99; (with_reducible refine (spec_l1In.calls a0_1 (-1) 3 ap _ A6.out).mono ?_); rintro e w' ⟨rfl, ⟨nd, rfl⟩⟩))
   go_meet
   case rel => exact ⟨_, (!ap), tx_, H', ⟨by first | omega | exact Nat.le_refl _⟩, ⟨tk_ ac.out⟩, ⟨(tb_ HB.out)⟩⟩
  ·
   replace c5 := Bool.eq_false_iff.mpr c5
   subst c5
   have H1 : (spec_PlaceOk.j0 k true af a0_1 aj) = some r := by rw [if_neg (show ¬ (false = true) by decide)] at H; exact H
   clear H
   have H := H1
   clear H1
   have H' := Aside0.mk H
   clear H
   have bh := cz_ ac 0
   have bi := cz_ ac 1
   have bj := cz_ ac 2
   have bk := blk_frozen ac.out 0
   have bl := blk_frozen ac.out 1
   have bm := blk_frozen ac.out 2
   go_wp2_with (first | ((with_reducible refine gate_callee (f := 116) rfl ?_); refine gl_ (some 7) Tryd.func116 #[.slice aq af.length ar] ?_; (with_reducible refine (spec_StartOk.calls k _ _ af false _ ?s1 ?s2 A4.out).mono ?_); (case s1 => exact tD_); (case s2 => exact aW.out); rintro e w' ⟨rfl, ⟨nd, rfl⟩⟩; refine ⟨_, rfl, ?_⟩))
   go_meet
   case rel => exact ⟨_, (true), tx_, H', ⟨by first | omega | exact Nat.le_refl _⟩, ⟨tk_ ac.out⟩, ⟨(tb_ HB.out)⟩⟩
 case rest =>
  clear HC2
  try clear c1
  try clear p2
  try clear c5
  try clear c7
  try clear bb
  try clear bc
  try clear bd
  try clear bh
  try clear bi
  try clear bj
  try clear be
  try clear bf
  try clear bg
  try clear bk
  try clear bl
  try clear bm
  obtain ⟨kq, aA, rfl, HA, HJ1, ac, HB⟩ := hcut
  cases kq with
  | zero => exact absurd HA.out (by simp [spec_PlaceOk.j0])
  | succ kj1 =>
   have H := HA.out
   clear HA
   simp only [spec_PlaceOk.j0] at H
   by_cases c9 : aA = true
   ·
    subst c9
    have H1 : (some false) = some r := by rw [if_pos rfl] at H; exact H
    clear H
    have H := H1
    clear H1
    obtain rfl := Option.some.inj H
    go_wp2
    go_ret
    exact ⟨tw_, (tb_ HB.out)⟩
   ·
    replace c9 := Bool.eq_false_iff.mpr c9
    subst c9
    have H1 : ((spec_SameRule.f kj1 (af.length : Int) a0_1).bind fun ax => ((spec_AfterWord.f kj1 af ax aj).bind fun aU => (some aU.2))) = some r := by rw [if_neg (show ¬ (false = true) by decide)] at H; exact H
    clear H
    have H := H1
    clear H1
    obtain ⟨ax, A10, H⟩ := bnd_ H
    try dsimp only at H
    obtain ⟨⟨bS, bU⟩, A11, H⟩ := bnd_ H
    try dsimp only at H
    obtain rfl := Option.some.inj H
    try go_wp2
    replace ac := dB_ ac
    replace HB := Aside0.mk (ld_ HB.out)
    refine start_ (n := 16) (S := fun w' => w'.cell? ⟨az, 0, none⟩ = some (.slice aq af.length ar) ∧ w'.cell? ⟨az, 1, none⟩ = some (.int .i64 a0_1) ∧ w'.cell? ⟨az, 2, none⟩ = some (.slice aH aj.length aI)) (ds := []) #[false, false, false, false, false, false, false, false, false, false, false, false, false, false, false, false] (by kernel_rfl) rfl rfl hh_ (fun hHeld => ?_); refine with_tabW spec_PlaceOk.tab3 spec_PlaceOk.bits3 (fun HT_ HW_ => ?_)
    generalize wc.drew = cp at ac HB hHeld ⊢
    refine pu_ 0 (some 16) #[true, false, false, false, false, false, false, false, false, false, false, false, false, false, false, false] HT_ rfl rfl ?_
    refine pu_ 2 (some 18) #[true, false, true, false, false, false, false, false, false, false, false, false, false, false, false, false] HT_ rfl rfl ?_
    refine pu_ 5 (some 21) #[true, false, true, false, false, true, false, false, false, false, false, false, false, false, false, false] HT_ rfl rfl ?_
    refine pu_ 8 (some 24) #[true, false, true, false, false, true, false, false, true, false, false, false, false, false, false, false] HT_ rfl rfl ?_
    refine ta_ 1 (some 17) #[true, true, true, false, false, true, false, false, true, false, false, false, false, false, false, false] HT_ HW_ hHeld rfl rfl ?_
    refine ta_ 3 (some 19) #[true, true, true, true, false, true, false, false, true, false, false, false, false, false, false, false] HT_ HW_ hHeld rfl rfl ?_
    refine pu_ 4 (some 20) #[true, true, true, true, true, true, false, false, true, false, false, false, false, false, false, false] HT_ rfl rfl ?_
    refine ta_ 6 (some 22) #[true, true, true, true, true, true, true, false, true, false, false, false, false, false, false, false] HT_ HW_ hHeld rfl rfl ?_
    refine ta_ 9 (some 25) #[true, true, true, true, true, true, true, false, true, true, false, false, false, false, false, false] HT_ HW_ hHeld rfl rfl ?_
    refine one_ (i := 7) (N := some 23) #[true, true, true, true, true, true, true, true, true, true, false, false, false, false, false, false] rfl rfl (one_of HT_.out (by kernel_rfl)) (by decide) (fun K hK => ?_)
    refine goes_ Tryd.func118 (by kernel_rfl) rfl #[.int .i64 (af.length : Int), .int .i64 a0_1] (by rfl) rfl rfl tz_ ?_
    with_reducible refine (spec_SameRule.calls kj1 (af.length : Int) a0_1 ax _ A10.out).mono ?_
    rintro e cq ⟨cl, rfl, ho0, hb⟩
    refine ⟨_, rfl, ?_⟩
    have au := Aside0.mk (Kd.S_lower ho0 (below_size (tb_ HB.out)))
    replace ac := bb_ ac hb
    replace HB := bs_ HB hb
    (try clear hb)
    (try clear hb2)
    (try clear hk)
    (try clear hi)
    (try clear ho0)
    obtain ⟨bV, aw, aR⟩ := Kd.S_slice au.out
    (first | subst aR | (injection aR with f1_ f2_ f3_; have f4_ := f1_.symm; have f5_ := f3_.symm; clear f1_ f2_ f3_; subst f4_; subst f5_))
    refine hK.out _ _ hh_ (fun hHeld => ?_)
    clear hK K
    refine nr_ 23 ?_
    refine one_ (i := 10) (N := some 26) #[true, true, true, true, true, true, true, true, true, true, true, false, false, false, false, false] rfl rfl (one_of HT_.out (by kernel_rfl)) (by decide) (fun K hK => ?_)
    refine goes_ Tryd.func117 (by kernel_rfl) rfl #[.slice aq af.length ar, .slice bV ax.length aw, .slice aH aj.length aI] (by rfl) rfl rfl tz_ ?_
    with_reducible refine (spec_AfterWord.calls kj1 _ _ af _ _ ax _ _ aj bS bU _ ?s1 ?s2 ?s3 ?s4 ?s5 ?s6 A11.out).mono ?_
    (case s1 => exact tD_)
    (case s2 => exact aW.out)
    (case s3 => repeat (first | exact (Kd.S_reads' au.out).2.2 | (with_reducible refine Kd.C_alloc ?_ _) | (with_reducible refine Kd.C_drewN ?_ _) | (with_reducible refine Kd.C_drew ?_)))
    (case s4 => exact (Kd.S_reads' au.out).2.1)
    (case s5 => exact tD_)
    (case s6 => exact bI.out)
    rintro e cr ⟨cm, rfl, ho0, hb⟩
    refine ⟨_, rfl, ?_⟩
    replace au := Aside0.mk (Kd.S_elder' (rS_ au.out) (Kd.R_base ho0) hb)
    have b7 := rx_ ho0 HB
    replace ac := bb_ ac hb
    replace HB := bs_ HB hb
    (try clear hb)
    (try clear hb2)
    (try clear hk)
    (try clear hi)
    (try clear ho0)
    refine hK.out _ _ hh_ (fun hHeld => ?_)
    clear hK K
    refine nr_ 26 ?_
    refine pu_ 11 (some 15) #[true, true, true, true, true, true, true, true, true, true, true, true, false, false, false, false] HT_ rfl rfl ?_
    refine pu_ 12 (some 27) #[true, true, true, true, true, true, true, true, true, true, true, true, true, false, false, false] HT_ rfl rfl ?_
    refine pu_ 13 (some 28) #[true, true, true, true, true, true, true, true, true, true, true, true, true, true, false, false] HT_ rfl rfl ?_
    refine pu_ 14 (some 3) #[true, true, true, true, true, true, true, true, true, true, true, true, true, true, true, false] HT_ rfl rfl ?_
    refine pu_ 15 (some 4) #[true, true, true, true, true, true, true, true, true, true, true, true, true, true, true, true] HT_ rfl rfl ?_
    refine done_ (done_of HT_.out (by kernel_rfl)) ?_
    try go_wp2
    go_ret
    exact ⟨tw_, (tb_ HB.out)⟩

/-! ### spec_l20Rd_pick: function 101 -/
def spec_l20Rd_pick.j0 : Nat → Int → Bool → List Int → Int → Option (Int × Int)
 | 0, _, _, _, _ => none
 | k + 1, x1, x24, ae, ag => if x24 = true then (some (0, ag)) else (if (wrap64 (ag - 1)) < (ae.length : Int) then (if 0 ≤ (wrap64 (ag - 1)) then (if x1 = 0 then (none) else (some (Int.tmod (wrap64 (rd ae (wrap64 (ag - 1)))) x1, ag))) else (none)) else (if (ae.length : Int) = 0 then (none) else (if 0 ≤ (Int.tmod (wrap64 (ag - 1)) (ae.length : Int)) then (if (Int.tmod (wrap64 (ag - 1)) (ae.length : Int)) < (ae.length : Int) then (if 0 ≤ (Int.tmod (wrap64 ((wrap64 ((wrap64 (ag - 1)) * 7)) + 3)) (ae.length : Int)) then (if (Int.tmod (wrap64 ((wrap64 ((wrap64 (ag - 1)) * 7)) + 3)) (ae.length : Int)) < (ae.length : Int) then (if x1 = 0 then (none) else (some (Int.tmod (Go.bits .xor .i64 (wrap64 ((wrap64 ((wrap64 ((wrap64 ((wrap64 (rd ae (Int.tmod (wrap64 (ag - 1)) (ae.length : Int)))) * 131)) + (wrap64 ((wrap64 (rd ae (Int.tmod (wrap64 ((wrap64 ((wrap64 (ag - 1)) * 7)) + 3)) (ae.length : Int)))) * 1117)))) + (wrap64 ((wrap64 (ag - 1)) * 29)))) + (wrap64 ((wrap64 (Int.tdiv (wrap64 (ag - 1)) (ae.length : Int))) * 53)))) (wrap64 (Int.tdiv (wrap64 ((wrap64 ((wrap64 ((wrap64 ((wrap64 (rd ae (Int.tmod (wrap64 (ag - 1)) (ae.length : Int)))) * 131)) + (wrap64 ((wrap64 (rd ae (Int.tmod (wrap64 ((wrap64 ((wrap64 (ag - 1)) * 7)) + 3)) (ae.length : Int)))) * 1117)))) + (wrap64 ((wrap64 (ag - 1)) * 29)))) + (wrap64 ((wrap64 (Int.tdiv (wrap64 (ag - 1)) (ae.length : Int))) * 53)))) 64))) x1, ag))) else (none)) else (none)) else (none)) else (none))))
def spec_l20Rd_pick.f (k : Nat) (aa : List Int) (ab : Int) (a1 : Int) : Option (Int × Int) := if a1 < 1 then (spec_l20Rd_pick.j0 k a1 true aa (wrap64 (ab + 1))) else (spec_l20Rd_pick.j0 k a1 ((aa.length : Int) == 0) aa (wrap64 (ab + 1)))
theorem spec_l20Rd_pick.mono_l : ∀ k, (∀ y0 y1 y2 y3, LeO (spec_l20Rd_pick.j0 k y0 y1 y2 y3) (spec_l20Rd_pick.j0 (k + 1) y0 y1 y2 y3))
 | 0 => fun _ _ _ _ r h => by simp [spec_l20Rd_pick.j0] at h
 | k + 1 => by
  have ih0 := spec_l20Rd_pick.mono_l k
  ·
   intro y0 y1 y2 y3
   unfold spec_l20Rd_pick.j0
   repeat' (with_reducible first | exact ih0 _ _ _ _ | exact mr_ | exact mn_ | refine mi_ ?_ ?_ | refine mb_ ?_ (fun _ => ?_))
theorem spec_l20Rd_pick.mono : ∀ a0 a1 a2 k, LeO (spec_l20Rd_pick.f k a0 a1 a2) (spec_l20Rd_pick.f (k + 1) a0 a1 a2) := by
 intro a0 a1 a2 k
 have ih0 := spec_l20Rd_pick.mono_l k
 unfold spec_l20Rd_pick.f
 repeat' (with_reducible first | exact ih0 _ _ _ _ | exact mr_ | exact mn_ | refine mi_ ?_ ?_ | refine mb_ ?_ (fun _ => ?_))
set_option maxHeartbeats 8000000 in
set_option maxRecDepth 100000 in
theorem spec_l20Rd_pick.calls (k : Nat) (g : Nat) (aa : List Int) (ab : Int) (a1 : Int) (r1 : Int) (r2 : Int) (w0 w : World) (hI : IsS126 w0 w g aa ab) (hB : Below w0.heap.size w0 w) (h : spec_l20Rd_pick.f k aa ab a1 = some (r1, r2)) :
  Calls Tryd.prog 101 #[.pointer (some ⟨g, 0, none⟩), .int .i64 a1] w fun e w' => e = .returned (.int .i64 r1) ∧ IsS126 w0 w' g aa r2 ∧ Below w0.heap.size w0 w' ∧ KeepBut w w' g none := by
 have HI0 := Aside0.mk hI
 have HK := Aside0.mk (KeepBut.refl w g none)
 have HL := Aside0.mk hB.size
 have HLg := Aside0.mk hI.lt
 clear hI
 have HW0 := Aside0.mk hB.size
 have HB := Aside0.mk hB
 clear hB
 have H : (if a1 < 1 then (spec_l20Rd_pick.j0 k a1 true aa (wrap64 (ab + 1))) else (spec_l20Rd_pick.j0 k a1 ((aa.length : Int) == 0) aa (wrap64 (ab + 1)))) = some (r1, r2) := h
 clear h
 have HC3 := Aside0.mk H
 clear H
 obtain ⟨ASz4_0, cSz4_0, HGz4, hgz4, HSz4_0⟩ := HI0.out
 have bn := cellS126_0 HGz4
 have bo := cellS126_1 HGz4
 have bp := blk_frozen HGz4 1
 clear HGz4 hgz4
 go_enter Tryd.func101, Tryd.ntmps101
 go_upto_region 2 with (fail)
 repeat (go_quiet (fail); go_upto_region 2 with (fail))
 go_cut [24] (fun cn wc => ∃ (kq : Nat) (aC : Bool), cn = .bool aC ∧ Aside0 (spec_l20Rd_pick.j0 kq a1 aC aa (wrap64 (ab + 1)) = some (r1, r2)) ∧ Aside0 (kq ≤ k) ∧ Aside0 (IsS126 w0 wc g aa (wrap64 (ab + 1))) ∧ Aside0 (KeepBut w wc g none) ∧ Aside0 (Below w0.heap.size w0 wc))
 case first =>
  have H := HC3.out
  clear HC3
  by_cases c5 : a1 < 1
  ·
   rw [if_pos c5] at H
   have ao : decide (a1 < 1) = true := decide_eq_true c5
   clear c5
   (first | rw [ao] | (simp only [i64_w, i32_w]; rw [ao]) | skip)
   have H' := Aside0.mk H
   clear H
   go_wp2
   repeat (go_quiet (fail); try go_wp2)
   go_meet
   case rel => exact ⟨_, (true), tx_, H', ⟨by first | omega | exact Nat.le_refl _⟩, ⟨ti126_ HI0.out⟩, ⟨(tc_ HK.out)⟩, ⟨tu126_ HB.out⟩⟩
  ·
   rw [if_neg c5] at H
   have ao : decide (a1 < 1) = false := decide_eq_false c5
   clear c5
   (first | rw [ao] | (simp only [i64_w, i32_w]; rw [ao]) | skip)
   have H' := Aside0.mk H
   clear H
   obtain ⟨ASz6_0, cSz6_0, HGz6, hgz6, HSz6_0⟩ := HI0.out
   have bq := cellS126_0 HGz6
   have br := cellS126_1 HGz6
   have bs := blk_frozen HGz6 1
   clear HGz6 hgz6
   go_wp2
   repeat (go_quiet (fail); try go_wp2)
   go_meet
   case rel => exact ⟨_, (((aa.length : Int) == 0)), tx_, H', ⟨by first | omega | exact Nat.le_refl _⟩, ⟨ti126_ HI0.out⟩, ⟨(tc_ HK.out)⟩, ⟨tu126_ HB.out⟩⟩
 case rest =>
  clear HC3
  try clear c1
  try clear p2
  try clear c5
  try clear ao
  try clear p6
  try clear bn
  try clear bo
  try clear bq
  try clear br
  try clear bp
  try clear bs
  obtain ⟨kq, aC, rfl, HA, HJ2, HI0, HK, HB⟩ := hcut
  cases kq with
  | zero => exact absurd HA.out (by simp [spec_l20Rd_pick.j0])
  | succ kj2 =>
   have H := HA.out
   clear HA
   simp only [spec_l20Rd_pick.j0] at H
   by_cases c7 : aC = true
   ·
    subst c7
    have H1 : (some (0, (wrap64 (ab + 1)))) = some (r1, r2) := by rw [if_pos rfl] at H; exact H
    clear H
    have H := H1
    clear H1
    simp only [Option.some.injEq, Prod.mk.injEq] at H
    obtain ⟨rfl, rfl⟩ := H
    go_wp2
    repeat (go_quiet (fail); try go_wp2)
    go_ret
    exact ⟨tw_, ti126_ HI0.out, tu126_ HB.out, (tc_ HK.out)⟩
   ·
    replace c7 := Bool.eq_false_iff.mpr c7
    subst c7
    have H1 : (if (wrap64 ((wrap64 (ab + 1)) - 1)) < (aa.length : Int) then (if 0 ≤ (wrap64 ((wrap64 (ab + 1)) - 1)) then (if a1 = 0 then (none) else (some (Int.tmod (wrap64 (rd aa (wrap64 ((wrap64 (ab + 1)) - 1)))) a1, (wrap64 (ab + 1))))) else (none)) else (if (aa.length : Int) = 0 then (none) else (if 0 ≤ (Int.tmod (wrap64 ((wrap64 (ab + 1)) - 1)) (aa.length : Int)) then (if (Int.tmod (wrap64 ((wrap64 (ab + 1)) - 1)) (aa.length : Int)) < (aa.length : Int) then (if 0 ≤ (Int.tmod (wrap64 ((wrap64 ((wrap64 ((wrap64 (ab + 1)) - 1)) * 7)) + 3)) (aa.length : Int)) then (if (Int.tmod (wrap64 ((wrap64 ((wrap64 ((wrap64 (ab + 1)) - 1)) * 7)) + 3)) (aa.length : Int)) < (aa.length : Int) then (if a1 = 0 then (none) else (some (Int.tmod (Go.bits .xor .i64 (wrap64 ((wrap64 ((wrap64 ((wrap64 ((wrap64 (rd aa (Int.tmod (wrap64 ((wrap64 (ab + 1)) - 1)) (aa.length : Int)))) * 131)) + (wrap64 ((wrap64 (rd aa (Int.tmod (wrap64 ((wrap64 ((wrap64 ((wrap64 (ab + 1)) - 1)) * 7)) + 3)) (aa.length : Int)))) * 1117)))) + (wrap64 ((wrap64 ((wrap64 (ab + 1)) - 1)) * 29)))) + (wrap64 ((wrap64 (Int.tdiv (wrap64 ((wrap64 (ab + 1)) - 1)) (aa.length : Int))) * 53)))) (wrap64 (Int.tdiv (wrap64 ((wrap64 ((wrap64 ((wrap64 ((wrap64 (rd aa (Int.tmod (wrap64 ((wrap64 (ab + 1)) - 1)) (aa.length : Int)))) * 131)) + (wrap64 ((wrap64 (rd aa (Int.tmod (wrap64 ((wrap64 ((wrap64 ((wrap64 (ab + 1)) - 1)) * 7)) + 3)) (aa.length : Int)))) * 1117)))) + (wrap64 ((wrap64 ((wrap64 (ab + 1)) - 1)) * 29)))) + (wrap64 ((wrap64 (Int.tdiv (wrap64 ((wrap64 (ab + 1)) - 1)) (aa.length : Int))) * 53)))) 64))) a1, (wrap64 (ab + 1))))) else (none)) else (none)) else (none)) else (none)))) = some (r1, r2) := by rw [if_neg (show ¬ (false = true) by decide)] at H; exact H
    clear H
    have H := H1
    clear H1
    by_cases c8 : (wrap64 ((wrap64 (ab + 1)) - 1)) < (aa.length : Int)
    ·
     rw [if_pos c8] at H
     have bJ : decide ((wrap64 ((wrap64 (ab + 1)) - 1)) < (aa.length : Int)) = true := decide_eq_true c8
     clear c8
     obtain ⟨a8, aX⟩ : ∃ j_ : Int, (wrap64 ((wrap64 (ab + 1)) - 1)) = j_ := ⟨_, rfl⟩
     replace H : (if 0 ≤ (a8) then (if a1 = 0 then (none) else (some (Int.tmod (wrap64 (rd aa (a8))) a1, (wrap64 (ab + 1))))) else (none)) = some (r1, r2) := by first | (rw [aX] at H; exact H) | (simp only [aX] at H ⊢; exact H)
     (try rw [aX] at bJ)
     have b8 : (IntKind.i64.wrap ((wrap64 (ab + 1)) - 1)) = a8 := (i64_w _).trans aX
     by_cases c10 : 0 ≤ (a8)
     ·
      rw [if_pos c10] at H
      have bw : decide (0 ≤ (a8)) = true := decide_eq_true c10
      clear c10
      by_cases c11 : a1 = 0
      ·
       rw [if_pos c11] at H
       exact absurd H (by simp)
      ·
       rw [if_neg c11] at H
       have bx : (a1 == 0) = false := beq_eq_false_iff_ne.mpr c11
       have bz : (a1 != 0) = true := bne_iff_ne.mpr c11
       simp only [Option.some.injEq, Prod.mk.injEq] at H
       obtain ⟨rfl, rfl⟩ := H
       obtain ⟨ASz12_0, cSz12_0, HGz12, hgz12, HSz12_0⟩ := HI0.out
       have bK := cellS126_0 HGz12
       have bL := cellS126_1 HGz12
       have bM := blk_frozen HGz12 1
       clear HGz12 hgz12
       have p281 : 0 ≤ ((a8) : Int) := od_
       have q281 : (a8) < (aa.length : Int) := od_
       obtain ⟨ad281, e281, aD⟩ := Kd.at_int HSz12_0 (a8) p281 q281
       cases e281
       replace aD := pw_cell_below HB.out aD
       replace p281 := eq_true p281
       replace q281 := eq_true q281
       go_wp2
       repeat (go_quiet (fail); try go_wp2)
       go_ret
       exact ⟨by first | rfl | (simp [errW_none, errW_some, Option.map_none, Option.map_some] <;> rfl) | (simp only [← aX]; first | rfl | (simp [errW_none, errW_some, Option.map_none, Option.map_some] <;> rfl)) | (simp [*, errW_none, errW_some] <;> rfl), ti126_ HI0.out, tu126_ HB.out, (tc_ HK.out)⟩
     ·
      rw [if_neg c10] at H
      exact absurd H (by simp)
    ·
     rw [if_neg c8] at H
     have bJ : decide ((wrap64 ((wrap64 (ab + 1)) - 1)) < (aa.length : Int)) = false := decide_eq_false c8
     clear c8
     by_cases c13 : (aa.length : Int) = 0
     ·
      rw [if_pos c13] at H
      exact absurd H (by simp)
     ·
      rw [if_neg c13] at H
      have bB : ((aa.length : Int) == 0) = false := beq_eq_false_iff_ne.mpr c13
      have b9 : ((aa.length : Int) != 0) = true := bne_iff_ne.mpr c13
      have ca : ¬ (aa = []) := fun h_ => c13 (by rw [h_]; rfl)
      obtain ⟨al, aY⟩ : ∃ j_ : Int, (Int.tmod (wrap64 ((wrap64 (ab + 1)) - 1)) (aa.length : Int)) = j_ := ⟨_, rfl⟩
      replace H : (if 0 ≤ (al) then (if (al) < (aa.length : Int) then (if 0 ≤ (Int.tmod (wrap64 ((wrap64 ((wrap64 ((wrap64 (ab + 1)) - 1)) * 7)) + 3)) (aa.length : Int)) then (if (Int.tmod (wrap64 ((wrap64 ((wrap64 ((wrap64 (ab + 1)) - 1)) * 7)) + 3)) (aa.length : Int)) < (aa.length : Int) then (if a1 = 0 then (none) else (some (Int.tmod (Go.bits .xor .i64 (wrap64 ((wrap64 ((wrap64 ((wrap64 ((wrap64 (rd aa (al))) * 131)) + (wrap64 ((wrap64 (rd aa (Int.tmod (wrap64 ((wrap64 ((wrap64 ((wrap64 (ab + 1)) - 1)) * 7)) + 3)) (aa.length : Int)))) * 1117)))) + (wrap64 ((wrap64 ((wrap64 (ab + 1)) - 1)) * 29)))) + (wrap64 ((wrap64 (Int.tdiv (wrap64 ((wrap64 (ab + 1)) - 1)) (aa.length : Int))) * 53)))) (wrap64 (Int.tdiv (wrap64 ((wrap64 ((wrap64 ((wrap64 ((wrap64 (rd aa (al))) * 131)) + (wrap64 ((wrap64 (rd aa (Int.tmod (wrap64 ((wrap64 ((wrap64 ((wrap64 (ab + 1)) - 1)) * 7)) + 3)) (aa.length : Int)))) * 1117)))) + (wrap64 ((wrap64 ((wrap64 (ab + 1)) - 1)) * 29)))) + (wrap64 ((wrap64 (Int.tdiv (wrap64 ((wrap64 (ab + 1)) - 1)) (aa.length : Int))) * 53)))) 64))) a1, (wrap64 (ab + 1))))) else (none)) else (none)) else (none)) else (none)) = some (r1, r2) := by first | (rw [aY] at H; exact H) | (simp only [aY] at H ⊢; exact H)
      by_cases c15 : 0 ≤ (al)
      ·
       rw [if_pos c15] at H
       have cb : decide (0 ≤ (al)) = true := decide_eq_true c15
       clear c15
       by_cases c16 : (al) < (aa.length : Int)
       ·
        rw [if_pos c16] at H
        have cc : decide ((al) < (aa.length : Int)) = true := decide_eq_true c16
        clear c16
        obtain ⟨an, aZ⟩ : ∃ j_ : Int, (Int.tmod (wrap64 ((wrap64 ((wrap64 ((wrap64 (ab + 1)) - 1)) * 7)) + 3)) (aa.length : Int)) = j_ := ⟨_, rfl⟩
        replace H : (if 0 ≤ (an) then (if (an) < (aa.length : Int) then (if a1 = 0 then (none) else (some (Int.tmod (Go.bits .xor .i64 (wrap64 ((wrap64 ((wrap64 ((wrap64 ((wrap64 (rd aa (al))) * 131)) + (wrap64 ((wrap64 (rd aa (an))) * 1117)))) + (wrap64 ((wrap64 ((wrap64 (ab + 1)) - 1)) * 29)))) + (wrap64 ((wrap64 (Int.tdiv (wrap64 ((wrap64 (ab + 1)) - 1)) (aa.length : Int))) * 53)))) (wrap64 (Int.tdiv (wrap64 ((wrap64 ((wrap64 ((wrap64 ((wrap64 (rd aa (al))) * 131)) + (wrap64 ((wrap64 (rd aa (an))) * 1117)))) + (wrap64 ((wrap64 ((wrap64 (ab + 1)) - 1)) * 29)))) + (wrap64 ((wrap64 (Int.tdiv (wrap64 ((wrap64 (ab + 1)) - 1)) (aa.length : Int))) * 53)))) 64))) a1, (wrap64 (ab + 1))))) else (none)) else (none)) = some (r1, r2) := by first | (rw [aZ] at H; exact H) | (simp only [aZ] at H ⊢; exact H)
        by_cases c18 : 0 ≤ (an)
        ·
         rw [if_pos c18] at H
         have cd : decide (0 ≤ (an)) = true := decide_eq_true c18
         clear c18
         by_cases c19 : (an) < (aa.length : Int)
         ·
          rw [if_pos c19] at H
          have ce : decide ((an) < (aa.length : Int)) = true := decide_eq_true c19
          clear c19
          by_cases c20 : a1 = 0
          ·
           rw [if_pos c20] at H
           exact absurd H (by simp)
          ·
           rw [if_neg c20] at H
           have cf : (a1 == 0) = false := beq_eq_false_iff_ne.mpr c20
           have cg : (a1 != 0) = true := bne_iff_ne.mpr c20
           simp only [Option.some.injEq, Prod.mk.injEq] at H
           obtain ⟨rfl, rfl⟩ := H
           obtain ⟨ASz21_0, cSz21_0, HGz21, hgz21, HSz21_0⟩ := HI0.out
           have bN := cellS126_0 HGz21
           have bO := cellS126_1 HGz21
           have bP := blk_frozen HGz21 1
           clear HGz21 hgz21
           have p282 : 0 ≤ ((al) : Int) := od_
           have q282 : (al) < (aa.length : Int) := od_
           obtain ⟨ad282, e282, aE⟩ := Kd.at_int HSz21_0 (al) p282 q282
           cases e282
           replace aE := pw_cell_below HB.out aE
           replace p282 := eq_true p282
           replace q282 := eq_true q282
           have p283 : 0 ≤ ((an) : Int) := od_
           have q283 : (an) < (aa.length : Int) := od_
           obtain ⟨ad283, e283, aG⟩ := Kd.at_int HSz21_0 (an) p283 q283
           obtain rfl : ad282 = ad283 := (by injection e283)
           replace aG := pw_cell_below HB.out aG
           replace p283 := eq_true p283
           replace q283 := eq_true q283
           go_wp2
           repeat (go_quiet (fail); try go_wp2)
           go_ret
           exact ⟨by first | rfl | (simp [errW_none, errW_some, Option.map_none, Option.map_some] <;> rfl) | (simp only [← aY, ← aZ]; first | rfl | (simp [errW_none, errW_some, Option.map_none, Option.map_some] <;> rfl)) | (simp [*, errW_none, errW_some] <;> rfl), ti126_ HI0.out, tu126_ HB.out, (tc_ HK.out)⟩
         ·
          rw [if_neg c19] at H
          exact absurd H (by simp)
        ·
         rw [if_neg c18] at H
         exact absurd H (by simp)
       ·
        rw [if_neg c16] at H
        exact absurd H (by simp)
      ·
       rw [if_neg c15] at H
       exact absurd H (by simp)

/-! ### spec_l20Rd_odd: function 80 -/
def spec_l20Rd_odd.f (k : Nat) (aa : List Int) (ab : Int) (a1 : Int) : Option (Bool × Int) := if a1 > 0 then ((spec_l20Rd_pick.f k aa ab a1).bind fun av => (some ((av.1 == (wrap64 (a1 - 1))), av.2))) else (some (false, ab))
theorem spec_l20Rd_odd.mono : ∀ a0 a1 a2 k, LeO (spec_l20Rd_odd.f k a0 a1 a2) (spec_l20Rd_odd.f (k + 1) a0 a1 a2) := by
 intro a0 a1 a2 k
 unfold spec_l20Rd_odd.f
 repeat' (with_reducible first | exact spec_l20Rd_pick.mono _ _ _ _ | exact mr_ | exact mn_ | refine mi_ ?_ ?_ | refine mb_ ?_ (fun _ => ?_))
set_option maxHeartbeats 8000000 in
set_option maxRecDepth 100000 in
theorem spec_l20Rd_odd.calls (k : Nat) (g : Nat) (aa : List Int) (ab : Int) (a1 : Int) (r1 : Bool) (r2 : Int) (w0 w : World) (hI : IsS126 w0 w g aa ab) (hB : Below w0.heap.size w0 w) (h : spec_l20Rd_odd.f k aa ab a1 = some (r1, r2)) :
  Calls Tryd.prog 80 #[.pointer (some ⟨g, 0, none⟩), .int .i64 a1] w fun e w' => e = .returned (.bool r1) ∧ IsS126 w0 w' g aa r2 ∧ Below w0.heap.size w0 w' ∧ KeepBut w w' g none := by
 have HI0 := Aside0.mk hI
 have HK := Aside0.mk (KeepBut.refl w g none)
 have HL := Aside0.mk hB.size
 have HLg := Aside0.mk hI.lt
 clear hI
 have HW0 := Aside0.mk hB.size
 have HB := Aside0.mk hB
 clear hB
 have H : (if a1 > 0 then ((spec_l20Rd_pick.f k aa ab a1).bind fun av => (some ((av.1 == (wrap64 (a1 - 1))), av.2))) else (some (false, ab))) = some (r1, r2) := h
 clear h
 by_cases c3 : a1 > 0
 ·
  rw [if_pos c3] at H
  have bW : decide (0 < a1) = true := decide_eq_true c3
  clear c3
  obtain ⟨⟨bX, bZ⟩, A4, H⟩ := bnd_ H
  try dsimp only at H
  simp only [Option.some.injEq, Prod.mk.injEq] at H
  obtain ⟨rfl, rfl⟩ := H
  go_enter Tryd.func80, Tryd.ntmps80
  go_wp2_with (first | (go_at_call 101; (with_reducible refine (spec_l20Rd_pick.calls k g aa ab a1 bX bZ w0 _ ?s1 ?s2 A4.out).mono ?_); (case s1 => exact ti126_ HI0.out); (case s2 => exact tu126_ HB.out); rintro e w5 ⟨rfl, hi, hb, hk⟩; have n0_ := Aside0.mk (KeepBut.trans (tc_ HK.out) hk (.inl rfl)); have n1_ := Aside0.mk (hb); have n2_ := Aside0.mk (hi); clear HK HB HI0; have HK := n0_; have HB := n1_; have HI0 := n2_; clear n0_ n1_ n2_; (try clear hb); (try clear hb2); (try clear hk); (try clear hi)))
  go_ret
  exact ⟨tw_, ti126_ HI0.out, tu126_ HB.out, (tc_ HK.out)⟩
 ·
  rw [if_neg c3] at H
  have bW : decide (0 < a1) = false := decide_eq_false c3
  clear c3
  simp only [Option.some.injEq, Prod.mk.injEq] at H
  obtain ⟨rfl, rfl⟩ := H
  go_enter Tryd.func80, Tryd.ntmps80
  go_wp2
  go_ret
  exact ⟨tw_, ti126_ HI0.out, tu126_ HB.out, (tc_ HK.out)⟩

end Go.Proofs.YtlhiienanbpdlaaDoor.MFnPlaceText
