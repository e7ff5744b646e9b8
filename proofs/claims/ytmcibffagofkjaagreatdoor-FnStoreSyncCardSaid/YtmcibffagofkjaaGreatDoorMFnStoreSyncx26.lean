/- For the law FnStoreSync: walks of the functions that it reaches: each call returns what the plain function beside it tells. The conditions stand in each statement. -/
import Derived.Test.YtmcibffagofkjaaGreatDoorV
import Derived.Test.YtmcibffagofkjaaGreatDoorMFnStoreSyncx0
import Derived.Test.YtmcibffagofkjaaGreatDoorMFnStoreSyncx3
import Derived.Test.YtmcibffagofkjaaGreatDoorMFnStoreSyncx25
namespace Go.Proofs.YtmcibffagofkjaaGreatDoor.MFnStoreSync
open Go.RowKit Go.Proofs.YtmcibffagofkjaaGreatDoorW.PrintWords Go.Proofs.YtmcibffagofkjaaGreatDoorW.PrintLast Go.Proofs.YtmcibffagofkjaaGreatDoorW.PrintMore
attribute [local go_sem] max2_int min2_int max_two min_two max_three min_three max_four min_four   -- for this text's walks alone
set_option linter.unusedVariables false
set_option linter.unusedSimpArgs false
set_option maxHeartbeats 8000000
set_option maxRecDepth 100000

/-! ### impl_SameRule: function 53 -/
mutual
def impl_SameRule.j0 : Nat → Int → Int → Bool → Option ((List (List Int)))
 | 0, _, _, _ => none
 | k + 1, x0, x1, x18 => if x18 = true then (some ([] : List (List Int))) else (impl_SameRule.l0 k x0 x1 (([] : List (List Int))) x0 0)
def impl_SameRule.l0 : Nat → Int → Int → List (List Int) → Int → Int → Option ((List (List Int)))
 | 0, _, _, _, _, _ => none
 | k + 1, x0, x1, x5, x20, x21 => if x21 < x20 then (if 0 ≤ x0 then (if (x0 : Int).toNat ≤ 35184372088832 then ((some (List.replicate (x0 : Int).toNat 0 : List Int)).bind fun ah => (if 0 ≤ x21 then (if x21 < (ah.length : Int) then (if x5.length < 5864062014805 then (impl_SameRule.l0 k x0 x1 (x5 ++ [(ah.set (x21 : Int).toNat x1)]) x20 (wrap64 (x21 + 1))) else (none)) else (none)) else (none))) else (none)) else (none)) else (some x5)
end
def impl_SameRule.f (k : Nat) (a0 : Int) (a1 : Int) : Option ((List (List Int))) := (impl_coloursOk.f a0).bind fun aE => (if aE = true then (if a1 < (-1) then (impl_SameRule.j0 k a0 a1 true) else (impl_SameRule.j0 k a0 a1 (decide (a1 > 3)))) else (impl_SameRule.j0 k a0 a1 true))
theorem impl_SameRule.mono_l : ∀ k, (∀ y0 y1 y2, LeO (impl_SameRule.j0 k y0 y1 y2) (impl_SameRule.j0 (k + 1) y0 y1 y2)) ∧ (∀ y0 y1 y2 y3 y4, LeO (impl_SameRule.l0 k y0 y1 y2 y3 y4) (impl_SameRule.l0 (k + 1) y0 y1 y2 y3 y4))
 | 0 => ⟨fun _ _ _ r h => by simp [impl_SameRule.j0] at h, fun _ _ _ _ _ r h => by simp [impl_SameRule.l0] at h⟩
 | k + 1 => by
  obtain ⟨ih0, ih1⟩ := impl_SameRule.mono_l k
  refine ⟨?_, ?_⟩
  ·
   intro y0 y1 y2
   unfold impl_SameRule.j0
   repeat' (with_reducible first | exact ih0 _ _ _ | exact ih1 _ _ _ _ _ | exact mr_ | exact mn_ | refine mi_ ?_ ?_ | refine mb_ ?_ (fun _ => ?_))
  ·
   intro y0 y1 y2 y3 y4
   unfold impl_SameRule.l0
   repeat' (with_reducible first | exact ih0 _ _ _ | exact ih1 _ _ _ _ _ | exact mr_ | exact mn_ | refine mi_ ?_ ?_ | refine mb_ ?_ (fun _ => ?_))
theorem impl_SameRule.mono : ∀ a0 a1 k, LeO (impl_SameRule.f k a0 a1) (impl_SameRule.f (k + 1) a0 a1) := by
 intro a0 a1 k; obtain ⟨ih0, ih1⟩ := impl_SameRule.mono_l k; unfold impl_SameRule.f; repeat' (with_reducible first | exact ih0 _ _ _ | exact ih1 _ _ _ _ _ | exact mr_ | exact mn_ | refine mi_ ?_ ?_ | refine mb_ ?_ (fun _ => ?_))
theorem impl_SameRule.calls (k : Nat) (a0 : Int) (a1 : Int) (r : List (List Int)) (w : World) (h : impl_SameRule.f k a0 a1 = some r) :
  Calls Tryz.prog 53 #[.int .i64 a0, .int .i64 a1] w fun e w' => ∃ v0_ : Value, e = .returned (v0_) ∧ Kd.S (Kd.slice 3 (Kd.int .i64)) 34 w' w.heap.size (fun _ => True) v0_ r ∧ Below w.heap.size w w' := by
 have HB := A_ (Below.refl w.heap.size w); have H : ((impl_coloursOk.f a0).bind fun aE => (if aE = true then (if a1 < (-1) then (impl_SameRule.j0 k a0 a1 true) else (impl_SameRule.j0 k a0 a1 (decide (a1 > 3)))) else (impl_SameRule.j0 k a0 a1 true))) = some r := h; clear h; have HC3 := A_ H; clear H; go_enter Tryz.func53, Tryz.ntmps53
 go_upto_region 1 with (fail)
 go_cut [18] (fun ca wc => ∃ (kq : Nat) (aw : Bool), ca = .bool aw ∧ Aside0 (impl_SameRule.j0 kq a0 a1 aw = some r) ∧ Aside0 (kq ≤ k) ∧ Aside0 (Below w.heap.size w wc))
 case first =>
  have H := HC3.out; clear HC3; obtain ⟨aE, A4, H⟩ := bnd_ H; (try dsimp only at H); by_cases c5 : aE = true
  ·
   subst c5; replace H : (if a1 < (-1) then (impl_SameRule.j0 k a0 a1 true) else (impl_SameRule.j0 k a0 a1 (decide (a1 > 3)))) = some r := by rw [if_pos rfl] at H; exact H
   replace H := it_ H; rcases H with ⟨ag, H⟩ | ⟨ag, H⟩
   ·
    (first | rw [ag] | (simp only [i64_w, i32_w]; rw [ag]) | skip); have H' := A_ H; clear H; go_wp2_with (first | ((with_reducible refine gate_callee (f := 48) rfl ?_); refine gl_ (some 9) Tryz.func48 #[.int .i64 a0] ?_; (with_reducible refine (impl_coloursOk.calls a0 true _ A4.out).mono ?_); rintro e w' ⟨rfl, ⟨nd, rfl⟩⟩; refine ⟨_, rfl, ?_⟩)); go_meet
    case rel => exact ⟨_, (true), tx_, H', ⟨by first | omega | exact Nat.le_refl _⟩, ⟨(tb_ HB.out)⟩⟩
   ·
    (first | rw [ag] | (simp only [i64_w, i32_w]; rw [ag]) | skip); have H' := A_ H; clear H; go_wp2_with (first | ((with_reducible refine gate_callee (f := 48) rfl ?_); refine gl_ (some 9) Tryz.func48 #[.int .i64 a0] ?_; (with_reducible refine (impl_coloursOk.calls a0 true _ A4.out).mono ?_); rintro e w' ⟨rfl, ⟨nd, rfl⟩⟩; refine ⟨_, rfl, ?_⟩)); go_meet
    case rel => exact ⟨_, (decide (a1 > 3)), tx_, H', ⟨by first | omega | exact Nat.le_refl _⟩, ⟨(tb_ HB.out)⟩⟩
  ·
   replace c5 := Bool.eq_false_iff.mpr c5; subst c5; replace H : (impl_SameRule.j0 k a0 a1 true) = some r := by rw [if_neg (show ¬ (false = true) by decide)] at H; exact H
   have H' := A_ H; clear H; go_wp2_with (first | ((with_reducible refine gate_callee (f := 48) rfl ?_); refine gl_ (some 9) Tryz.func48 #[.int .i64 a0] ?_; (with_reducible refine (impl_coloursOk.calls a0 false _ A4.out).mono ?_); rintro e w' ⟨rfl, ⟨nd, rfl⟩⟩; refine ⟨_, rfl, ?_⟩)); go_meet
   case rel => exact ⟨_, (true), tx_, H', ⟨by first | omega | exact Nat.le_refl _⟩, ⟨(tb_ HB.out)⟩⟩
 case rest =>
  clear HC3; obtain ⟨kq, aw, rfl, HA, HJ2, HB⟩ := hcut
  cases kq with
  | zero => exact absurd HA.out (by simp [impl_SameRule.j0])
  | succ kj2 =>
   have H := HA.out; clear HA; simp only [impl_SameRule.j0] at H; by_cases c7 : aw = true
   ·
    subst c7; replace H : (some ([] : List (List Int))) = some r := by rw [if_pos rfl] at H; exact H
    obtain rfl := Option.some.inj H; go_wp2; go_ret; exact ⟨_, tw_, by first | exact Kd.S_nil _ _ _ _ _ | exact Kd.N_nil _ _ _ _ _ | exact Kd.V_nil _ _ _ _ _ | exact Kd.Q_nil _ _ _ _ _ | exact Kd.R_nil _ _ _ _ _, (tb_ HB.out)⟩
   ·
    replace c7 := Bool.eq_false_iff.mpr c7; subst c7; replace H : (impl_SameRule.l0 kj2 a0 a1 (([] : List (List Int))) a0 0) = some r := by rw [if_neg (show ¬ (false = true) by decide)] at H; exact H
    obtain ⟨bv, aG⟩ : ∃ y_ : List (List Int), y_ = (([] : List (List Int))) := ⟨_, rfl⟩
    replace H : (impl_SameRule.l0 kj2 a0 a1 bv a0 0) = some r := yq_ aG H; have bd := A_ aG; clear aG; have H' := A_ H; clear H; go_wp2_with (first | ((with_reducible refine gate_dst (N := 19) rfl ?_); refine Kd.S_lit (Kd.slice 3 (Kd.int .i64)) _ 34 ?hg (N := 19) ?hd (xs := ([] : List (List Int))) (inner := []) (ok := fun _ => True) (okp := fun _ => True) ?hr ?hp (fun _ hk => hk) trivial (Below.refl _ _) (Nat.le_refl _) (by simp) ?_; (case hd => rfl); (case hg => rfl); (case hr => first | (go_simp; done) | (go_simp; rfl)); (case hp => exact (Reps.none _ _)); intro cb w8 ho9 hb hg_ hnew_; clear hg_ hnew_; (first | rw [← bd.out] at ho9 | (simp only [Int.reduceToNat] at ho9; rw [← bd.out] at ho9)); have bw := A_ (Kd.S_lower ho9 (below_size (tb_ HB.out))); replace HB := bs_ HB hb; clear hb ho9))
    go_loopg [5, 21] kj2 (fun kq v5 cc w' => ∃ (aj : List (List Int)) (ac : Int), cc = .int .i64 ac ∧ Aside0 (impl_SameRule.l0 kq a0 a1 aj a0 ac = some r) ∧ Aside0 (kq ≤ kj2) ∧ Aside0 (Kd.S (Kd.slice 3 (Kd.int .i64)) 34 w' w.heap.size (fun _ => True) v5 aj) ∧ Aside0 (Below w.heap.size w w'))
    case atStart => exact ⟨(bv), (0), tx_, H', ⟨Nat.le_refl _⟩, ⟨rS_ bw.out⟩, ⟨(tb_ HB.out)⟩⟩
    case round =>
     clear H'; (try clear c7); obtain ⟨aj, ac, rfl, HA, HK2, am, HB⟩ := hrel
     cases gk with
     | zero => exact absurd HA.out (by simp [impl_SameRule.l0])
     | succ k2 =>
      have H := HA.out; clear HA; simp only [impl_SameRule.l0] at H; replace H := it_ H; rcases H with ⟨bx, H⟩ | ⟨bx, H⟩
      ·
       replace H := i0_ H; obtain ⟨c11, H⟩ := H; have b1 := eq_true c11; have b2 : decide (0 ≤ a0) = true := decide_eq_true c11; clear c11; replace H := i0_ H; obtain ⟨c12, H⟩ := H; have b3 := eq_true c12; have b4 : decide ((a0 : Int).toNat ≤ 35184372088832) = true := decide_eq_true c12; clear c12; obtain ⟨ah, aH⟩ : ∃ y_ : List Int, y_ = (List.replicate (a0 : Int).toNat 0) := ⟨_, rfl⟩
       replace H : (if 0 ≤ ac then (if ac < (ah.length : Int) then (if aj.length < 5864062014805 then (impl_SameRule.l0 k2 a0 a1 (aj ++ [(ah.set (ac : Int).toNat a1)]) a0 (wrap64 (ac + 1))) else (none)) else (none)) else (none)) = some r := yq_ aH H; have be := A_ aH; clear aH; replace H := in_ H; obtain ⟨b5, H⟩ := H; replace H := in_ H; obtain ⟨b6, H⟩ := H; obtain ⟨aU, aI⟩ : ∃ y_ : List Int, y_ = (ah.set (ac : Int).toNat a1) := ⟨_, rfl⟩
       replace H : (if aj.length < 5864062014805 then (impl_SameRule.l0 k2 a0 a1 (aj ++ [aU]) a0 (wrap64 (ac + 1))) else (none)) = some r := yq_ aI H; have bz := A_ aI; clear aI; replace H := il_ H; obtain ⟨bB, H⟩ := H; obtain ⟨bC, aJ⟩ : ∃ y_ : List (List Int), y_ = (aj ++ [aU]) := ⟨_, rfl⟩
       replace H : (impl_SameRule.l0 k2 a0 a1 bC a0 (wrap64 (ac + 1))) = some r := yq_ aJ H; have bD := A_ aJ; clear aJ; have H' := A_ H; clear H; go_wp2_with (first | ((with_reducible refine gate_dst (N := 25) rfl ?_); refine Kd.R_make (Kd.int .i64) _ 3 rfl (N := 25) rfl 34 _ _ rfl a0 rfl rfl Tryz.underlying34 (.int .i64 0) 8 info3 rfl (by decide) (by omega) 0 (ok := fun _ => True) (okp := fun _ => True) rfl (fun _ hk => hk) trivial (od_) (Nat.le_trans (Nat.mul_le_mul_right _ (od_ : a0.toNat ≤ 35184372088832)) (by omega)) (Below.refl _ _) (Nat.le_refl _) ?_; intro cd bP ho18 hb hg_ hnew_; clear hg_ hnew_; (first | rw [← be.out] at ho18 | (simp only [Int.reduceToNat] at ho18; rw [← be.out] at ho18)); replace am := A_ (Kd.S_elder' (rS_ am.out) (Kd.R_base ho18) hb); have ai := rx_ ho18 HB; replace HB := bs_ HB hb; clear hb ho18; have p15 : 0 ≤ (ac : Int) := od_; have q15 : (ac : Int) < ((ah.length : Int) : Int) := od_; obtain ⟨go15, aK, bE, bF, gl15, cl15, HG15⟩ := Kd.R_form ai.out (by omega); (first | cases bE | (injection bE with ea_ en_ ec_; (first | subst ea_ | (injection ea_ with ea_; subst ea_)); subst ec_; clear en_)); have GB15 := A_ bF; have GG15 := A_ HG15; clear bF gl15 HG15; obtain ⟨bQ, hf15_0⟩ := Kd.R_celln 0 ai.out (ac : Int) p15 q15; replace p15 := eq_true p15; replace q15 := eq_true q15; obtain ⟨hy19_, hz19_⟩ := Kd.R_celln 0 ai.out (ac : Int) (od_) (od_); have HP19 := Kd.R_putg ai.out (ac : Int) a1) | ((with_reducible refine gate_store (t := 3) (p := 29) rfl ?_); refine store_event (t := 3) (p := 29) (v := ?vo_w20) (w1 := (bP.setCell ⟨go15, (ac : Int).toNat, none⟩ (.int .i64 a1))) ?hg ?ho ?hn ?hr ?_; (case ho => rfl); (case hg => rfl); (case hn => rfl); (case hr => first | (go_simp; done) | (go_simp; rfl)); intro bR hw; have hg : bP.grownBy bR (some go15) := (by rw [hw]; exact HP19.2); have hp_ : Kd.R (Kd.int .i64) 3 bR w.heap.size (fun _ => True) (.slice (some ⟨go15, 0, none⟩) ah.length aK) aU := (by rw [hw, bz.out]; exact HP19.1); clear HP19; replace am := A_ (Kd.S_after (v := (.slice (some ⟨go15, 0, none⟩) ah.length aK)) (v1 := (.slice (some ⟨go15, 0, none⟩) ah.length aK)) (ok := (fun _ => True)) (rS_ am.out) hg (.inl rfl)); replace ai := A_ (hp_); replace HB := A_ ((by rw [hw]; exact below_set (HB.out) GB15.out : Below w.heap.size w bR)); clear hg hw hp_) | ((with_reducible refine gate_builtin (b := .append) (xs := #[.tmp 30, .tmp 32]) rfl ?_); at_builtin; refine Kd.S_append (Kd.slice 3 (Kd.int .i64)) (w0 := w) w.heap.size rfl (.tmp 30) (.tmp 32) 79 34 (.slice none 0 0) 24 rfl Tryz.underlying79 info34 rfl (by decide) (by omega) u5 aj aU [.slice (some ⟨go15, 0, none⟩) ah.length aK] (fun _ => True) (fun k_ => some k_ = (.slice (some ⟨go15, 0, none⟩) ah.length aK : Value).ownBlock) rfl rfl ?aP (fun k_ hk_ => ((Kd.R_mono (ok' := fun k_ => ((fun _ => True)) k_ ∧ some k_ ≠ (u5 : Value).ownBlock) (Kd.R_apart' (ai.out) (Kd.S_typed am.out) (by decide)) (fun k_ hk => ⟨trivial, hk.2⟩))).1 k_ hk_.symm) ?aF ?aO ?aB ?aS ?aL ?_; (case aP => exact Kd.M_row (Kd.R_mono (Kd.R_tight rfl (Kd.R_mono (ok' := fun k_ => ((fun _ => True)) k_ ∧ some k_ ≠ (u5 : Value).ownBlock) (Kd.R_apart' (ai.out) (Kd.S_typed am.out) (by decide)) (fun k_ hk => ⟨trivial, hk.2⟩))) (fun _ h_ => h_))); (case aB => exact (tb_ HB.out)); (case aF => exact (fun _ _ => trivial)); (case aO => exact (by refine qS_ ?_; exact Kd.S_mono am.out (fun k_ hk => ⟨trivial, fun e_ => hk.2 e_⟩))); (case aS => exact (below_size (tb_ HB.out))); (case aL => have := bB.out; omega); intro ce ck ho hb hg hat; rw [← bD.out] at ho; replace HB := A_ (hb); have bG := A_ (ho); clear am ai ho hb hg hat))
       go_roundg k2
       case measure => have := HJ2.out; have := HK2.out; omega
       case rel => exact ⟨(bC), (wrap64 (ac + 1)), tx_, H', ⟨by have := HJ2.out; have := HK2.out; omega⟩, ⟨rS_ bG.out⟩, ⟨(tb_ HB.out)⟩⟩
      ·
       obtain rfl := Option.some.inj H; go_wp2; go_ret; exact ⟨_, tw_, by refine qS_ ?_; exact am.out, (tb_ HB.out)⟩

/-! ### impl_PlaceOk: function 31 -/
def impl_PlaceOk.j0 : Nat → Bool → List Int → Int → List Int → Option (Bool)
 | 0, _, _, _, _ => none
 | k + 1, x25, ax, aV, aW => if x25 = true then (some false) else ((impl_SameRule.f k (ax.length : Int) aV).bind fun av => ((impl_ruleWays.f k ax av aW).bind fun aM => (some (decide (aM > 0)))))
def impl_PlaceOk.f (k : Nat) (ab : List Int) (a0_1 : Int) (ae : List Int) : Option (Bool) := (impl_StartOk.f k ab).bind fun aN => (if aN = true then (if a0_1 < (-1) then (impl_PlaceOk.j0 k true ab a0_1 ae) else (if a0_1 > 3 then (impl_PlaceOk.j0 k true ab a0_1 ae) else ((impl_WordOk.f k (ab.length : Int) ae).bind fun ap => (impl_PlaceOk.j0 k (!ap) ab a0_1 ae)))) else (impl_PlaceOk.j0 k true ab a0_1 ae))
theorem impl_PlaceOk.mono_l : ∀ k, (∀ y0 y1 y2 y3, LeO (impl_PlaceOk.j0 k y0 y1 y2 y3) (impl_PlaceOk.j0 (k + 1) y0 y1 y2 y3))
 | 0 => fun _ _ _ _ r h => by simp [impl_PlaceOk.j0] at h
 | k + 1 => by
  have ih0 := impl_PlaceOk.mono_l k
  ·
   intro y0 y1 y2 y3
   unfold impl_PlaceOk.j0
   repeat' (with_reducible first | exact ih0 _ _ _ _ | exact impl_SameRule.mono _ _ _ | exact impl_StartOk.mono _ _ | exact impl_WordOk.mono _ _ _ | exact impl_ruleWays.mono _ _ _ _ | exact mr_ | exact mn_ | refine mi_ ?_ ?_ | refine mb_ ?_ (fun _ => ?_))
theorem impl_PlaceOk.mono : ∀ a0 a1 a2 k, LeO (impl_PlaceOk.f k a0 a1 a2) (impl_PlaceOk.f (k + 1) a0 a1 a2) := by
 intro a0 a1 a2 k; have ih0 := impl_PlaceOk.mono_l k; unfold impl_PlaceOk.f; repeat' (with_reducible first | exact ih0 _ _ _ _ | exact impl_SameRule.mono _ _ _ | exact impl_StartOk.mono _ _ | exact impl_WordOk.mono _ _ _ | exact impl_ruleWays.mono _ _ _ _ | exact mr_ | exact mn_ | refine mi_ ?_ ?_ | refine mb_ ?_ (fun _ => ?_))
def impl_PlaceOk.T3 : Bool × List (List Nat × List Nat) := (true, [([], []), ([0], [0]), ([], []), ([2], [2]), ([3], [3]), ([], []), ([5], [5]), ([4, 6], [4, 6]), ([], []), ([8], [8]), ([1, 7, 9, 7], [1, 7, 9]), ([10], [10]), ([11, 10, 0, 1, 2, 3, 4, 5, 6, 7, 8, 9, 10, 11], [11])])
def impl_PlaceOk.B3 : List Nat := [0, 1, 0, 4, 12, 0, 32, 124, 0, 256, 1023, 2047, 4095]
theorem impl_PlaceOk.tab3 : rtab .any (opsOf Tryz.f31 3) = impl_PlaceOk.T3 := by kernel_rfl
theorem impl_PlaceOk.bits3 : waitsOk impl_PlaceOk.T3.2 impl_PlaceOk.B3 = true := by kernel_rfl
theorem impl_PlaceOk.calls (k : Nat) (ak : Option Addr) (al : Nat) (ab : List Int) (a0_1 : Int) (aA : Option Addr) (aC : Nat) (ae : List Int) (r : Bool) (w : World) (hr0_0 : Kd.C (Kd.int .i64) w ak ab.length ab) (hc0_0 : ab.length ≤ al) (hr0_2 : Kd.C (Kd.int .i64) w aA ae.length ae) (hc0_2 : ae.length ≤ aC) (h : impl_PlaceOk.f k ab a0_1 ae = some r) :
  Calls Tryz.prog 31 #[.agg #[.slice ak ab.length al, .int .i64 a0_1, .slice aA ae.length aC]] w fun e w' => e = .returned (.bool r) ∧ Below w.heap.size w w' := by
 have hu36 := Tryz.underlying36; have b7 := A_ hr0_0; have aq := A_ hc0_0; clear hr0_0 hc0_0; have bH := A_ hr0_2; have bf := A_ hc0_2; clear hr0_2 hc0_2; have HB := A_ (Below.refl w.heap.size w); have H : ((impl_StartOk.f k ab).bind fun aN => (if aN = true then (if a0_1 < (-1) then (impl_PlaceOk.j0 k true ab a0_1 ae) else (if a0_1 > 3 then (impl_PlaceOk.j0 k true ab a0_1 ae) else ((impl_WordOk.f k (ab.length : Int) ae).bind fun ap => (impl_PlaceOk.j0 k (!ap) ab a0_1 ae)))) else (impl_PlaceOk.j0 k true ab a0_1 ae))) = some r := h; clear h; have HC2 := A_ H; clear H; go_enter Tryz.func31, Tryz.ntmps31
 go_upto_region 1 with (first | ((with_reducible refine gate_dst (N := 1) rfl ?_); (try (refine gate_guard (by rfl) ?_; dsimp only)); refine be_ 1 #[.slice ak ab.length al, .int .i64 a0_1, .slice aA ae.length aC] 36 ?_; intro ay hg w3 aa hb; have b8 := gx_ HB hg; have b9 := gx_ HB hg; replace HB := bs_ HB hb; clear hb hg))
 (try simp only [Act.put, sa_, sb_, sc_])
 go_cut [25] (fun cf wc => ∃ (kq : Nat) (az : Bool), cf = .bool az ∧ Aside0 (impl_PlaceOk.j0 kq az ab a0_1 ae = some r) ∧ Aside0 (kq ≤ k) ∧ Aside0 (wc.heap[ay]? = some (.cells #[(.slice ak ab.length al), .int .i64 a0_1, (.slice aA ae.length aC)] 36 (0, 0))) ∧ Aside0 (Below w.heap.size w wc))
 case first =>
  have H := HC2.out; clear HC2; obtain ⟨aN, A4, H⟩ := bnd_ H; (try dsimp only at H); by_cases c5 : aN = true
  ·
   subst c5; replace H : (if a0_1 < (-1) then (impl_PlaceOk.j0 k true ab a0_1 ae) else (if a0_1 > 3 then (impl_PlaceOk.j0 k true ab a0_1 ae) else ((impl_WordOk.f k (ab.length : Int) ae).bind fun ap => (impl_PlaceOk.j0 k (!ap) ab a0_1 ae)))) = some r := by rw [if_pos rfl] at H; exact H
   replace H := it_ H; rcases H with ⟨ag, H⟩ | ⟨ag, H⟩
   ·
    (first | rw [ag] | (simp only [i64_w, i32_w]; rw [ag]) | skip); have H' := A_ H; clear H; obtain ⟨bh, bi, bj, bk, bl, bm⟩ := cf3_ aa; go_wp2_with (first | ((with_reducible refine gate_callee (f := 50) rfl ?_); refine gl_ (some 5) Tryz.func50 #[.slice ak ab.length al] ?_; (with_reducible refine (impl_StartOk.calls k _ _ ab true _ ?s1 ?s2 A4.out).mono ?_); (case s1 => exact tD_); (case s2 => exact aq.out); rintro e w' ⟨rfl, ⟨nd, rfl⟩⟩; refine ⟨_, rfl, ?_⟩)); go_meet
    case rel => exact ⟨_, (true), tx_, H', ⟨by first | omega | exact Nat.le_refl _⟩, ⟨tk_ aa.out⟩, ⟨(tb_ HB.out)⟩⟩
   ·
    (first | rw [ag] | (simp only [i64_w, i32_w]; rw [ag]) | skip); replace H := ig_ H; rcases H with ⟨bI, H⟩ | ⟨bI, H⟩
    ·
     have H' := A_ H; clear H; obtain ⟨bn, bo, bp, bq, br, bs⟩ := cf3_ aa; go_wp2_with (first | ((with_reducible refine gate_callee (f := 50) rfl ?_); refine gl_ (some 5) Tryz.func50 #[.slice ak ab.length al] ?_; (with_reducible refine (impl_StartOk.calls k _ _ ab true _ ?s1 ?s2 A4.out).mono ?_); (case s1 => exact tD_); (case s2 => exact aq.out); rintro e w' ⟨rfl, ⟨nd, rfl⟩⟩; refine ⟨_, rfl, ?_⟩)); go_meet
     case rel => exact ⟨_, (true), tx_, H', ⟨by first | omega | exact Nat.le_refl _⟩, ⟨tk_ aa.out⟩, ⟨(tb_ HB.out)⟩⟩
    ·
     obtain ⟨ap, A10, H⟩ := bnd_ H; (try dsimp only at H); have H' := A_ H; clear H; obtain ⟨aX, aY, aZ, a3, a4, a5⟩ := cf3_ aa; go_wp2_with (first | ((with_reducible refine gate_callee (f := 50) rfl ?_); refine gl_ (some 5) Tryz.func50 #[.slice ak ab.length al] ?_; (with_reducible refine (impl_StartOk.calls k _ _ ab true _ ?s1 ?s2 A4.out).mono ?_); (case s1 => exact tD_); (case s2 => exact aq.out); rintro e w' ⟨rfl, ⟨nd, rfl⟩⟩; refine ⟨_, rfl, ?_⟩) | (go_at_call 51; (with_reducible refine (impl_WordOk.calls k (ab.length : Int) _ _ ae ap _ ?s1 ?s2 A10.out).mono ?_); (case s1 => repeat (first | exact (Kd.C_below bH.out (tb_ HB.out)) | (with_reducible refine Kd.C_alloc ?_ _) | (with_reducible refine Kd.C_drewN ?_ _) | (with_reducible refine Kd.C_drew ?_))); (case s2 => exact bf.out); rintro e w' ⟨rfl, ⟨nd, rfl⟩⟩)); go_meet
     case rel => exact ⟨_, (!ap), tx_, H', ⟨by first | omega | exact Nat.le_refl _⟩, ⟨tk_ aa.out⟩, ⟨(tb_ HB.out)⟩⟩
  ·
   replace c5 := Bool.eq_false_iff.mpr c5; subst c5; replace H : (impl_PlaceOk.j0 k true ab a0_1 ae) = some r := by rw [if_neg (show ¬ (false = true) by decide)] at H; exact H
   have H' := A_ H; clear H; obtain ⟨a6, a7, a8, a9, bb, bc⟩ := cf3_ aa; go_wp2_with (first | ((with_reducible refine gate_callee (f := 50) rfl ?_); refine gl_ (some 5) Tryz.func50 #[.slice ak ab.length al] ?_; (with_reducible refine (impl_StartOk.calls k _ _ ab false _ ?s1 ?s2 A4.out).mono ?_); (case s1 => exact tD_); (case s2 => exact aq.out); rintro e w' ⟨rfl, ⟨nd, rfl⟩⟩; refine ⟨_, rfl, ?_⟩)); go_meet
   case rel => exact ⟨_, (true), tx_, H', ⟨by first | omega | exact Nat.le_refl _⟩, ⟨tk_ aa.out⟩, ⟨(tb_ HB.out)⟩⟩
 case rest =>
  clear HC2; obtain ⟨kq, az, rfl, HA, HJ1, aa, HB⟩ := hcut
  cases kq with
  | zero => exact absurd HA.out (by simp [impl_PlaceOk.j0])
  | succ kj1 =>
   have H := HA.out; clear HA; simp only [impl_PlaceOk.j0] at H; by_cases c13 : az = true
   ·
    subst c13; replace H : (some false) = some r := by rw [if_pos rfl] at H; exact H
    obtain rfl := Option.some.inj H; go_wp2; go_ret; exact ⟨tw_, (tb_ HB.out)⟩
   ·
    replace c13 := Bool.eq_false_iff.mpr c13; subst c13; replace H : ((impl_SameRule.f kj1 (ab.length : Int) a0_1).bind fun av => ((impl_ruleWays.f kj1 ab av ae).bind fun aM => (some (decide (aM > 0))))) = some r := by rw [if_neg (show ¬ (false = true) by decide)] at H; exact H
    obtain ⟨av, A14, H⟩ := bnd_ H; (try dsimp only at H); obtain ⟨aM, A15, H⟩ := bnd_ H; (try dsimp only at H); obtain rfl := Option.some.inj H; (try go_wp2); replace aa := dB_ aa; replace HB := A_ (ld_ HB.out); refine sv_ (S := fun w' => w'.cell? ⟨ay, 0, none⟩ = some (.slice ak ab.length al) ∧ w'.cell? ⟨ay, 1, none⟩ = some (.int .i64 a0_1) ∧ w'.cell? ⟨ay, 2, none⟩ = some (.slice aA ae.length aC)) (ds := []) hh_ (fun hHeld => ?_); refine with_tabW impl_PlaceOk.tab3 impl_PlaceOk.bits3 (fun HT_ HW_ => ?_); generalize wc.drew = cl at aa HB hHeld ⊢; refine pv_ 0 ?_; refine pv_ 2 ?_; refine pv_ 5 ?_; refine pv_ 8 ?_; refine tv_ 1 ?_; refine tv_ 3 ?_; refine pv_ 4 ?_; refine tv_ 6 ?_; refine tv_ 9 ?_; refine ov_ 7 (fun K hK => ?_); refine goes_ Tryz.func53 (by kernel_rfl) rfl #[.int .i64 (ab.length : Int), .int .i64 a0_1] (by rfl) rfl rfl tz_ ?_; (with_reducible refine (impl_SameRule.calls kj1 (ab.length : Int) a0_1 av _ A14.out).mono ?_); rintro e bP ⟨cg, rfl, ho0, hb⟩; refine ⟨_, rfl, ?_⟩; have ar := A_ (Kd.S_lower ho0 (below_size (tb_ HB.out))); replace aa := bb_ aa hb; replace HB := bs_ HB hb; (try clear hb); (try clear hb2); (try clear hk); (try clear hi); (try clear ho0); obtain ⟨bS, bU, bJ⟩ := Kd.S_slice ar.out; (first | subst bJ | (injection bJ with f1_ f2_ f3_; have f4_ := f1_.symm; have f5_ := f3_.symm; clear f1_ f2_ f3_; subst f4_; subst f5_)); refine hK.out _ _ hh_ (fun hHeld => ?_); clear hK K; refine nr_ 33 ?_; refine ov_ 10 (fun K hK => ?_); refine goes_ Tryz.func52 (by kernel_rfl) rfl #[.slice ak ab.length al, .slice bS av.length bU, .slice aA ae.length aC] (by rfl) rfl rfl tz_ ?_; (with_reducible refine (impl_ruleWays.calls kj1 _ _ ab _ _ av _ _ ae aM _ ?s1 ?s2 ?s3 ?s4 ?s5 ?s6 A15.out).mono ?_); (case s1 => exact tD_); (case s2 => exact aq.out); (case s3 => repeat (first | exact (Kd.S_reads' ar.out).2.2 | (with_reducible refine Kd.C_alloc ?_ _) | (with_reducible refine Kd.C_drewN ?_ _) | (with_reducible refine Kd.C_drew ?_))); (case s4 => exact (Kd.S_reads' ar.out).2.1); (case s5 => exact tD_); (case s6 => exact bf.out); rintro e cm ⟨rfl, hb⟩; refine ⟨_, rfl, ?_⟩; replace ar := A_ (Kd.S_below (rS_ ar.out) hb); replace aa := bb_ aa hb; replace HB := bs_ HB hb; (try clear hb); (try clear hb2); (try clear hk); (try clear hi); refine hK.out _ _ hh_ (fun hHeld => ?_); clear hK K; refine nr_ 36 ?_; refine pv_ 11 ?_; refine pv_ 12 ?_; refine done_ (done_of HT_.out (by kernel_rfl)) ?_; (try go_wp2); go_ret; exact ⟨tw_, (tb_ HB.out)⟩

/-! ### strconv_Itoa: function 55 -/
def strconv_Itoa.f (a0 : Int) : Option (ByteArray) := if -9223372036854775808 ≤ a0 ∧ a0 ≤ 9223372036854775807 then some ⟨(Lib.itoa a0).toArray⟩ else none
theorem strconv_Itoa.calls (a0 : Int) (r : ByteArray) (w : World) (hG : GWb w) (h : strconv_Itoa.f a0 = some r) :
  Calls Tryz.prog 55 #[.int .i64 a0] w fun e w' => e = .returned (.string r) ∧ Below w.heap.size w w' := by
 unfold strconv_Itoa.f at h; split at h
 ·
  rename_i hb; obtain rfl := Option.some.inj h; refine (Sh.Tryz.strconv_Itoa a0 hb.1 hb.2 w hG.tab).mono fun e w' ⟨he, k, os, hw⟩ => ⟨he, hw ▸ Lib.below_grow _ w (Nat.le_refl _) k os⟩
 ·
  cases h

/-! ### strings_Join: function 73 -/
def strings_Join.f (l0 : List ByteArray) (a1 : ByteArray) : Option (ByteArray) := if l0.length ≤ 140737488355328 ∧ (Lib.join (l0.map (·.data.toList)) a1.data.toList).length ≤ 140737488355328 then some ⟨(Lib.join (l0.map (·.data.toList)) a1.data.toList).toArray⟩ else none
theorem strings_Join.calls (A0 : Option Addr) (c0 : Nat) (l0 : List ByteArray) (a1 : ByteArray) (r : ByteArray) (w : World) (hr0 : Kd.C Kd.string w A0 l0.length l0) (hc0 : l0.length ≤ c0) (h : strings_Join.f l0 a1 = some r) :
  Calls Tryz.prog 73 #[.slice A0 l0.length c0, .string a1] w fun e w' => e = .returned (.string r) ∧ Below w.heap.size w w' := by
 unfold strings_Join.f at h; split at h
 ·
  rename_i hb; obtain rfl := Option.some.inj h; rcases Nat.eq_zero_or_pos l0.length with h0 | h0
  ·
   obtain rfl : l0 = [] := List.eq_nil_of_length_eq_zero h0; exact (Sh.Tryz.strings_Join_none A0 c0 a1 w).mono fun e w' ⟨he, hw⟩ => ⟨he, hw ▸ Below.refl _ _⟩
  ·
   obtain ⟨ad, rfl, hc⟩ := hr0.2.2 h0
   have hcell : ∀ (j : Nat) x, l0[j]? = some x → w.cell? (ad.add j) = some (.string x) := by
    intro j x hj; obtain ⟨c, hc1, hc2, hc3⟩ := hc j _ hj; have e1 : c = [.string x] := hc2; have := hc3 0 _ (by rw [e1]; rfl); simpa [Kd.string, Kd.scalar] using this
   have hs := hcell 0 _ (List.getElem?_eq_getElem h0)
   have hsp : ad.spot = none := by
    cases hq : ad.spot with
    | none => rfl
    | some q => simp [World.cell?, Addr.add, hq] at hs; split at hs <;> simp at hs
   have hlt := World.block_lt_of_cell? _ _ hs; obtain ⟨b, o, sp⟩ := ad; simp only at hsp; subst hsp; exact Sh.Tryz.strings_Join b o c0 l0 a1 w (fun j x hj => by have := hcell j x hj; unfold Addr.add at this; split at this <;> simp_all) (by simpa [Addr.add] using hlt) hb.1 hc0 hb.2
 ·
  cases h

/-! ### impl_rowText: function 54 -/
def impl_rowText.l0 : Nat → List ByteArray → List Int → Int → Int → Option (ByteArray)
 | 0, _, _, _, _ => none
 | k + 1, x3, x7, x8, x9 => if x9 < x8 then (if 0 ≤ x9 then (if x9 < (x7.length : Int) then ((strconv_Itoa.f (rd x7 x9)).bind fun aD => (if x3.length < 8796093022208 then (impl_rowText.l0 k (x3 ++ [aD]) x7 x8 (wrap64 (x9 + 1))) else (none))) else (none)) else (none)) else ((strings_Join.f x3 (⟨#[44]⟩ : ByteArray)).bind fun bu => (some bu))
def impl_rowText.f (k : Nat) (l0 : List Int) : Option (ByteArray) := impl_rowText.l0 k (([] : List ByteArray)) l0 (l0.length : Int) 0
theorem impl_rowText.mono_l : ∀ k, (∀ y0 y1 y2 y3, LeO (impl_rowText.l0 k y0 y1 y2 y3) (impl_rowText.l0 (k + 1) y0 y1 y2 y3))
 | 0 => fun _ _ _ _ r h => by simp [impl_rowText.l0] at h
 | k + 1 => by
  have ih0 := impl_rowText.mono_l k
  ·
   intro y0 y1 y2 y3
   unfold impl_rowText.l0
   repeat' (with_reducible first | exact ih0 _ _ _ _ | exact mr_ | exact mn_ | refine mi_ ?_ ?_ | refine mb_ ?_ (fun _ => ?_))
theorem impl_rowText.mono : ∀ a0 k, LeO (impl_rowText.f k a0) (impl_rowText.f (k + 1) a0) := by
 intro a0 k; have ih0 := impl_rowText.mono_l k; unfold impl_rowText.f; repeat' (with_reducible first | exact ih0 _ _ _ _ | exact mr_ | exact mn_ | refine mi_ ?_ ?_ | refine mb_ ?_ (fun _ => ?_))
theorem impl_rowText.calls (k : Nat) (A0 : Option Addr) (c0 : Nat) (l0 : List Int) (r : ByteArray) (w : World) (hr0 : Kd.C (Kd.int .i64) w A0 l0.length l0) (hc0 : l0.length ≤ c0) (hG : GWb w) (h : impl_rowText.f k l0 = some r) :
  Calls Tryz.prog 54 #[.slice A0 l0.length c0] w fun e w' => e = .returned (.string r) ∧ Below w.heap.size w w' := by
 have HG := A_ hG; clear hG; have HR0 := A_ hr0; have HC0 := A_ hc0; clear hr0 hc0; have HB := A_ (Below.refl w.heap.size w); have H : (impl_rowText.l0 k (([] : List ByteArray)) l0 (l0.length : Int) 0) = some r := h; clear h; obtain ⟨bK, aQ⟩ : ∃ y_ : List ByteArray, y_ = (([] : List ByteArray)) := ⟨_, rfl⟩
 replace H : (impl_rowText.l0 k bK l0 (l0.length : Int) 0) = some r := yq_ aQ H; have bg := A_ aQ; clear aQ; have H' := A_ H; clear H; go_enter Tryz.func54, Tryz.ntmps54; go_wp2_with (first | ((with_reducible refine gate_dst (N := 6) rfl ?_); refine Kd.R_lit Kd.string _ 9 ?hg (N := 6) ?hd (xs := ([] : List ByteArray)) (inner := []) (ok := fun _ => True) (okp := fun _ => True) ?hr ?hp (fun _ hk => hk) trivial (Below.refl _ _) (Nat.le_refl _) (by simp) ?_; (case hd => rfl); (case hg => rfl); (case hr => first | (go_simp; done) | (go_simp; rfl)); (case hp => exact (Reps.none _ _)); intro ch w2 ho3 hb hg_ hnew_; clear hg_ hnew_; (first | rw [← bg.out] at ho3 | (simp only [Int.reduceToNat] at ho3; rw [← bg.out] at ho3)); have bL := rx_ ho3 HB; replace HB := bs_ HB hb; clear hb ho3))
 go_loopg [3, 9] k (fun kq v3 v9 w' => ∃ (au : List ByteArray) (af : Int), v9 = .int .i64 af ∧ Aside0 (impl_rowText.l0 kq au l0 (l0.length : Int) af = some r) ∧ Aside0 (kq ≤ k) ∧ Aside0 (Kd.R Kd.string 9 w' w.heap.size (fun _ => True) v3 au) ∧ Aside0 (Below w.heap.size w w'))
 case atStart => exact ⟨(bK), (0), tx_, H', ⟨Nat.le_refl _⟩, ⟨rR_ bL.out⟩, ⟨(tb_ HB.out)⟩⟩
 case round =>
  clear H'; obtain ⟨au, af, rfl, HA, HK1, an, HB⟩ := hrel
  cases gk with
  | zero => exact absurd HA.out (by simp [impl_rowText.l0])
  | succ k1 =>
   have H := HA.out; clear HA; simp only [impl_rowText.l0] at H; replace H := it_ H; rcases H with ⟨bV, H⟩ | ⟨bV, H⟩
   ·
    replace H := in_ H; obtain ⟨ci, H⟩ := H; replace H := in_ H; obtain ⟨ag, H⟩ := H; obtain ⟨aD, A7, H⟩ := bnd_ H; (try dsimp only at H); replace H := il_ H; obtain ⟨bW, H⟩ := H; obtain ⟨bM, aR⟩ : ∃ y_ : List ByteArray, y_ = (au ++ [aD]) := ⟨_, rfl⟩
    replace H : (impl_rowText.l0 k1 bM l0 (l0.length : Int) (wrap64 (af + 1))) = some r := yq_ aR H; have bN := A_ aR; clear aR; have H' := A_ H; clear H; obtain ⟨p714, q714, ad714, e714, ao⟩ := a2_ (Kd.at_int HR0.out af); cases e714; replace ao := (HB.out.cell (World.block_lt_of_cell? w _ ao)).trans ao; go_wp2_with (first | ((with_reducible refine gate_callee (f := 55) rfl ?_); refine gl_ (some 15) Tryz.func55 #[.int .i64 (rd l0 af)] ?_; (with_reducible refine (strconv_Itoa.calls (rd l0 af) aD _ ?s1 A7.out).mono ?_); (case s1 => exact GWb.below HG.out (tb_ HB.out)); rintro e w9 ⟨rfl, hb⟩; refine ⟨_, rfl, ?_⟩; replace an := rb_ an hb; replace HB := bs_ HB hb; (try clear hb)) | ((with_reducible refine gate_builtin (b := .append) (xs := #[.tmp 13, .tmp 16]) rfl ?_); at_builtin; refine Kd.R_append Kd.string (w0 := w) w.heap.size rfl (.tmp 13) (.tmp 16) 68 9 (.string ⟨#[]⟩) 16 rfl Tryz.underlying68 info9 rfl (by decide) (by omega) u3 au aD [.string aD] (fun _ => True) (fun _ => False) rfl rfl ?aP (fun _ hk => hk.elim) ?aF ?aO ?aB ?aS ?aL ?_; (case aP => exact rfl); (case aB => exact (tb_ HB.out)); (case aF => exact (fun _ _ => trivial)); (case aO => exact (rR_ an.out)); (case aS => exact (below_size (tb_ HB.out))); (case aL => have := bW.out; omega); intro cj cn ho hb hg hat; rw [← bN.out] at ho; replace HB := A_ (hb); have bO := A_ (ho); clear an ho hb hg hat))
    go_roundg k1
    case measure => have := HK1.out; omega
    case rel => exact ⟨(bM), (wrap64 (af + 1)), tx_, H', ⟨by have := HK1.out; omega⟩, ⟨rR_ bO.out⟩, ⟨(tb_ HB.out)⟩⟩
   ·
    obtain ⟨bu, A11, H⟩ := bnd_ H; (try dsimp only at H); obtain rfl := Option.some.inj H; obtain ⟨bX, bZ, b0⟩ := Kd.R_slice an.out; subst b0; go_wp2_with (first | ((with_reducible refine gate_callee (f := 73) rfl ?_); refine gl_ (some 20) Tryz.func73 #[.slice bX au.length bZ, .string (⟨#[44]⟩ : ByteArray)] ?_; (with_reducible refine (strings_Join.calls _ _ au (⟨#[44]⟩ : ByteArray) bu _ ?s1 ?s2 A11.out).mono ?_); (case s1 => exact rc_ an); (case s2 => exact (ll_ an)); rintro e co ⟨rfl, hb⟩; refine ⟨_, rfl, ?_⟩; replace an := rb_ an hb; replace HB := bs_ HB hb; (try clear hb))); go_ret; exact ⟨tw_, (tb_ HB.out)⟩

end Go.Proofs.YtmcibffagofkjaaGreatDoor.MFnStoreSync
