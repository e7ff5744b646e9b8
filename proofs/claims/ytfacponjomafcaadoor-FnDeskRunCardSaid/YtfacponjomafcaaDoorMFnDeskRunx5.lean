/- For the law FnDeskRun: walks of the functions that it reaches: each call returns what the plain function beside it tells. The conditions stand in each statement. -/
import Derived.Test.YtfacponjomafcaaDoorV
import Derived.Test.YtfacponjomafcaaDoorMFnDeskRunx0
import Derived.Test.YtfacponjomafcaaDoorMFnDeskRunx4
namespace Go.Proofs.YtfacponjomafcaaDoor.MFnDeskRun
open Go.RowKit Go.Proofs.YtfacponjomafcaaDoorW.PrintWords Go.Proofs.YtfacponjomafcaaDoorW.PrintLast Go.Proofs.YtfacponjomafcaaDoorW.PrintMore
attribute [local go_sem] max2_int min2_int max_two min_two max_three min_three max_four min_four   -- for this text's walks alone
set_option linter.unusedVariables false
set_option linter.unusedSimpArgs false
set_option maxHeartbeats 8000000
set_option maxRecDepth 100000

/-! ### spec_WordOk: function 66 -/
def spec_WordOk.l0 : Nat → Int → List Int → Int → Option (Bool)
 | 0, _, _, _ => none
 | k + 1, x0, x1, x5 => if x5 < (x1.length : Int) then (if 0 ≤ x5 then (if (rd x1 x5) < 0 then (some false) else (if (rd x1 x5) ≥ x0 then (some false) else (spec_WordOk.l0 k x0 x1 (wrap64 (x5 + 1))))) else (none)) else ((spec_l1In.f x0 1 3).bind fun aM => (if aM = true then (some (decide ((x1.length : Int) ≤ 6))) else (some false)))
def spec_WordOk.f (k : Nat) (a0 : Int) (l1 : List Int) : Option (Bool) := spec_WordOk.l0 k a0 l1 0
theorem spec_WordOk.mono_l : ∀ k, (∀ y0 y1 y2, LeO (spec_WordOk.l0 k y0 y1 y2) (spec_WordOk.l0 (k + 1) y0 y1 y2))
 | 0 => fun _ _ _ r h => by simp [spec_WordOk.l0] at h
 | k + 1 => by
  have ih0 := spec_WordOk.mono_l k
  ·
   intro y0 y1 y2
   unfold spec_WordOk.l0
   repeat' (with_reducible first | exact ih0 _ _ _ | exact mr_ | exact mn_ | refine mi_ ?_ ?_ | refine mb_ ?_ (fun _ => ?_))
theorem spec_WordOk.mono : ∀ a0 a1 k, LeO (spec_WordOk.f k a0 a1) (spec_WordOk.f (k + 1) a0 a1) := by
 intro a0 a1 k; have ih0 := spec_WordOk.mono_l k; unfold spec_WordOk.f; repeat' (with_reducible first | exact ih0 _ _ _ | exact mr_ | exact mn_ | refine mi_ ?_ ?_ | refine mb_ ?_ (fun _ => ?_))
theorem spec_WordOk.calls (k : Nat) (a0 : Int) (A1 : Option Addr) (c1 : Nat) (l1 : List Int) (r : Bool) (w : World) (hr1 : Kd.C (Kd.int .i64) w A1 l1.length l1) (hc1 : l1.length ≤ c1) (h : spec_WordOk.f k a0 l1 = some r) :
  Calls Tryd.prog 66 #[.int .i64 a0, .slice A1 l1.length c1] w fun e w' => e = .returned (.bool r) ∧ Drawn0 w w' := by
 have HR1 := A_ hr1; have HC1 := A_ hc1; clear hr1 hc1; have H : (spec_WordOk.l0 k a0 l1 0) = some r := h; clear h; have H' := A_ H; clear H; go_enter Tryd.func66, Tryd.ntmps66; go_wp2
 go_loopg [5] k (fun kq v5 w' => ∃ (ab : Int), v5 = .int .i64 ab ∧ Aside0 (spec_WordOk.l0 kq a0 l1 ab = some r) ∧ Aside0 (kq ≤ k) ∧ Drawn0 w w')
 case atStart => exact ⟨(0), tx_, H', ⟨Nat.le_refl _⟩, dz_⟩
 case round =>
  clear H'; obtain ⟨ab, rfl, HA, HK1, ⟨m1, rfl⟩⟩ := hrel
  cases gk with
  | zero => exact absurd HA.out (by simp [spec_WordOk.l0])
  | succ k1 =>
   have H := HA.out; clear HA; simp only [spec_WordOk.l0] at H; replace H := it_ H; rcases H with ⟨be, H⟩ | ⟨be, H⟩
   ·
    replace H := in_ H; obtain ⟨br, H⟩ := H; replace H := it_ H; rcases H with ⟨bf, H⟩ | ⟨bf, H⟩
    ·
     obtain rfl := Option.some.inj H; obtain ⟨p185, q185, ad185, e185, an⟩ := a2_ (Kd.at_int HR1.out ab); cases e185; go_wp2; go_ret; exact ⟨tx_, dz_⟩
    ·
     replace H := ih_ H; rcases H with ⟨aN, H⟩ | ⟨aN, H⟩
     ·
      obtain rfl := Option.some.inj H; obtain ⟨p185, q185, ad185, e185, an⟩ := a2_ (Kd.at_int HR1.out ab); cases e185; have p186 : 0 ≤ (ab : Int) := od_; have q186 : ab < (l1.length : Int) := od_; obtain ⟨ad186, e186, aC⟩ := Kd.at_int HR1.out ab p186 q186; obtain rfl : ad185 = ad186 := (by injection e186)
      replace p186 := eq_true p186; replace q186 := eq_true q186; go_wp2; go_ret; exact ⟨tx_, dz_⟩
     ·
      have H' := A_ H; clear H; obtain ⟨p185, q185, ad185, e185, an⟩ := a2_ (Kd.at_int HR1.out ab); cases e185; have p186 : 0 ≤ (ab : Int) := od_; have q186 : ab < (l1.length : Int) := od_; obtain ⟨ad186, e186, aC⟩ := Kd.at_int HR1.out ab p186 q186; obtain rfl : ad185 = ad186 := (by injection e186)
      replace p186 := eq_true p186; replace q186 := eq_true q186; go_wp2
      go_roundg k1
      case measure => have := HK1.out; omega
      case rel => exact ⟨(wrap64 (ab + 1)), tx_, H', ⟨by have := HK1.out; omega⟩, dz_⟩
   ·
    obtain ⟨aM, A7, H⟩ := bnd_ H; (try dsimp only at H); by_cases c8 : aM = true
    ·
     subst c8; replace H : (some (decide ((l1.length : Int) ≤ 6))) = some r := by rw [if_pos rfl] at H; exact H
     obtain rfl := Option.some.inj H; go_wp2_with (first | ((with_reducible refine gate_callee (f := 53) rfl ?_); refine gl_ (some 26) Tryd.func53 #[.int .i64 a0, .int .i64 1, .int .i64 3] ?_; (with_reducible refine (spec_l1In.calls a0 1 3 true _ A7.out).mono ?_); rintro e w' ⟨rfl, ⟨nd, rfl⟩⟩; refine ⟨_, rfl, ?_⟩)); go_ret; exact ⟨tx_, dz_⟩
    ·
     replace c8 := Bool.eq_false_iff.mpr c8; subst c8; replace H : (some false) = some r := by rw [if_neg (show ¬ (false = true) by decide)] at H; exact H
     obtain rfl := Option.some.inj H; go_wp2_with (first | ((with_reducible refine gate_callee (f := 53) rfl ?_); refine gl_ (some 26) Tryd.func53 #[.int .i64 a0, .int .i64 1, .int .i64 3] ?_; (with_reducible refine (spec_l1In.calls a0 1 3 false _ A7.out).mono ?_); rintro e w' ⟨rfl, ⟨nd, rfl⟩⟩; refine ⟨_, rfl, ?_⟩)); go_ret; exact ⟨tx_, dz_⟩

/-! ### spec_l4After: function 67 -/
def spec_l4After.l0 : Nat → List Int → List (List Int) → Int → List Int → Int → Option (List Int)
 | 0, _, _, _, _, _ => none
 | k + 1, x0, x1, x2, x7, x8 => if x8 < (x0.length : Int) then (if 0 ≤ x8 then (if 0 ≤ x2 then (if x2 < (x1.length : Int) then (if x8 < ((rd_L1 x1 x2).length : Int) then (if x7.length < 17592186044416 then (spec_l4After.l0 k x0 x1 x2 (x7 ++ [wrap64 ((rd x0 x8) + (rd (rd_L1 x1 x2) x8))]) (wrap64 (x8 + 1))) else (none)) else (none)) else (none)) else (none)) else (none)) else (some x7)
def spec_l4After.f (k : Nat) (l0 : List Int) (l1 : List (List Int)) (a2 : Int) : Option (List Int) := spec_l4After.l0 k l0 l1 a2 (([] : List Int)) 0
theorem spec_l4After.mono_l : ∀ k, (∀ y0 y1 y2 y3 y4, LeO (spec_l4After.l0 k y0 y1 y2 y3 y4) (spec_l4After.l0 (k + 1) y0 y1 y2 y3 y4))
 | 0 => fun _ _ _ _ _ r h => by simp [spec_l4After.l0] at h
 | k + 1 => by
  have ih0 := spec_l4After.mono_l k
  ·
   intro y0 y1 y2 y3 y4
   unfold spec_l4After.l0
   repeat' (with_reducible first | exact ih0 _ _ _ _ _ | exact mr_ | exact mn_ | refine mi_ ?_ ?_ | refine mb_ ?_ (fun _ => ?_))
theorem spec_l4After.mono : ∀ a0 a1 a2 k, LeO (spec_l4After.f k a0 a1 a2) (spec_l4After.f (k + 1) a0 a1 a2) := by
 intro a0 a1 a2 k; have ih0 := spec_l4After.mono_l k; unfold spec_l4After.f; repeat' (with_reducible first | exact ih0 _ _ _ _ _ | exact mr_ | exact mn_ | refine mi_ ?_ ?_ | refine mb_ ?_ (fun _ => ?_))
def spec_l4After.T5 : Bool × List (List Nat × List Nat) := (true, [([], []), ([], []), ([], []), ([1, 2], [1, 2]), ([3], [3]), ([], []), ([], []), ([5, 6], [5, 6]), ([7], [7]), ([], []), ([8, 9], [8, 9]), ([10], [10]), ([4, 11], [4, 11]), ([12], [12]), ([0, 13], [0, 13]), ([14, 14, 0, 1, 2, 3, 4, 5, 6, 7, 8, 9, 10, 11, 12, 13, 14], [0, 14])])
def spec_l4After.B5 : List Nat := [0, 0, 0, 6, 14, 0, 0, 96, 224, 0, 992, 2016, 4094, 8190, 16383, 32767]
theorem spec_l4After.tab5 : rtab .any (opsOf Tryd.f67 5) = spec_l4After.T5 := by kernel_rfl
theorem spec_l4After.bits5 : waitsOk spec_l4After.T5.2 spec_l4After.B5 = true := by kernel_rfl
theorem spec_l4After.calls (k : Nat) (A0 : Option Addr) (c0 : Nat) (l0 : List Int) (A1 : Option Addr) (c1 : Nat) (l1 : List (List Int)) (a2 : Int) (r : List Int) (w : World) (hr0 : Kd.C (Kd.int .i64) w A0 l0.length l0) (hc0 : l0.length ≤ c0) (hr1 : Kd.C (Kd.slice 3 (Kd.int .i64)) w A1 l1.length l1) (hc1 : l1.length ≤ c1) (h : spec_l4After.f k l0 l1 a2 = some r) :
  Calls Tryd.prog 67 #[.slice A0 l0.length c0, .slice A1 l1.length c1, .int .i64 a2] w fun e w' => ∃ v0_ : Value, e = .returned (v0_) ∧ Kd.R (Kd.int .i64) 3 w' w.heap.size (fun _ => True) v0_ r ∧ Below w.heap.size w w' := by
 have HR0 := A_ hr0; have HC0 := A_ hc0; clear hr0 hc0; have HR1 := A_ hr1; have HC1 := A_ hc1; clear hr1 hc1; have HB := A_ (Below.refl w.heap.size w); have H : (spec_l4After.l0 k l0 l1 a2 (([] : List Int)) 0) = some r := h; clear h; obtain ⟨aU, au⟩ : ∃ y_ : List Int, y_ = (([] : List Int)) := ⟨_, rfl⟩
 replace H : (spec_l4After.l0 k l0 l1 a2 aU 0) = some r := yq_ au H; have aG := A_ au; clear au; have H' := A_ H; clear H; go_enter Tryd.func67, Tryd.ntmps67; go_wp2_with (first | ((with_reducible refine gate_dst (N := 9) rfl ?_); refine Kd.R_lit (Kd.int .i64) _ 3 ?hg (N := 9) ?hd (xs := ([] : List Int)) (inner := []) (ok := fun _ => True) (okp := fun _ => True) ?hr ?hp (fun _ hk => hk) trivial (Below.refl _ _) (Nat.le_refl _) (by simp) ?_; (case hd => rfl); (case hg => rfl); (case hr => first | (go_simp; done) | (go_simp; rfl)); (case hp => exact (Reps.none _ _)); intro bs w4 ho5 hb hg_ hnew_; clear hg_ hnew_; (first | rw [← aG.out] at ho5 | (simp only [Int.reduceToNat] at ho5; rw [← aG.out] at ho5)); have aV := rx_ ho5 HB; replace HB := bs_ HB hb; clear hb ho5))
 go_loopg [7, 8] k (fun kq v7 v8 w' => ∃ (aq : List Int) (ac : Int), v8 = .int .i64 ac ∧ Aside0 (spec_l4After.l0 kq l0 l1 a2 aq ac = some r) ∧ Aside0 (kq ≤ k) ∧ Aside0 (Kd.R (Kd.int .i64) 3 w' w.heap.size (fun _ => True) v7 aq) ∧ Aside0 (Below w.heap.size w w'))
 case atStart => exact ⟨(aU), (0), tx_, H', ⟨Nat.le_refl _⟩, ⟨rR_ aV.out⟩, ⟨(tb_ HB.out)⟩⟩
 case round =>
  clear H'; obtain ⟨aq, ac, rfl, HA, HK1, ar, HB⟩ := hrel
  cases gk with
  | zero => exact absurd HA.out (by simp [spec_l4After.l0])
  | succ k1 =>
   have H := HA.out; clear HA; simp only [spec_l4After.l0] at H; replace H := it_ H; rcases H with ⟨aN, H⟩ | ⟨aN, H⟩
   ·
    replace H := in_ H; obtain ⟨bu, H⟩ := H; replace H := in_ H; obtain ⟨bv, H⟩ := H; replace H := in_ H; obtain ⟨bw, H⟩ := H; replace H := in_ H; obtain ⟨bn, H⟩ := H; replace H := il_ H; obtain ⟨aW, H⟩ := H; obtain ⟨aX, av⟩ : ∃ y_ : List Int, y_ = (aq ++ [wrap64 ((rd l0 ac) + (rd (rd_L1 l1 a2) ac))]) := ⟨_, rfl⟩
    replace H : (spec_l4After.l0 k1 l0 l1 a2 aX (wrap64 (ac + 1))) = some r := yq_ av H; have aY := A_ av; clear av; have H' := A_ H; clear H; (try go_wp2); replace ar := rd_ ar; replace HB := A_ (ld_ HB.out); have p191 : 0 ≤ (ac : Int) := od_; have q191 : ac < (l0.length : Int) := od_; obtain ⟨ad191, e191, ae⟩ := Kd.at_int HR0.out ac p191 q191; have hw191_0 := ae; cases e191; replace ae := (HB.out.cell (World.block_lt_of_cell? w _ ae)).trans ae; replace p191 := eq_true p191; replace q191 := eq_true q191; have p192 : 0 ≤ (a2 : Int) := od_; have q192 : a2 < (l1.length : Int) := od_; obtain ⟨ad192, bg, aQ, e192, af, hl192_0, hi192_0⟩ := at_L1 HR1.out a2 p192 q192; have hw192_0 := af; cases e192; replace af := (HB.out.cell (World.block_lt_of_cell? w _ af)).trans af; have ao := A_ hi192_0; have bd := A_ hl192_0; clear hi192_0 hl192_0; replace p192 := eq_true p192; replace q192 := eq_true q192; have p193 : 0 ≤ (ac : Int) := od_; have q193 : ac < ((rd_L1 l1 a2).length : Int) := od_; obtain ⟨ad193, e193, ag⟩ := Kd.at_int ao.out ac p193 q193; have hw193_0 := ag; cases e193; replace ag := (HB.out.cell (World.block_lt_of_cell? w _ ag)).trans ag; replace p193 := eq_true p193; replace q193 := eq_true q193; refine sv_ (S := fun w' => w'.cell? (ad191.add (ac).toNat) = some (.int .i64 (rd l0 ac)) ∧ w'.cell? (ad192.add (a2).toNat) = some (.slice (some ad193) (rd_L1 l1 a2).length aQ) ∧ w'.cell? (ad193.add (ac).toNat) = some (.int .i64 (rd (rd_L1 l1 a2) ac))) (ds := []) ⟨((HB.out.cell (World.block_lt_of_cell? w _ hw191_0)).trans hw191_0), ((HB.out.cell (World.block_lt_of_cell? w _ hw192_0)).trans hw192_0), ((HB.out.cell (World.block_lt_of_cell? w _ hw193_0)).trans hw193_0)⟩ (fun hHeld => ?_); refine with_tabW spec_l4After.tab5 spec_l4After.bits5 (fun HT_ HW_ => ?_); generalize wr.drew = bI at ar HB ao ae af ag hHeld ⊢; refine pv_ 0 ?_; refine pv_ 1 ?_; refine pv_ 2 ?_; refine pv_ 3 ?_; refine pv_ 5 ?_; refine pv_ 6 ?_; refine pv_ 7 ?_; refine pv_ 9 ?_; refine tv_ 4 ?_; refine tv_ 8 ?_; refine pv_ 10 ?_; refine tv_ 11 ?_; refine pv_ 12 ?_; refine ov_ 13 (fun K hK => ?_); refine va_ rfl ?_; refine hK.out _ _ ⟨(World.cell?_alloc_lt _ _ _ (World.block_lt_of_cell? _ _ (((HB.out.cell (World.block_lt_of_cell? w _ hw191_0)).trans hw191_0)))).trans (((HB.out.cell (World.block_lt_of_cell? w _ hw191_0)).trans hw191_0)), (World.cell?_alloc_lt _ _ _ (World.block_lt_of_cell? _ _ (((HB.out.cell (World.block_lt_of_cell? w _ hw192_0)).trans hw192_0)))).trans (((HB.out.cell (World.block_lt_of_cell? w _ hw192_0)).trans hw192_0)), (World.cell?_alloc_lt _ _ _ (World.block_lt_of_cell? _ _ (((HB.out.cell (World.block_lt_of_cell? w _ hw193_0)).trans hw193_0)))).trans (((HB.out.cell (World.block_lt_of_cell? w _ hw193_0)).trans hw193_0))⟩ (fun hHeld => ?_); clear hK K; refine nr_ 29 ?_; refine ov_ 14 (fun K hK => ?_); refine Kd.R_append_step (Kd.int .i64) (w0 := w) w.heap.size (by rfl) (.tmp 16) (.tmp 29) 23 3 (.int .i64 0) 8 rfl Tryd.underlying23 info3 rfl (by decide) (by omega) u7 aq (wrap64 ((rd l0 ac) + (rd (rd_L1 l1 a2) ac))) [.int .i64 (wrap64 ((rd l0 ac) + (rd (rd_L1 l1 a2) ac)))] (fun _ => True) (fun _ => False) rfl rfl ?aP (fun _ hk => hk.elim) ?aF ?aO ?aB ?aS ?aL ?_; (case aP => exact rfl); (case aB => exact (tb_ HB.out)); (case aF => exact (fun _ _ => trivial)); (case aO => exact (rR_ ar.out)); (case aS => exact (below_size (tb_ HB.out))); (case aL => have := aW.out; omega); intro bx bJ ho hb hg hat; rw [← aY.out] at ho; replace HB := A_ (hb); have aZ := A_ (ho); clear ar ho hb hg hat; refine hK.out _ _ ⟨((HB.out.cell (World.block_lt_of_cell? w _ hw191_0)).trans hw191_0), ((HB.out.cell (World.block_lt_of_cell? w _ hw192_0)).trans hw192_0), ((HB.out.cell (World.block_lt_of_cell? w _ hw193_0)).trans hw193_0)⟩ (fun hHeld => ?_); clear hK K; refine nr_ 30 ?_; refine pv_ 15 ?_; refine done_ (done_of HT_.out (by kernel_rfl)) ?_; try go_wp2
    go_roundg k1
    case measure => have := HK1.out; omega
    case rel => exact ⟨(aX), (wrap64 (ac + 1)), tx_, H', ⟨by have := HK1.out; omega⟩, ⟨rR_ aZ.out⟩, ⟨(tb_ HB.out)⟩⟩
   ·
    obtain rfl := Option.some.inj H; go_wp2; go_ret; exact ⟨_, tw_, by refine qR_ ?_; exact ar.out, (tb_ HB.out)⟩

/-! ### spec_AfterWord: function 54 -/
mutual
def spec_AfterWord.j0 : Nat → List Int → List (List Int) → List Int → Bool → Option (List Int × Bool)
 | 0, _, _, _, _ => none
 | k + 1, x0, x1, x2, x26 => if x26 = true then (some ((([] : List Int)), false)) else ((some (([] : List Int) : List Int)).bind fun aj => (if aj.length + x0.length < 17592186044416 then (spec_AfterWord.l0 k x1 x2 (aj ++ x0) 0) else (none)))
def spec_AfterWord.l0 : Nat → List (List Int) → List Int → List Int → Int → Option (List Int × Bool)
 | 0, _, _, _, _ => none
 | k + 1, x1, x2, x8, x9 => if x9 < (x2.length : Int) then (if 0 ≤ x9 then (if 0 ≤ (rd x2 x9) then (if (rd x2 x9) < (x8.length : Int) then (if (rd x8 (rd x2 x9)) < 1 then (some ((([] : List Int)), false)) else ((spec_l4After.f k x8 x1 (rd x2 x9)).bind fun aD => (spec_AfterWord.l0 k x1 x2 aD (wrap64 (x9 + 1))))) else (none)) else (none)) else (none)) else (some (x8, true))
end
def spec_AfterWord.f (k : Nat) (l0 : List Int) (l1 : List (List Int)) (l2 : List Int) : Option (List Int × Bool) := (spec_StartOk.f k l0).bind fun aw => (if aw = true then ((spec_RuleOk.f k (l0.length : Int) l1).bind fun am => (if am = true then ((spec_WordOk.f k (l0.length : Int) l2).bind fun ak => (spec_AfterWord.j0 k l0 l1 l2 (!ak))) else (spec_AfterWord.j0 k l0 l1 l2 true))) else (spec_AfterWord.j0 k l0 l1 l2 true))
theorem spec_AfterWord.mono_l : ∀ k, (∀ y0 y1 y2 y3, LeO (spec_AfterWord.j0 k y0 y1 y2 y3) (spec_AfterWord.j0 (k + 1) y0 y1 y2 y3)) ∧ (∀ y0 y1 y2 y3, LeO (spec_AfterWord.l0 k y0 y1 y2 y3) (spec_AfterWord.l0 (k + 1) y0 y1 y2 y3))
 | 0 => ⟨fun _ _ _ _ r h => by simp [spec_AfterWord.j0] at h, fun _ _ _ _ r h => by simp [spec_AfterWord.l0] at h⟩
 | k + 1 => by
  obtain ⟨ih0, ih1⟩ := spec_AfterWord.mono_l k
  refine ⟨?_, ?_⟩
  ·
   intro y0 y1 y2 y3
   unfold spec_AfterWord.j0
   repeat' (with_reducible first | exact ih0 _ _ _ _ | exact ih1 _ _ _ _ | exact spec_RuleOk.mono _ _ _ | exact spec_StartOk.mono _ _ | exact spec_WordOk.mono _ _ _ | exact spec_l4After.mono _ _ _ _ | exact mr_ | exact mn_ | refine mi_ ?_ ?_ | refine mb_ ?_ (fun _ => ?_))
  ·
   intro y0 y1 y2 y3
   unfold spec_AfterWord.l0
   repeat' (with_reducible first | exact ih0 _ _ _ _ | exact ih1 _ _ _ _ | exact spec_RuleOk.mono _ _ _ | exact spec_StartOk.mono _ _ | exact spec_WordOk.mono _ _ _ | exact spec_l4After.mono _ _ _ _ | exact mr_ | exact mn_ | refine mi_ ?_ ?_ | refine mb_ ?_ (fun _ => ?_))
theorem spec_AfterWord.mono : ∀ a0 a1 a2 k, LeO (spec_AfterWord.f k a0 a1 a2) (spec_AfterWord.f (k + 1) a0 a1 a2) := by
 intro a0 a1 a2 k; obtain ⟨ih0, ih1⟩ := spec_AfterWord.mono_l k; unfold spec_AfterWord.f; repeat' (with_reducible first | exact ih0 _ _ _ _ | exact ih1 _ _ _ _ | exact spec_RuleOk.mono _ _ _ | exact spec_StartOk.mono _ _ | exact spec_WordOk.mono _ _ _ | exact spec_l4After.mono _ _ _ _ | exact mr_ | exact mn_ | refine mi_ ?_ ?_ | refine mb_ ?_ (fun _ => ?_))
theorem spec_AfterWord.calls (k : Nat) (A0 : Option Addr) (c0 : Nat) (l0 : List Int) (A1 : Option Addr) (c1 : Nat) (l1 : List (List Int)) (A2 : Option Addr) (c2 : Nat) (l2 : List Int) (r1 : List Int) (r2 : Bool) (w : World) (hr0 : Kd.C (Kd.int .i64) w A0 l0.length l0) (hc0 : l0.length ≤ c0) (hr1 : Kd.C (Kd.slice 3 (Kd.int .i64)) w A1 l1.length l1) (hc1 : l1.length ≤ c1) (hr2 : Kd.C (Kd.int .i64) w A2 l2.length l2) (hc2 : l2.length ≤ c2) (h : spec_AfterWord.f k l0 l1 l2 = some (r1, r2)) :
  Calls Tryd.prog 54 #[.slice A0 l0.length c0, .slice A1 l1.length c1, .slice A2 l2.length c2] w fun e w' => ∃ v0_ : Value, e = .returned (.tuple #[v0_, .bool r2]) ∧ Kd.R (Kd.int .i64) 3 w' w.heap.size (fun _ => True) v0_ r1 ∧ Below w.heap.size w w' := by
 have HR0 := A_ hr0; have HC0 := A_ hc0; clear hr0 hc0; have HR1 := A_ hr1; have HC1 := A_ hc1; clear hr1 hc1; have HR2 := A_ hr2; have HC2 := A_ hc2; clear hr2 hc2; have HB := A_ (Below.refl w.heap.size w); have H : ((spec_StartOk.f k l0).bind fun aw => (if aw = true then ((spec_RuleOk.f k (l0.length : Int) l1).bind fun am => (if am = true then ((spec_WordOk.f k (l0.length : Int) l2).bind fun ak => (spec_AfterWord.j0 k l0 l1 l2 (!ak))) else (spec_AfterWord.j0 k l0 l1 l2 true))) else (spec_AfterWord.j0 k l0 l1 l2 true))) = some (r1, r2) := h; clear h; have HC4 := A_ H; clear H; go_enter Tryd.func54, Tryd.ntmps54
 go_upto_region 1 with (fail)
 go_cut [26] (fun bz wc => ∃ (kq : Nat) (ap : Bool), bz = .bool ap ∧ Aside0 (spec_AfterWord.j0 kq l0 l1 l2 ap = some (r1, r2)) ∧ Aside0 (kq ≤ k) ∧ Aside0 (Below w.heap.size w wc))
 case first =>
  have H := HC4.out; clear HC4; obtain ⟨aw, A5, H⟩ := bnd_ H; (try dsimp only at H); by_cases c6 : aw = true
  ·
   subst c6; replace H : ((spec_RuleOk.f k (l0.length : Int) l1).bind fun am => (if am = true then ((spec_WordOk.f k (l0.length : Int) l2).bind fun ak => (spec_AfterWord.j0 k l0 l1 l2 (!ak))) else (spec_AfterWord.j0 k l0 l1 l2 true))) = some (r1, r2) := by rw [if_pos rfl] at H; exact H
   obtain ⟨am, A7, H⟩ := bnd_ H; (try dsimp only at H); by_cases c8 : am = true
   ·
    subst c8; replace H : ((spec_WordOk.f k (l0.length : Int) l2).bind fun ak => (spec_AfterWord.j0 k l0 l1 l2 (!ak))) = some (r1, r2) := by rw [if_pos rfl] at H; exact H
    obtain ⟨ak, A9, H⟩ := bnd_ H; (try dsimp only at H); have H' := A_ H; clear H; go_wp2_with (first | ((with_reducible refine gate_callee (f := 52) rfl ?_); refine gl_ (some 11) Tryd.func52 #[.slice A0 l0.length c0] ?_; (with_reducible refine (spec_StartOk.calls k _ _ l0 true _ ?s1 ?s2 A5.out).mono ?_); (case s1 => exact tD_); (case s2 => exact HC0.out); rintro e w' ⟨rfl, ⟨nd, rfl⟩⟩; refine ⟨_, rfl, ?_⟩) | (go_at_call 65; (with_reducible refine (spec_RuleOk.calls k (l0.length : Int) _ _ l1 true _ ?s1 ?s2 A7.out).mono ?_); (case s1 => repeat (first | exact (Kd.C_below HR1.out (tb_ HB.out)) | (with_reducible refine Kd.C_alloc ?_ _) | (with_reducible refine Kd.C_drewN ?_ _) | (with_reducible refine Kd.C_drew ?_))); (case s2 => exact HC1.out); rintro e w' ⟨rfl, ⟨nd, rfl⟩⟩) | (go_at_call 66; (with_reducible refine (spec_WordOk.calls k (l0.length : Int) _ _ l2 ak _ ?s1 ?s2 A9.out).mono ?_); (case s1 => repeat (first | exact (Kd.C_below HR2.out (tb_ HB.out)) | (with_reducible refine Kd.C_alloc ?_ _) | (with_reducible refine Kd.C_drewN ?_ _) | (with_reducible refine Kd.C_drew ?_))); (case s2 => exact HC2.out); rintro e w' ⟨rfl, ⟨nd, rfl⟩⟩)); go_meet
    case rel => exact ⟨_, (!ak), tx_, H', ⟨by first | omega | exact Nat.le_refl _⟩, ⟨(tb_ HB.out)⟩⟩
   ·
    replace c8 := Bool.eq_false_iff.mpr c8; subst c8; replace H : (spec_AfterWord.j0 k l0 l1 l2 true) = some (r1, r2) := by rw [if_neg (show ¬ (false = true) by decide)] at H; exact H
    have H' := A_ H; clear H; go_wp2_with (first | ((with_reducible refine gate_callee (f := 52) rfl ?_); refine gl_ (some 11) Tryd.func52 #[.slice A0 l0.length c0] ?_; (with_reducible refine (spec_StartOk.calls k _ _ l0 true _ ?s1 ?s2 A5.out).mono ?_); (case s1 => exact tD_); (case s2 => exact HC0.out); rintro e w' ⟨rfl, ⟨nd, rfl⟩⟩; refine ⟨_, rfl, ?_⟩) | (go_at_call 65; (with_reducible refine (spec_RuleOk.calls k (l0.length : Int) _ _ l1 false _ ?s1 ?s2 A7.out).mono ?_); (case s1 => repeat (first | exact (Kd.C_below HR1.out (tb_ HB.out)) | (with_reducible refine Kd.C_alloc ?_ _) | (with_reducible refine Kd.C_drewN ?_ _) | (with_reducible refine Kd.C_drew ?_))); (case s2 => exact HC1.out); rintro e w' ⟨rfl, ⟨nd, rfl⟩⟩)); go_meet
    case rel => exact ⟨_, (true), tx_, H', ⟨by first | omega | exact Nat.le_refl _⟩, ⟨(tb_ HB.out)⟩⟩
  ·
   replace c6 := Bool.eq_false_iff.mpr c6; subst c6; replace H : (spec_AfterWord.j0 k l0 l1 l2 true) = some (r1, r2) := by rw [if_neg (show ¬ (false = true) by decide)] at H; exact H
   have H' := A_ H; clear H; go_wp2_with (first | ((with_reducible refine gate_callee (f := 52) rfl ?_); refine gl_ (some 11) Tryd.func52 #[.slice A0 l0.length c0] ?_; (with_reducible refine (spec_StartOk.calls k _ _ l0 false _ ?s1 ?s2 A5.out).mono ?_); (case s1 => exact tD_); (case s2 => exact HC0.out); rintro e w' ⟨rfl, ⟨nd, rfl⟩⟩; refine ⟨_, rfl, ?_⟩)); go_meet
   case rel => exact ⟨_, (true), tx_, H', ⟨by first | omega | exact Nat.le_refl _⟩, ⟨(tb_ HB.out)⟩⟩
 case rest =>
  clear HC4; obtain ⟨kq, ap, rfl, HA, HJ3, HB⟩ := hcut
  cases kq with
  | zero => exact absurd HA.out (by simp [spec_AfterWord.j0])
  | succ kj3 =>
   have H := HA.out; clear HA; simp only [spec_AfterWord.j0] at H; by_cases c10 : ap = true
   ·
    subst c10; replace H : (some ((([] : List Int)), false)) = some (r1, r2) := by rw [if_pos rfl] at H; exact H
    obtain ⟨bh, ax⟩ : ∃ y_ : List Int, y_ = (([] : List Int)) := ⟨_, rfl⟩
    replace H : (some (bh, false)) = some (r1, r2) := yq_ ax H; have aH := A_ ax; clear ax; simp only [Option.some.injEq, Prod.mk.injEq] at H; obtain ⟨rfl, rfl⟩ := H; go_wp2_with (first | ((with_reducible refine gate_dst (N := 27) rfl ?_); (try (refine gate_guard (by rfl) ?_; dsimp only)); refine Kd.R_lit (Kd.int .i64) _ 3 ?hg (N := 27) ?hd (xs := ([] : List Int)) (inner := []) (ok := fun _ => True) (okp := fun _ => True) ?hr ?hp (fun _ hk => hk) trivial (Below.refl _ _) (Nat.le_refl _) (by simp) ?_; (case hd => rfl); (case hg => rfl); (case hr => first | (go_simp; done) | (go_simp; rfl)); (case hp => exact (Reps.none _ _)); intro bB bK ho12 hb hg_ hnew_; clear hg_ hnew_; (first | rw [← aH.out] at ho12 | (simp only [Int.reduceToNat] at ho12; rw [← aH.out] at ho12)); have a3 := rx_ ho12 HB; replace HB := bs_ HB hb; clear hb ho12)); go_ret2; exact ⟨_, tw_, by refine qR_ ?_; exact a3.out, (tb_ HB.out)⟩
   ·
    replace c10 := Bool.eq_false_iff.mpr c10; subst c10; replace H : ((some (([] : List Int) : List Int)).bind fun aj => (if aj.length + l0.length < 17592186044416 then (spec_AfterWord.l0 kj3 l1 l2 (aj ++ l0) 0) else (none))) = some (r1, r2) := by rw [if_neg (show ¬ (false = true) by decide)] at H; exact H
    obtain ⟨aj, ay⟩ : ∃ y_ : List Int, y_ = (([] : List Int)) := ⟨_, rfl⟩
    replace H : (if aj.length + l0.length < 17592186044416 then (spec_AfterWord.l0 kj3 l1 l2 (aj ++ l0) 0) else (none)) = some (r1, r2) := yq_ ay H; have aI := A_ ay; clear ay; replace H := il_ H; obtain ⟨a4, H⟩ := H; obtain ⟨a5, az⟩ : ∃ y_ : List Int, y_ = (aj ++ l0) := ⟨_, rfl⟩
    replace H : (spec_AfterWord.l0 kj3 l1 l2 a5 0) = some (r1, r2) := yq_ az H; have a6 := A_ az; clear az; have H' := A_ H; clear H; go_wp2_with (first | ((with_reducible refine gate_dst (N := 28) rfl ?_); (try (refine gate_guard (by rfl) ?_; dsimp only)); refine Kd.R_lit (Kd.int .i64) _ 3 ?hg (N := 28) ?hd (xs := ([] : List Int)) (inner := []) (ok := fun _ => True) (okp := fun _ => True) ?hr ?hp (fun _ hk => hk) trivial (Below.refl _ _) (Nat.le_refl _) (by simp) ?_; (case hd => rfl); (case hg => rfl); (case hr => first | (go_simp; done) | (go_simp; rfl)); (case hp => exact (Reps.none _ _)); intro bi bL ho15 hb hg_ hnew_; clear hg_ hnew_; (first | rw [← aI.out] at ho15 | (simp only [Int.reduceToNat] at ho15; rw [← aI.out] at ho15)); have aJ := rx_ ho15 HB; replace HB := bs_ HB hb; clear hb ho15) | ((with_reducible refine gate_builtin (b := .append) (xs := #[.tmp 28, .tmp 29]) rfl ?_); (try (refine gate_guard (by rfl) ?_; dsimp only)); at_builtin; refine Kd.R_append_rows (Kd.int .i64) (w0 := w) w.heap.size rfl (.tmp 28) (.tmp 29) 23 3 (.int .i64 0) 8 rfl Tryd.underlying23 info3 rfl (by decide) (by omega) bi aj l0 _ _ _ (fun _ => True) (fun _ => False) rfl rfl ?aO ?aR (fun _ _ h => h) (fun _ h => h.elim) ?aF ?aB ?aS ?aL ?_; (case aR => repeat (first | exact (Kd.C_below HR0.out HB.out) | (with_reducible refine Kd.C_alloc ?_ _) | (with_reducible refine Kd.C_drewN ?_ _) | (with_reducible refine Kd.C_drew ?_))); (case aB => exact (tb_ HB.out)); (case aF => exact (fun _ _ => trivial)); (case aO => exact (rR_ aJ.out)); (case aS => exact (below_size (tb_ HB.out))); (case aL => have := a4.out; omega); intro bC bM ho hb hg hat; rw [← a6.out] at ho; replace HB := A_ (hb); have a7 := A_ (ho); clear aJ ho hb hg hat))
    go_loopg [8, 9] kj3 (fun kq v8 v9 w' => ∃ (ai : List Int) (aa : Int), v9 = .int .i64 aa ∧ Aside0 (spec_AfterWord.l0 kq l1 l2 ai aa = some (r1, r2)) ∧ Aside0 (kq ≤ kj3) ∧ Aside0 (Kd.R (Kd.int .i64) 3 w' w.heap.size (fun _ => True) v8 ai) ∧ Aside0 (Below w.heap.size w w'))
    case atStart => exact ⟨(a5), (0), tx_, H', ⟨Nat.le_refl _⟩, ⟨rR_ a7.out⟩, ⟨(tb_ HB.out)⟩⟩
    case round =>
     clear H'; (try clear c10); (try clear c13); obtain ⟨ai, aa, rfl, HA, HK2, ah, HB⟩ := hrel
     cases gk with
     | zero => exact absurd HA.out (by simp [spec_AfterWord.l0])
     | succ k2 =>
      have H := HA.out; clear HA; simp only [spec_AfterWord.l0] at H; replace H := it_ H; rcases H with ⟨a8, H⟩ | ⟨a8, H⟩
      ·
       replace H := in_ H; obtain ⟨bo, H⟩ := H; replace H := in_ H; obtain ⟨bp, H⟩ := H; replace H := in_ H; obtain ⟨bq, H⟩ := H; replace H := it_ H; rcases H with ⟨a9, H⟩ | ⟨a9, H⟩
       ·
        obtain ⟨bj, aA⟩ : ∃ y_ : List Int, y_ = (([] : List Int)) := ⟨_, rfl⟩
        replace H : (some (bj, false)) = some (r1, r2) := yq_ aA H; have aK := A_ aA; clear aA; simp only [Option.some.injEq, Prod.mk.injEq] at H; obtain ⟨rfl, rfl⟩ := H; obtain ⟨p209, q209, ad209, e209, ad⟩ := a2_ (Kd.at_int HR2.out aa); cases e209; replace ad := (HB.out.cell (World.block_lt_of_cell? w _ ad)).trans ad; obtain ⟨bD, bE, bk⟩ := Kd.R_slice ah.out; subst bk; obtain ⟨p210, q210, ad210, e210, aE⟩ := a2_ (Kd.at_int (Kd.R_reads' ah.out).2.2 (rd l2 aa)); cases e210; go_wp2_with (first | ((with_reducible refine gate_dst (N := 45) rfl ?_); (try (refine gate_guard (by rfl) ?_; dsimp only)); refine Kd.R_lit (Kd.int .i64) _ 3 ?hg (N := 45) ?hd (xs := ([] : List Int)) (inner := []) (ok := fun _ => True) (okp := fun _ => True) ?hr ?hp (fun _ hk => hk) trivial (Below.refl _ _) (Nat.le_refl _) (by simp) ?_; (case hd => rfl); (case hg => rfl); (case hr => first | (go_simp; done) | (go_simp; rfl)); (case hp => exact (Reps.none _ _)); intro bF bN ho24 hb hg_ hnew_; clear hg_ hnew_; (first | rw [← aK.out] at ho24 | (simp only [Int.reduceToNat] at ho24; rw [← aK.out] at ho24)); have bb := rx_ (nR_ ho24 (Kd.R_lt (rR_ ah.out))) HB; replace ah := A_ (Kd.R_elder' (rR_ ah.out) (Kd.R_base ho24) hb); replace HB := bs_ HB hb; clear hb ho24)); go_ret2; exact ⟨_, tw_, by refine qR_ ?_; exact Kd.R_mono bb.out (fun _ hk => trivial), (tb_ HB.out)⟩
       ·
        obtain ⟨aD, A25, H⟩ := bnd_ H; (try dsimp only at H); have H' := A_ H; clear H; obtain ⟨p209, q209, ad209, e209, ad⟩ := a2_ (Kd.at_int HR2.out aa); cases e209; replace ad := (HB.out.cell (World.block_lt_of_cell? w _ ad)).trans ad; obtain ⟨bG, bl, bm⟩ := Kd.R_slice ah.out; subst bm; obtain ⟨p210, q210, ad210, e210, aE⟩ := a2_ (Kd.at_int (Kd.R_reads' ah.out).2.2 (rd l2 aa)); cases e210; have p214 : 0 ≤ (aa : Int) := od_; have q214 : aa < (l2.length : Int) := od_; obtain ⟨ad214, e214, al⟩ := Kd.at_int HR2.out aa p214 q214; obtain rfl : ad209 = ad214 := (by injection e214)
        replace al := (HB.out.cell (World.block_lt_of_cell? w _ al)).trans al; replace p214 := eq_true p214; replace q214 := eq_true q214; go_wp2_with (first | ((with_reducible refine gate_callee (f := 67) rfl ?_); refine gl_ (some 52) Tryd.func67 #[.slice (some ad210) ai.length bl, .slice A1 l1.length c1, .int .i64 (rd l2 aa)] ?_; (with_reducible refine (spec_l4After.calls k2 _ _ ai _ _ l1 (rd l2 aa) aD _ ?s1 ?s2 ?s3 ?s4 A25.out).mono ?_); (case s1 => exact rc_ ah); (case s2 => exact (ll_ ah)); (case s3 => exact tD_); (case s4 => exact HC1.out); rintro e bO ⟨bH, rfl, ho0, hb⟩; refine ⟨_, rfl, ?_⟩; have bc := rx_ (nR_ ho0 (Kd.R_lt (rR_ ah.out))) HB; replace ah := A_ (Kd.R_elder' (rR_ ah.out) (Kd.R_base ho0) hb); replace HB := bs_ HB hb; (try clear hb ho0)))
        go_roundg k2
        case measure => have := HJ3.out; have := HK2.out; omega
        case rel => exact ⟨(aD), (wrap64 (aa + 1)), tx_, H', ⟨by have := HJ3.out; have := HK2.out; omega⟩, ⟨by refine qR_ ?_; exact Kd.R_mono bc.out (fun _ hk => trivial)⟩, ⟨(tb_ HB.out)⟩⟩
      ·
       simp only [Option.some.injEq, Prod.mk.injEq] at H; obtain ⟨rfl, rfl⟩ := H; go_wp2; go_ret2; exact ⟨_, tw_, by refine qR_ ?_; exact ah.out, (tb_ HB.out)⟩
end Go.Proofs.YtfacponjomafcaaDoor.MFnDeskRun
