/- For the law FnDeskOk: walks of the functions that it reaches: each call returns what the plain function beside it tells. The conditions stand in each statement. -/
import Derived.Test.YtncgleffkbegjaaV
import Derived.Test.YtncgleffkbegjaaMFnDeskOkx0
import Derived.Test.YtncgleffkbegjaaMFnDeskOkx2
namespace Go.Proofs.Ytncgleffkbegjaa.MFnDeskOk
open Go.RowKit Go.Proofs.YtncgleffkbegjaaW.PrintWords Go.Proofs.YtncgleffkbegjaaW.PrintLast Go.Proofs.YtncgleffkbegjaaW.PrintMore
attribute [local go_sem] max2_int min2_int max_two min_two max_three min_three max_four min_four   -- for this text's walks alone
set_option linter.unusedVariables false
set_option linter.unusedSimpArgs false

/-! ### spec_l4After: function 52 -/
def spec_l4After.l0 : Nat → List Int → List (List Int) → Int → List Int → Int → Option (List Int)
 | 0, _, _, _, _, _ => none
 | k + 1, x0, x1, x2, x7, x8 => if x8 < (x0.length : Int) then (if 0 ≤ x8 then (if 0 ≤ x2 then (if x2 < (x1.length : Int) then (if x8 < ((rd_L1 x1 x2).length : Int) then (if x7.length < 17592186044416 then (spec_l4After.l0 k x0 x1 x2 (x7 ++ [wrap64 ((rd x0 x8) + (rd (rd_L1 x1 x2) x8))]) (wrap64 (x8 + 1))) else (none)) else (none)) else (none)) else (none)) else (none)) else (some x7)
def spec_l4After.f (k : Nat) (l0 : List Int) (l1 : List (List Int)) (a2 : Int) : Option (List Int) := spec_l4After.l0 k l0 l1 a2 (([] : List Int)) 0
theorem spec_l4After.mono_l : ∀ k, (∀ y0 y1 y2 y3 y4, LeO (spec_l4After.l0 k y0 y1 y2 y3 y4) (spec_l4After.l0 (k + 1) y0 y1 y2 y3 y4))
 | 0 => fun _ _ _ _ _ r h => by simp [spec_l4After.l0] at h
 | k + 1 => by
  have ih0 := spec_l4After.mono_l k
  ·
   intro y0 y1 y2 y3 y4
   unfold spec_l4After.l0
   repeat' (with_reducible first | exact ih0 _ _ _ _ _ | exact mr_ | exact mn_ | refine mi_ ?_ ?_ | refine mb_ ?_ (fun _ => ?_))
theorem spec_l4After.mono : ∀ a0 a1 a2 k, LeO (spec_l4After.f k a0 a1 a2) (spec_l4After.f (k + 1) a0 a1 a2) := by
 intro a0 a1 a2 k; have ih0 := spec_l4After.mono_l k; unfold spec_l4After.f; repeat' (with_reducible first | exact ih0 _ _ _ _ _ | exact mr_ | exact mn_ | refine mi_ ?_ ?_ | refine mb_ ?_ (fun _ => ?_))
def spec_l4After.T5 : Bool × List (List Nat × List Nat) := (true, [([], []), ([], []), ([], []), ([1, 2], [1, 2]), ([3], [3]), ([], []), ([], []), ([5, 6], [5, 6]), ([7], [7]), ([], []), ([8, 9], [8, 9]), ([10], [10]), ([4, 11], [4, 11]), ([12], [12]), ([0, 13], [0, 13]), ([14, 14, 0, 1, 2, 3, 4, 5, 6, 7, 8, 9, 10, 11, 12, 13, 14], [0, 14])])
def spec_l4After.B5 : List Nat := [0, 0, 0, 6, 14, 0, 0, 96, 224, 0, 992, 2016, 4094, 8190, 16383, 32767]
theorem spec_l4After.tab5 : rtab .any (opsOf Try.f52 5) = spec_l4After.T5 := by kernel_rfl
theorem spec_l4After.bits5 : waitsOk spec_l4After.T5.2 spec_l4After.B5 = true := by kernel_rfl
set_option maxHeartbeats 8000000 in
set_option maxRecDepth 100000 in
theorem spec_l4After.calls (k : Nat) (A0 : Option Addr) (c0 : Nat) (l0 : List Int) (A1 : Option Addr) (c1 : Nat) (l1 : List (List Int)) (a2 : Int) (r : List Int) (w : World) (hr0 : Kd.C (Kd.int .i64) w A0 l0.length l0) (hc0 : l0.length ≤ c0) (hr1 : Kd.C (Kd.slice 3 (Kd.int .i64)) w A1 l1.length l1) (hc1 : l1.length ≤ c1) (h : spec_l4After.f k l0 l1 a2 = some r) :
  Calls Try.prog 52 #[.slice A0 l0.length c0, .slice A1 l1.length c1, .int .i64 a2] w fun e w' => ∃ v0_ : Value, e = .returned (v0_) ∧ Kd.R (Kd.int .i64) 3 w' w.heap.size (fun _ => True) v0_ r ∧ Below w.heap.size w w' := by
 have HR0 := A_ hr0; have HC0 := A_ hc0; clear hr0 hc0; have HR1 := A_ hr1; have HC1 := A_ hc1; clear hr1 hc1; have HB := A_ (Below.refl w.heap.size w); have H : (spec_l4After.l0 k l0 l1 a2 (([] : List Int)) 0) = some r := h; clear h; obtain ⟨a7, ax⟩ : ∃ y_ : List Int, y_ = (([] : List Int)) := ⟨_, rfl⟩
 replace H : (spec_l4After.l0 k l0 l1 a2 a7 0) = some r := yq_ ax H; have aV := A_ ax; clear ax; have H' := A_ H; clear H; go_enter Try.func52, Try.ntmps52; go_wp2_with (first | ((with_reducible refine gate_dst (N := 9) rfl ?_); refine Kd.R_lit (Kd.int .i64) _ 3 ?hg (N := 9) ?hd (xs := ([] : List Int)) (inner := []) (ok := fun _ => True) (okp := fun _ => True) ?hr ?hp (fun _ hk => hk) trivial (Below.refl _ _) (Nat.le_refl _) (by simp) ?_; (case hd => rfl); (case hg => rfl); (case hr => first | (go_simp; done) | (go_simp; rfl)); (case hp => exact (Reps.none _ _)); intro bW w4 ho5 hb hg_ hnew_; clear hg_ hnew_; (first | rw [← aV.out] at ho5 | (simp only [Int.reduceToNat] at ho5; rw [← aV.out] at ho5)); have a8 := rx_ ho5 HB; replace HB := bs_ HB hb; clear hb ho5))
 go_loopg [7, 8] k (fun kq v7 v8 w' => ∃ (av : List Int) (ac : Int), v8 = .int .i64 ac ∧ Aside0 (spec_l4After.l0 kq l0 l1 a2 av ac = some r) ∧ Aside0 (kq ≤ k) ∧ Aside0 (Kd.R (Kd.int .i64) 3 w' w.heap.size (fun _ => True) v7 av) ∧ Aside0 (Below w.heap.size w w'))
 case atStart => exact ⟨(a7), (0), tx_, H', ⟨Nat.le_refl _⟩, ⟨rR_ a8.out⟩, ⟨(tb_ HB.out)⟩⟩
 case round =>
  clear H'; (try clear c1); (try clear p2); (try clear c5); obtain ⟨av, ac, rfl, HA, HK1, aw, HB⟩ := hrel
  cases gk with
  | zero => exact absurd HA.out (by simp [spec_l4After.l0])
  | succ k1 =>
   have H := HA.out; clear HA; simp only [spec_l4After.l0] at H; by_cases c6 : ac < (l0.length : Int)
   ·
    rw [if_pos c6] at H; have bB : decide (ac < (l0.length : Int)) = true := decide_eq_true c6; clear c6; by_cases c7 : 0 ≤ ac
    ·
     rw [if_pos c7] at H; have bX : decide (0 ≤ ac) = true := decide_eq_true c7; clear c7; by_cases c8 : 0 ≤ a2
     ·
      rw [if_pos c8] at H; have bZ : decide (0 ≤ a2) = true := decide_eq_true c8; clear c8; by_cases c9 : a2 < (l1.length : Int)
      ·
       rw [if_pos c9] at H; have b0 : decide (a2 < (l1.length : Int)) = true := decide_eq_true c9; clear c9; by_cases c10 : ac < ((rd_L1 l1 a2).length : Int)
       ·
        rw [if_pos c10] at H; have a9 : decide (ac < ((rd_L1 l1 a2).length : Int)) = true := decide_eq_true c10; clear c10; by_cases c11 : av.length < 17592186044416
        ·
         rw [if_pos c11] at H; have bb := A_ c11; clear c11; obtain ⟨bc, ay⟩ : ∃ y_ : List Int, y_ = (av ++ [wrap64 ((rd l0 ac) + (rd (rd_L1 l1 a2) ac))]) := ⟨_, rfl⟩
         replace H : (spec_l4After.l0 k1 l0 l1 a2 bc (wrap64 (ac + 1))) = some r := yq_ ay H; have bd := A_ ay; clear ay; have H' := A_ H; clear H; (try go_wp2); replace aw := rd_ aw; replace HB := A_ (ld_ HB.out); have p119 : 0 ≤ (ac : Int) := od_; have q119 : ac < (l0.length : Int) := od_; obtain ⟨ad119, e119, ah⟩ := Kd.at_int HR0.out ac p119 q119; have hw119_0 := ah; cases e119; replace ah := (HB.out.cell (World.block_lt_of_cell? w _ ah)).trans ah; replace p119 := eq_true p119; replace q119 := eq_true q119; have p120 : 0 ≤ (a2 : Int) := od_; have q120 : a2 < (l1.length : Int) := od_; obtain ⟨ad120, bC, a5, e120, ai, hl120_0, hi120_0⟩ := at_L1 HR1.out a2 p120 q120; have hw120_0 := ai; cases e120; replace ai := (HB.out.cell (World.block_lt_of_cell? w _ ai)).trans ai; have ar := A_ hi120_0; have bz := A_ hl120_0; clear hi120_0 hl120_0; replace p120 := eq_true p120; replace q120 := eq_true q120; have p121 : 0 ≤ (ac : Int) := od_; have q121 : ac < ((rd_L1 l1 a2).length : Int) := od_; obtain ⟨ad121, e121, aj⟩ := Kd.at_int ar.out ac p121 q121; have hw121_0 := aj; cases e121; replace aj := (HB.out.cell (World.block_lt_of_cell? w _ aj)).trans aj; replace p121 := eq_true p121; replace q121 := eq_true q121; refine start_ (n := 16) (S := fun w' => w'.cell? (ad119.add (ac).toNat) = some (.int .i64 (rd l0 ac)) ∧ w'.cell? (ad120.add (a2).toNat) = some (.slice (some ad121) (rd_L1 l1 a2).length a5) ∧ w'.cell? (ad121.add (ac).toNat) = some (.int .i64 (rd (rd_L1 l1 a2) ac))) (ds := []) #[false, false, false, false, false, false, false, false, false, false, false, false, false, false, false, false] (by kernel_rfl) rfl rfl ⟨((HB.out.cell (World.block_lt_of_cell? w _ hw119_0)).trans hw119_0), ((HB.out.cell (World.block_lt_of_cell? w _ hw120_0)).trans hw120_0), ((HB.out.cell (World.block_lt_of_cell? w _ hw121_0)).trans hw121_0)⟩ (fun hHeld => ?_); refine with_tabW spec_l4After.tab5 spec_l4After.bits5 (fun HT_ HW_ => ?_); generalize wr.drew = cd at aw HB ar ah ai aj hHeld ⊢; refine pu_ 0 (some 16) #[true, false, false, false, false, false, false, false, false, false, false, false, false, false, false, false] HT_ rfl rfl ?_; refine pu_ 1 (some 17) #[true, true, false, false, false, false, false, false, false, false, false, false, false, false, false, false] HT_ rfl rfl ?_; refine pu_ 2 (some 18) #[true, true, true, false, false, false, false, false, false, false, false, false, false, false, false, false] HT_ rfl rfl ?_; refine pu_ 3 (some 19) #[true, true, true, true, false, false, false, false, false, false, false, false, false, false, false, false] HT_ rfl rfl ?_; refine pu_ 5 (some 21) #[true, true, true, true, false, true, false, false, false, false, false, false, false, false, false, false] HT_ rfl rfl ?_; refine pu_ 6 (some 22) #[true, true, true, true, false, true, true, false, false, false, false, false, false, false, false, false] HT_ rfl rfl ?_; refine pu_ 7 (some 23) #[true, true, true, true, false, true, true, true, false, false, false, false, false, false, false, false] HT_ rfl rfl ?_; refine pu_ 9 (some 25) #[true, true, true, true, false, true, true, true, false, true, false, false, false, false, false, false] HT_ rfl rfl ?_; refine ta_ 4 (some 20) #[true, true, true, true, true, true, true, true, false, true, false, false, false, false, false, false] HT_ HW_ hHeld rfl rfl ?_; refine ta_ 8 (some 24) #[true, true, true, true, true, true, true, true, true, true, false, false, false, false, false, false] HT_ HW_ hHeld rfl rfl ?_; refine pu_ 10 (some 26) #[true, true, true, true, true, true, true, true, true, true, true, false, false, false, false, false] HT_ rfl rfl ?_; refine ta_ 11 (some 27) #[true, true, true, true, true, true, true, true, true, true, true, true, false, false, false, false] HT_ HW_ hHeld rfl rfl ?_; refine pu_ 12 (some 28) #[true, true, true, true, true, true, true, true, true, true, true, true, true, false, false, false] HT_ rfl rfl ?_; refine one_ (i := 13) (N := some 29) #[true, true, true, true, true, true, true, true, true, true, true, true, true, true, false, false] rfl rfl (one_of HT_.out (by kernel_rfl)) (by decide) (fun K hK => ?_); refine va_ rfl ?_; refine hK.out _ _ ⟨(World.cell?_alloc_lt _ _ _ (World.block_lt_of_cell? _ _ (((HB.out.cell (World.block_lt_of_cell? w _ hw119_0)).trans hw119_0)))).trans (((HB.out.cell (World.block_lt_of_cell? w _ hw119_0)).trans hw119_0)), (World.cell?_alloc_lt _ _ _ (World.block_lt_of_cell? _ _ (((HB.out.cell (World.block_lt_of_cell? w _ hw120_0)).trans hw120_0)))).trans (((HB.out.cell (World.block_lt_of_cell? w _ hw120_0)).trans hw120_0)), (World.cell?_alloc_lt _ _ _ (World.block_lt_of_cell? _ _ (((HB.out.cell (World.block_lt_of_cell? w _ hw121_0)).trans hw121_0)))).trans (((HB.out.cell (World.block_lt_of_cell? w _ hw121_0)).trans hw121_0))⟩ (fun hHeld => ?_); clear hK K; refine nr_ 29 ?_; refine one_ (i := 14) (N := some 30) #[true, true, true, true, true, true, true, true, true, true, true, true, true, true, true, false] rfl rfl (one_of HT_.out (by kernel_rfl)) (by decide) (fun K hK => ?_); refine Kd.R_append_step (Kd.int .i64) (w0 := w) w.heap.size (by rfl) (.tmp 16) (.tmp 29) 22 3 (.int .i64 0) 8 rfl Try.underlying22 info3 rfl (by decide) (by omega) u7 av (wrap64 ((rd l0 ac) + (rd (rd_L1 l1 a2) ac))) [.int .i64 (wrap64 ((rd l0 ac) + (rd (rd_L1 l1 a2) ac)))] (fun _ => True) (fun _ => False) rfl rfl ?aP (fun _ hk => hk.elim) ?aF ?aO ?aB ?aS ?aL ?_; (case aP => exact rfl); (case aB => exact (tb_ HB.out)); (case aF => exact (fun _ _ => trivial)); (case aO => exact (rR_ aw.out)); (case aS => exact (below_size (tb_ HB.out))); (case aL => have := bb.out; omega); intro b1 ce ho hb hg hat; rw [← bd.out] at ho; replace HB := A_ (hb); have be := A_ (ho); clear aw ho hb hg hat; refine hK.out _ _ ⟨((HB.out.cell (World.block_lt_of_cell? w _ hw119_0)).trans hw119_0), ((HB.out.cell (World.block_lt_of_cell? w _ hw120_0)).trans hw120_0), ((HB.out.cell (World.block_lt_of_cell? w _ hw121_0)).trans hw121_0)⟩ (fun hHeld => ?_); clear hK K; refine nr_ 30 ?_; refine pu_ 15 (some 7) #[true, true, true, true, true, true, true, true, true, true, true, true, true, true, true, true] HT_ rfl rfl ?_; refine done_ (done_of HT_.out (by kernel_rfl)) ?_; try go_wp2
         go_roundg k1
         case measure => have := HK1.out; omega
         case rel => exact ⟨(bc), (wrap64 (ac + 1)), tx_, H', ⟨by have := HK1.out; omega⟩, ⟨rR_ be.out⟩, ⟨(tb_ HB.out)⟩⟩
        ·
         rw [if_neg c11] at H; exact absurd H (by simp)
       ·
        rw [if_neg c10] at H; exact absurd H (by simp)
      ·
       rw [if_neg c9] at H; exact absurd H (by simp)
     ·
      rw [if_neg c8] at H; exact absurd H (by simp)
    ·
     rw [if_neg c7] at H; exact absurd H (by simp)
   ·
    rw [if_neg c6] at H; have bB : decide (ac < (l0.length : Int)) = false := decide_eq_false c6; clear c6; obtain rfl := Option.some.inj H; go_wp2; go_ret; exact ⟨_, tw_, by refine qR_ ?_; exact aw.out, (tb_ HB.out)⟩

/-! ### spec_AfterWord: function 35 -/
mutual
def spec_AfterWord.j0 : Nat → List Int → List (List Int) → List Int → Bool → Option (List Int × Bool)
 | 0, _, _, _, _ => none
 | k + 1, x0, x1, x2, x26 => if x26 = true then (some ((([] : List Int)), false)) else ((some (([] : List Int) : List Int)).bind fun an => (if an.length + x0.length < 17592186044416 then (spec_AfterWord.l0 k x1 x2 (an ++ x0) 0) else (none)))
def spec_AfterWord.l0 : Nat → List (List Int) → List Int → List Int → Int → Option (List Int × Bool)
 | 0, _, _, _, _ => none
 | k + 1, x1, x2, x8, x9 => if x9 < (x2.length : Int) then (if 0 ≤ x9 then (if 0 ≤ (rd x2 x9) then (if (rd x2 x9) < (x8.length : Int) then (if (rd x8 (rd x2 x9)) < 1 then (some ((([] : List Int)), false)) else ((spec_l4After.f k x8 x1 (rd x2 x9)).bind fun aN => (spec_AfterWord.l0 k x1 x2 aN (wrap64 (x9 + 1))))) else (none)) else (none)) else (none)) else (some (x8, true))
end
def spec_AfterWord.f (k : Nat) (l0 : List Int) (l1 : List (List Int)) (l2 : List Int) : Option (List Int × Bool) := (spec_StartOk.f k l0).bind fun az => (if az = true then ((spec_RuleOk.f k (l0.length : Int) l1).bind fun aq => (if aq = true then ((spec_WordOk.f k (l0.length : Int) l2).bind fun ao => (spec_AfterWord.j0 k l0 l1 l2 (!ao))) else (spec_AfterWord.j0 k l0 l1 l2 true))) else (spec_AfterWord.j0 k l0 l1 l2 true))
theorem spec_AfterWord.mono_l : ∀ k, (∀ y0 y1 y2 y3, LeO (spec_AfterWord.j0 k y0 y1 y2 y3) (spec_AfterWord.j0 (k + 1) y0 y1 y2 y3)) ∧ (∀ y0 y1 y2 y3, LeO (spec_AfterWord.l0 k y0 y1 y2 y3) (spec_AfterWord.l0 (k + 1) y0 y1 y2 y3))
 | 0 => ⟨fun _ _ _ _ r h => by simp [spec_AfterWord.j0] at h, fun _ _ _ _ r h => by simp [spec_AfterWord.l0] at h⟩
 | k + 1 => by
  obtain ⟨ih0, ih1⟩ := spec_AfterWord.mono_l k
  refine ⟨?_, ?_⟩
  ·
   intro y0 y1 y2 y3
   unfold spec_AfterWord.j0
   repeat' (with_reducible first | exact ih0 _ _ _ _ | exact ih1 _ _ _ _ | exact spec_RuleOk.mono _ _ _ | exact spec_StartOk.mono _ _ | exact spec_WordOk.mono _ _ _ | exact spec_l4After.mono _ _ _ _ | exact mr_ | exact mn_ | refine mi_ ?_ ?_ | refine mb_ ?_ (fun _ => ?_))
  ·
   intro y0 y1 y2 y3
   unfold spec_AfterWord.l0
   repeat' (with_reducible first | exact ih0 _ _ _ _ | exact ih1 _ _ _ _ | exact spec_RuleOk.mono _ _ _ | exact spec_StartOk.mono _ _ | exact spec_WordOk.mono _ _ _ | exact spec_l4After.mono _ _ _ _ | exact mr_ | exact mn_ | refine mi_ ?_ ?_ | refine mb_ ?_ (fun _ => ?_))
theorem spec_AfterWord.mono : ∀ a0 a1 a2 k, LeO (spec_AfterWord.f k a0 a1 a2) (spec_AfterWord.f (k + 1) a0 a1 a2) := by
 intro a0 a1 a2 k; obtain ⟨ih0, ih1⟩ := spec_AfterWord.mono_l k; unfold spec_AfterWord.f; repeat' (with_reducible first | exact ih0 _ _ _ _ | exact ih1 _ _ _ _ | exact spec_RuleOk.mono _ _ _ | exact spec_StartOk.mono _ _ | exact spec_WordOk.mono _ _ _ | exact spec_l4After.mono _ _ _ _ | exact mr_ | exact mn_ | refine mi_ ?_ ?_ | refine mb_ ?_ (fun _ => ?_))
set_option maxHeartbeats 8000000 in
set_option maxRecDepth 100000 in
theorem spec_AfterWord.calls (k : Nat) (A0 : Option Addr) (c0 : Nat) (l0 : List Int) (A1 : Option Addr) (c1 : Nat) (l1 : List (List Int)) (A2 : Option Addr) (c2 : Nat) (l2 : List Int) (r1 : List Int) (r2 : Bool) (w : World) (hr0 : Kd.C (Kd.int .i64) w A0 l0.length l0) (hc0 : l0.length ≤ c0) (hr1 : Kd.C (Kd.slice 3 (Kd.int .i64)) w A1 l1.length l1) (hc1 : l1.length ≤ c1) (hr2 : Kd.C (Kd.int .i64) w A2 l2.length l2) (hc2 : l2.length ≤ c2) (h : spec_AfterWord.f k l0 l1 l2 = some (r1, r2)) :
  Calls Try.prog 35 #[.slice A0 l0.length c0, .slice A1 l1.length c1, .slice A2 l2.length c2] w fun e w' => ∃ v0_ : Value, e = .returned (.tuple #[v0_, .bool r2]) ∧ Kd.R (Kd.int .i64) 3 w' w.heap.size (fun _ => True) v0_ r1 ∧ Below w.heap.size w w' := by
 have HR0 := A_ hr0; have HC0 := A_ hc0; clear hr0 hc0; have HR1 := A_ hr1; have HC1 := A_ hc1; clear hr1 hc1; have HR2 := A_ hr2; have HC2 := A_ hc2; clear hr2 hc2; have HB := A_ (Below.refl w.heap.size w); have H : ((spec_StartOk.f k l0).bind fun az => (if az = true then ((spec_RuleOk.f k (l0.length : Int) l1).bind fun aq => (if aq = true then ((spec_WordOk.f k (l0.length : Int) l2).bind fun ao => (spec_AfterWord.j0 k l0 l1 l2 (!ao))) else (spec_AfterWord.j0 k l0 l1 l2 true))) else (spec_AfterWord.j0 k l0 l1 l2 true))) = some (r1, r2) := h; clear h; have HC4 := A_ H; clear H; go_enter Try.func35, Try.ntmps35
 go_upto_region 1 with (fail)
 go_cut [26] (fun b2 wc => ∃ (kq : Nat) (au : Bool), b2 = .bool au ∧ Aside0 (spec_AfterWord.j0 kq l0 l1 l2 au = some (r1, r2)) ∧ Aside0 (kq ≤ k) ∧ Aside0 (Below w.heap.size w wc))
 case first =>
  have H := HC4.out; clear HC4; obtain ⟨az, A5, H⟩ := bnd_ H; (try dsimp only at H); by_cases c6 : az = true
  ·
   subst c6; replace H : ((spec_RuleOk.f k (l0.length : Int) l1).bind fun aq => (if aq = true then ((spec_WordOk.f k (l0.length : Int) l2).bind fun ao => (spec_AfterWord.j0 k l0 l1 l2 (!ao))) else (spec_AfterWord.j0 k l0 l1 l2 true))) = some (r1, r2) := by rw [if_pos rfl] at H; exact H
   obtain ⟨aq, A7, H⟩ := bnd_ H; (try dsimp only at H); by_cases c8 : aq = true
   ·
    subst c8; replace H : ((spec_WordOk.f k (l0.length : Int) l2).bind fun ao => (spec_AfterWord.j0 k l0 l1 l2 (!ao))) = some (r1, r2) := by rw [if_pos rfl] at H; exact H
    obtain ⟨ao, A9, H⟩ := bnd_ H; (try dsimp only at H); have H' := A_ H; clear H; go_wp2_with (first | ((with_reducible refine gate_callee (f := 33) rfl ?_); refine gl_ (some 11) Try.func33 #[.slice A0 l0.length c0] ?_; (with_reducible refine (spec_StartOk.calls k _ _ l0 true _ ?s1 ?s2 A5.out).mono ?_); (case s1 => exact tD_); (case s2 => exact HC0.out); rintro e w' ⟨rfl, ⟨nd, rfl⟩⟩; refine ⟨_, rfl, ?_⟩) | (go_at_call 50; (with_reducible refine (spec_RuleOk.calls k (l0.length : Int) _ _ l1 true _ ?s1 ?s2 A7.out).mono ?_); (case s1 => repeat (first | exact (Kd.C_below HR1.out (tb_ HB.out)) | (with_reducible refine Kd.C_alloc ?_ _) | (with_reducible refine Kd.C_drewN ?_ _) | (with_reducible refine Kd.C_drew ?_))); (case s2 => exact HC1.out); rintro e w' ⟨rfl, ⟨nd, rfl⟩⟩) | (go_at_call 51; (with_reducible refine (spec_WordOk.calls k (l0.length : Int) _ _ l2 ao _ ?s1 ?s2 A9.out).mono ?_); (case s1 => repeat (first | exact (Kd.C_below HR2.out (tb_ HB.out)) | (with_reducible refine Kd.C_alloc ?_ _) | (with_reducible refine Kd.C_drewN ?_ _) | (with_reducible refine Kd.C_drew ?_))); (case s2 => exact HC2.out); rintro e w' ⟨rfl, ⟨nd, rfl⟩⟩)); go_meet
    case rel => exact ⟨_, (!ao), tx_, H', ⟨by first | omega | exact Nat.le_refl _⟩, ⟨(tb_ HB.out)⟩⟩
   ·
    replace c8 := Bool.eq_false_iff.mpr c8; subst c8; replace H : (spec_AfterWord.j0 k l0 l1 l2 true) = some (r1, r2) := by rw [if_neg (show ¬ (false = true) by decide)] at H; exact H
    have H' := A_ H; clear H; go_wp2_with (first | ((with_reducible refine gate_callee (f := 33) rfl ?_); refine gl_ (some 11) Try.func33 #[.slice A0 l0.length c0] ?_; (with_reducible refine (spec_StartOk.calls k _ _ l0 true _ ?s1 ?s2 A5.out).mono ?_); (case s1 => exact tD_); (case s2 => exact HC0.out); rintro e w' ⟨rfl, ⟨nd, rfl⟩⟩; refine ⟨_, rfl, ?_⟩) | (go_at_call 50; (with_reducible refine (spec_RuleOk.calls k (l0.length : Int) _ _ l1 false _ ?s1 ?s2 A7.out).mono ?_); (case s1 => repeat (first | exact (Kd.C_below HR1.out (tb_ HB.out)) | (with_reducible refine Kd.C_alloc ?_ _) | (with_reducible refine Kd.C_drewN ?_ _) | (with_reducible refine Kd.C_drew ?_))); (case s2 => exact HC1.out); rintro e w' ⟨rfl, ⟨nd, rfl⟩⟩)); go_meet
    case rel => exact ⟨_, (true), tx_, H', ⟨by first | omega | exact Nat.le_refl _⟩, ⟨(tb_ HB.out)⟩⟩
  ·
   replace c6 := Bool.eq_false_iff.mpr c6; subst c6; replace H : (spec_AfterWord.j0 k l0 l1 l2 true) = some (r1, r2) := by rw [if_neg (show ¬ (false = true) by decide)] at H; exact H
   have H' := A_ H; clear H; go_wp2_with (first | ((with_reducible refine gate_callee (f := 33) rfl ?_); refine gl_ (some 11) Try.func33 #[.slice A0 l0.length c0] ?_; (with_reducible refine (spec_StartOk.calls k _ _ l0 false _ ?s1 ?s2 A5.out).mono ?_); (case s1 => exact tD_); (case s2 => exact HC0.out); rintro e w' ⟨rfl, ⟨nd, rfl⟩⟩; refine ⟨_, rfl, ?_⟩)); go_meet
   case rel => exact ⟨_, (true), tx_, H', ⟨by first | omega | exact Nat.le_refl _⟩, ⟨(tb_ HB.out)⟩⟩
 case rest =>
  clear HC4; (try clear c1); (try clear c2); (try clear p2); (try clear c3); (try clear c6); (try clear c8); obtain ⟨kq, au, rfl, HA, HJ3, HB⟩ := hcut
  cases kq with
  | zero => exact absurd HA.out (by simp [spec_AfterWord.j0])
  | succ kj3 =>
   have H := HA.out; clear HA; simp only [spec_AfterWord.j0] at H; by_cases c10 : au = true
   ·
    subst c10; replace H : (some ((([] : List Int)), false)) = some (r1, r2) := by rw [if_pos rfl] at H; exact H
    obtain ⟨bD, aA⟩ : ∃ y_ : List Int, y_ = (([] : List Int)) := ⟨_, rfl⟩
    replace H : (some (bD, false)) = some (r1, r2) := yq_ aA H; have aW := A_ aA; clear aA; simp only [Option.some.injEq, Prod.mk.injEq] at H; obtain ⟨rfl, rfl⟩ := H; go_wp2_with (first | ((with_reducible refine gate_dst (N := 27) rfl ?_); (try (refine gate_guard (by rfl) ?_; dsimp only)); refine Kd.R_lit (Kd.int .i64) _ 3 ?hg (N := 27) ?hd (xs := ([] : List Int)) (inner := []) (ok := fun _ => True) (okp := fun _ => True) ?hr ?hp (fun _ hk => hk) trivial (Below.refl _ _) (Nat.le_refl _) (by simp) ?_; (case hd => rfl); (case hg => rfl); (case hr => first | (go_simp; done) | (go_simp; rfl)); (case hp => exact (Reps.none _ _)); intro b3 cf ho12 hb hg_ hnew_; clear hg_ hnew_; (first | rw [← aW.out] at ho12 | (simp only [Int.reduceToNat] at ho12; rw [← aW.out] at ho12)); have bf := rx_ ho12 HB; replace HB := bs_ HB hb; clear hb ho12)); go_ret2; exact ⟨_, tw_, by refine qR_ ?_; exact bf.out, (tb_ HB.out)⟩
   ·
    replace c10 := Bool.eq_false_iff.mpr c10; subst c10; replace H : ((some (([] : List Int) : List Int)).bind fun an => (if an.length + l0.length < 17592186044416 then (spec_AfterWord.l0 kj3 l1 l2 (an ++ l0) 0) else (none))) = some (r1, r2) := by rw [if_neg (show ¬ (false = true) by decide)] at H; exact H
    obtain ⟨an, aC⟩ : ∃ y_ : List Int, y_ = (([] : List Int)) := ⟨_, rfl⟩
    replace H : (if an.length + l0.length < 17592186044416 then (spec_AfterWord.l0 kj3 l1 l2 (an ++ l0) 0) else (none)) = some (r1, r2) := yq_ aC H; have aX := A_ aC; clear aC; by_cases c13 : an.length + l0.length < 17592186044416
    ·
     rw [if_pos c13] at H; have bg := A_ c13; clear c13; obtain ⟨bh, aD⟩ : ∃ y_ : List Int, y_ = (an ++ l0) := ⟨_, rfl⟩
     replace H : (spec_AfterWord.l0 kj3 l1 l2 bh 0) = some (r1, r2) := yq_ aD H; have bi := A_ aD; clear aD; have H' := A_ H; clear H; go_wp2_with (first | ((with_reducible refine gate_dst (N := 28) rfl ?_); (try (refine gate_guard (by rfl) ?_; dsimp only)); refine Kd.R_lit (Kd.int .i64) _ 3 ?hg (N := 28) ?hd (xs := ([] : List Int)) (inner := []) (ok := fun _ => True) (okp := fun _ => True) ?hr ?hp (fun _ hk => hk) trivial (Below.refl _ _) (Nat.le_refl _) (by simp) ?_; (case hd => rfl); (case hg => rfl); (case hr => first | (go_simp; done) | (go_simp; rfl)); (case hp => exact (Reps.none _ _)); intro bE cg ho15 hb hg_ hnew_; clear hg_ hnew_; (first | rw [← aX.out] at ho15 | (simp only [Int.reduceToNat] at ho15; rw [← aX.out] at ho15)); have aY := rx_ ho15 HB; replace HB := bs_ HB hb; clear hb ho15) | ((with_reducible refine gate_builtin (b := .append) (xs := #[.tmp 28, .tmp 29]) rfl ?_); (try (refine gate_guard (by rfl) ?_; dsimp only)); at_builtin; refine Kd.R_append_rows (Kd.int .i64) (w0 := w) w.heap.size rfl (.tmp 28) (.tmp 29) 22 3 (.int .i64 0) 8 rfl Try.underlying22 info3 rfl (by decide) (by omega) bE an l0 _ _ _ (fun _ => True) (fun _ => False) rfl rfl ?aO ?aR (fun _ _ h => h) (fun _ h => h.elim) ?aF ?aB ?aS ?aL ?_; (case aR => repeat (first | exact (Kd.C_below HR0.out HB.out) | (with_reducible refine Kd.C_alloc ?_ _) | (with_reducible refine Kd.C_drewN ?_ _) | (with_reducible refine Kd.C_drew ?_))); (case aB => exact (tb_ HB.out)); (case aF => exact (fun _ _ => trivial)); (case aO => exact (rR_ aY.out)); (case aS => exact (below_size (tb_ HB.out))); (case aL => have := bg.out; omega); intro b4 bF ho hb hg hat; rw [← bi.out] at ho; replace HB := A_ (hb); have bj := A_ (ho); clear aY ho hb hg hat))
     go_loopg [8, 9] kj3 (fun kq v8 v9 w' => ∃ (am : List Int) (aa : Int), v9 = .int .i64 aa ∧ Aside0 (spec_AfterWord.l0 kq l1 l2 am aa = some (r1, r2)) ∧ Aside0 (kq ≤ kj3) ∧ Aside0 (Kd.R (Kd.int .i64) 3 w' w.heap.size (fun _ => True) v8 am) ∧ Aside0 (Below w.heap.size w w'))
     case atStart => exact ⟨(bh), (0), tx_, H', ⟨Nat.le_refl _⟩, ⟨rR_ bj.out⟩, ⟨(tb_ HB.out)⟩⟩
     case round =>
      clear H'; (try clear c1); (try clear c2); (try clear p2); (try clear c3); (try clear c6); (try clear c8); (try clear c10); (try clear c13); (try clear p2); obtain ⟨am, aa, rfl, HA, HK2, ak, HB⟩ := hrel
      cases gk with
      | zero => exact absurd HA.out (by simp [spec_AfterWord.l0])
      | succ k2 =>
       have H := HA.out; clear HA; simp only [spec_AfterWord.l0] at H; by_cases c17 : aa < (l2.length : Int)
       ·
        rw [if_pos c17] at H; have bk : decide (aa < (l2.length : Int)) = true := decide_eq_true c17; clear c17; by_cases c18 : 0 ≤ aa
        ·
         rw [if_pos c18] at H; have bN : decide (0 ≤ aa) = true := decide_eq_true c18; clear c18; by_cases c19 : 0 ≤ (rd l2 aa)
         ·
          rw [if_pos c19] at H; have bO : decide (0 ≤ (rd l2 aa)) = true := decide_eq_true c19; clear c19; by_cases c20 : (rd l2 aa) < (am.length : Int)
          ·
           rw [if_pos c20] at H; have bP : decide ((rd l2 aa) < (am.length : Int)) = true := decide_eq_true c20; clear c20; by_cases c21 : (rd am (rd l2 aa)) < 1
           ·
            rw [if_pos c21] at H; have bl : decide ((rd am (rd l2 aa)) < 1) = true := decide_eq_true c21; clear c21; obtain ⟨bG, aE⟩ : ∃ y_ : List Int, y_ = (([] : List Int)) := ⟨_, rfl⟩
            replace H : (some (bG, false)) = some (r1, r2) := yq_ aE H; have aZ := A_ aE; clear aE; simp only [Option.some.injEq, Prod.mk.injEq] at H; obtain ⟨rfl, rfl⟩ := H; have p137 : 0 ≤ (aa : Int) := od_; have q137 : aa < (l2.length : Int) := od_; obtain ⟨ad137, e137, ae⟩ := Kd.at_int HR2.out aa p137 q137; cases e137; replace ae := (HB.out.cell (World.block_lt_of_cell? w _ ae)).trans ae; replace p137 := eq_true p137; replace q137 := eq_true q137; obtain ⟨b5, b6, bH⟩ := Kd.R_slice ak.out; subst bH; have p138 : 0 ≤ ((rd l2 aa) : Int) := od_; have q138 : (rd l2 aa) < (am.length : Int) := od_; obtain ⟨ad138, e138, aQ⟩ := Kd.at_int (Kd.R_reads' ak.out).2.2 (rd l2 aa) p138 q138; cases e138; replace p138 := eq_true p138; replace q138 := eq_true q138; go_wp2_with (first | ((with_reducible refine gate_dst (N := 45) rfl ?_); (try (refine gate_guard (by rfl) ?_; dsimp only)); refine Kd.R_lit (Kd.int .i64) _ 3 ?hg (N := 45) ?hd (xs := ([] : List Int)) (inner := []) (ok := fun _ => True) (okp := fun _ => True) ?hr ?hp (fun _ hk => hk) trivial (Below.refl _ _) (Nat.le_refl _) (by simp) ?_; (case hd => rfl); (case hg => rfl); (case hr => first | (go_simp; done) | (go_simp; rfl)); (case hp => exact (Reps.none _ _)); intro b7 ch ho24 hb hg_ hnew_; clear hg_ hnew_; (first | rw [← aZ.out] at ho24 | (simp only [Int.reduceToNat] at ho24; rw [← aZ.out] at ho24)); have bm := rx_ (nR_ ho24 (Kd.R_lt (rR_ ak.out))) HB; replace ak := A_ (Kd.R_elder' (rR_ ak.out) (Kd.R_base ho24) hb); replace HB := bs_ HB hb; clear hb ho24)); go_ret2; exact ⟨_, tw_, by refine qR_ ?_; exact Kd.R_mono bm.out (fun _ hk => trivial), (tb_ HB.out)⟩
           ·
            rw [if_neg c21] at H; have bl : decide ((rd am (rd l2 aa)) < 1) = false := decide_eq_false c21; clear c21; obtain ⟨aN, A25, H⟩ := bnd_ H; (try dsimp only at H); have H' := A_ H; clear H; have p137 : 0 ≤ (aa : Int) := od_; have q137 : aa < (l2.length : Int) := od_; obtain ⟨ad137, e137, ae⟩ := Kd.at_int HR2.out aa p137 q137; cases e137; replace ae := (HB.out.cell (World.block_lt_of_cell? w _ ae)).trans ae; replace p137 := eq_true p137; replace q137 := eq_true q137; obtain ⟨b8, bI, bJ⟩ := Kd.R_slice ak.out; subst bJ; have p138 : 0 ≤ ((rd l2 aa) : Int) := od_; have q138 : (rd l2 aa) < (am.length : Int) := od_; obtain ⟨ad138, e138, aQ⟩ := Kd.at_int (Kd.R_reads' ak.out).2.2 (rd l2 aa) p138 q138; cases e138; replace p138 := eq_true p138; replace q138 := eq_true q138; have p142 : 0 ≤ (aa : Int) := od_; have q142 : aa < (l2.length : Int) := od_; obtain ⟨ad142, e142, ap⟩ := Kd.at_int HR2.out aa p142 q142; obtain rfl : ad137 = ad142 := (by injection e142)
            replace ap := (HB.out.cell (World.block_lt_of_cell? w _ ap)).trans ap; replace p142 := eq_true p142; replace q142 := eq_true q142; go_wp2_with (first | ((with_reducible refine gate_callee (f := 52) rfl ?_); refine gl_ (some 52) Try.func52 #[.slice (some ad138) am.length bI, .slice A1 l1.length c1, .int .i64 (rd l2 aa)] ?_; (with_reducible refine (spec_l4After.calls k2 _ _ am _ _ l1 (rd l2 aa) aN _ ?s1 ?s2 ?s3 ?s4 A25.out).mono ?_); (case s1 => exact rc_ ak); (case s2 => exact (ll_ ak)); (case s3 => exact tD_); (case s4 => exact HC1.out); rintro e ci ⟨b9, rfl, ho0, hb⟩; refine ⟨_, rfl, ?_⟩; have bn := rx_ (nR_ ho0 (Kd.R_lt (rR_ ak.out))) HB; replace ak := A_ (Kd.R_elder' (rR_ ak.out) (Kd.R_base ho0) hb); replace HB := bs_ HB hb; (try clear hb ho0)))
            go_roundg k2
            case measure => have := HJ3.out; have := HK2.out; omega
            case rel => exact ⟨(aN), (wrap64 (aa + 1)), tx_, H', ⟨by have := HJ3.out; have := HK2.out; omega⟩, ⟨by refine qR_ ?_; exact Kd.R_mono bn.out (fun _ hk => trivial)⟩, ⟨(tb_ HB.out)⟩⟩
          ·
           rw [if_neg c20] at H; exact absurd H (by simp)
         ·
          rw [if_neg c19] at H; exact absurd H (by simp)
        ·
         rw [if_neg c18] at H; exact absurd H (by simp)
       ·
        rw [if_neg c17] at H; have bk : decide (aa < (l2.length : Int)) = false := decide_eq_false c17; clear c17; simp only [Option.some.injEq, Prod.mk.injEq] at H; obtain ⟨rfl, rfl⟩ := H; go_wp2; go_ret2; exact ⟨_, tw_, by refine qR_ ?_; exact ak.out, (tb_ HB.out)⟩
    ·
     rw [if_neg c13] at H; exact absurd H (by simp)

/-! ### spec_SameRule: function 36 -/
def spec_SameRule.l0 : Nat → Int → Int → List (List Int) → Int → Option ((List (List Int)))
 | 0, _, _, _, _ => none
 | k + 1, x0, x1, x5, x6 => if x6 < x0 then ((spec_l1In.f x0 1 3).bind fun a6 => (if a6 = true then ((spec_l1In.f x1 (-1) 3).bind fun aG => (if aG = true then (if 0 ≤ x0 then (if (x0 : Int).toNat ≤ 35184372088832 then ((some (List.replicate (x0 : Int).toNat 0 : List Int)).bind fun ad => (if 0 ≤ x6 then (if x6 < (ad.length : Int) then (if x5.length < 5864062014805 then (spec_SameRule.l0 k x0 x1 (x5 ++ [(ad.set (x6 : Int).toNat x1)]) (wrap64 (x6 + 1))) else (none)) else (none)) else (none))) else (none)) else (none)) else (some x5))) else (some x5))) else (some x5)
def spec_SameRule.f (k : Nat) (a0 : Int) (a1 : Int) : Option ((List (List Int))) := spec_SameRule.l0 k a0 a1 (([] : List (List Int))) 0
theorem spec_SameRule.mono_l : ∀ k, (∀ y0 y1 y2 y3, LeO (spec_SameRule.l0 k y0 y1 y2 y3) (spec_SameRule.l0 (k + 1) y0 y1 y2 y3))
 | 0 => fun _ _ _ _ r h => by simp [spec_SameRule.l0] at h
 | k + 1 => by
  have ih0 := spec_SameRule.mono_l k
  ·
   intro y0 y1 y2 y3
   unfold spec_SameRule.l0
   repeat' (with_reducible first | exact ih0 _ _ _ _ | exact mr_ | exact mn_ | refine mi_ ?_ ?_ | refine mb_ ?_ (fun _ => ?_))
theorem spec_SameRule.mono : ∀ a0 a1 k, LeO (spec_SameRule.f k a0 a1) (spec_SameRule.f (k + 1) a0 a1) := by
 intro a0 a1 k; have ih0 := spec_SameRule.mono_l k; unfold spec_SameRule.f; repeat' (with_reducible first | exact ih0 _ _ _ _ | exact mr_ | exact mn_ | refine mi_ ?_ ?_ | refine mb_ ?_ (fun _ => ?_))
set_option maxHeartbeats 8000000 in
set_option maxRecDepth 100000 in
theorem spec_SameRule.calls (k : Nat) (a0 : Int) (a1 : Int) (r : List (List Int)) (w : World) (h : spec_SameRule.f k a0 a1 = some r) :
  Calls Try.prog 36 #[.int .i64 a0, .int .i64 a1] w fun e w' => ∃ v0_ : Value, e = .returned (v0_) ∧ Kd.S (Kd.slice 3 (Kd.int .i64)) 22 w' w.heap.size (fun _ => True) v0_ r ∧ Below w.heap.size w w' := by
 have HB := A_ (Below.refl w.heap.size w); have H : (spec_SameRule.l0 k a0 a1 (([] : List (List Int))) 0) = some r := h; clear h; obtain ⟨bo, aH⟩ : ∃ y_ : List (List Int), y_ = (([] : List (List Int))) := ⟨_, rfl⟩
 replace H : (spec_SameRule.l0 k a0 a1 bo 0) = some r := yq_ aH H; have a3 := A_ aH; clear aH; have H' := A_ H; clear H; go_enter Try.func36, Try.ntmps36; go_wp2_with (first | ((with_reducible refine gate_dst (N := 8) rfl ?_); refine Kd.S_lit (Kd.slice 3 (Kd.int .i64)) _ 22 ?hg (N := 8) ?hd (xs := ([] : List (List Int))) (inner := []) (ok := fun _ => True) (okp := fun _ => True) ?hr ?hp (fun _ hk => hk) trivial (Below.refl _ _) (Nat.le_refl _) (by simp) ?_; (case hd => rfl); (case hg => rfl); (case hr => first | (go_simp; done) | (go_simp; rfl)); (case hp => exact (Reps.none _ _)); intro ca w3 ho4 hb hg_ hnew_; clear hg_ hnew_; (first | rw [← a3.out] at ho4 | (simp only [Int.reduceToNat] at ho4; rw [← a3.out] at ho4)); have bp := A_ (Kd.S_lower ho4 (below_size (tb_ HB.out))); replace HB := bs_ HB hb; clear hb ho4))
 go_loopg [5, 6] k (fun kq v5 v6 w' => ∃ (af : List (List Int)) (ab : Int), v6 = .int .i64 ab ∧ Aside0 (spec_SameRule.l0 kq a0 a1 af ab = some r) ∧ Aside0 (kq ≤ k) ∧ Aside0 (Kd.S (Kd.slice 3 (Kd.int .i64)) 22 w' w.heap.size (fun _ => True) v5 af) ∧ Aside0 (Below w.heap.size w w'))
 case atStart => exact ⟨(bo), (0), tx_, H', ⟨Nat.le_refl _⟩, ⟨rS_ bp.out⟩, ⟨(tb_ HB.out)⟩⟩
 case round =>
  clear H'; (try clear p2); (try clear c3); obtain ⟨af, ab, rfl, HA, HK1, ag, HB⟩ := hrel
  cases gk with
  | zero => exact absurd HA.out (by simp [spec_SameRule.l0])
  | succ k1 =>
   have H := HA.out; clear HA; simp only [spec_SameRule.l0] at H; by_cases c5 : ab < a0
   ·
    rw [if_pos c5] at H; have bK : decide (ab < a0) = true := decide_eq_true c5; clear c5; obtain ⟨a6, A6, H⟩ := bnd_ H; (try dsimp only at H); by_cases c7 : a6 = true
    ·
     subst c7; replace H : ((spec_l1In.f a1 (-1) 3).bind fun aG => (if aG = true then (if 0 ≤ a0 then (if (a0 : Int).toNat ≤ 35184372088832 then ((some (List.replicate (a0 : Int).toNat 0 : List Int)).bind fun ad => (if 0 ≤ ab then (if ab < (ad.length : Int) then (if af.length < 5864062014805 then (spec_SameRule.l0 k1 a0 a1 (af ++ [(ad.set (ab : Int).toNat a1)]) (wrap64 (ab + 1))) else (none)) else (none)) else (none))) else (none)) else (none)) else (some af))) = some r := by rw [if_pos rfl] at H; exact H
     obtain ⟨aG, A8, H⟩ := bnd_ H; (try dsimp only at H); by_cases c9 : aG = true
     ·
      subst c9; replace H : (if 0 ≤ a0 then (if (a0 : Int).toNat ≤ 35184372088832 then ((some (List.replicate (a0 : Int).toNat 0 : List Int)).bind fun ad => (if 0 ≤ ab then (if ab < (ad.length : Int) then (if af.length < 5864062014805 then (spec_SameRule.l0 k1 a0 a1 (af ++ [(ad.set (ab : Int).toNat a1)]) (wrap64 (ab + 1))) else (none)) else (none)) else (none))) else (none)) else (none)) = some r := by rw [if_pos rfl] at H; exact H
      by_cases c10 : 0 ≤ a0
      ·
       rw [if_pos c10] at H; have a9 := eq_true c10; have bQ : decide (0 ≤ a0) = true := decide_eq_true c10; clear c10; by_cases c11 : (a0 : Int).toNat ≤ 35184372088832
       ·
        rw [if_pos c11] at H; have bR := eq_true c11; have bS : decide ((a0 : Int).toNat ≤ 35184372088832) = true := decide_eq_true c11; clear c11; obtain ⟨ad, aI⟩ : ∃ y_ : List Int, y_ = (List.replicate (a0 : Int).toNat 0) := ⟨_, rfl⟩
        replace H : (if 0 ≤ ab then (if ab < (ad.length : Int) then (if af.length < 5864062014805 then (spec_SameRule.l0 k1 a0 a1 (af ++ [(ad.set (ab : Int).toNat a1)]) (wrap64 (ab + 1))) else (none)) else (none)) else (none)) = some r := yq_ aI H; have a4 := A_ aI; clear aI; by_cases c12 : 0 ≤ ab
        ·
         rw [if_pos c12] at H; have bU : decide (0 ≤ ab) = true := decide_eq_true c12; clear c12; by_cases c13 : ab < (ad.length : Int)
         ·
          rw [if_pos c13] at H; have bV : decide (ab < (ad.length : Int)) = true := decide_eq_true c13; clear c13; obtain ⟨aU, aJ⟩ : ∃ y_ : List Int, y_ = (ad.set (ab : Int).toNat a1) := ⟨_, rfl⟩
          replace H : (if af.length < 5864062014805 then (spec_SameRule.l0 k1 a0 a1 (af ++ [aU]) (wrap64 (ab + 1))) else (none)) = some r := yq_ aJ H; have bq := A_ aJ; clear aJ; by_cases c15 : af.length < 5864062014805
          ·
           rw [if_pos c15] at H; have br := A_ c15; clear c15; obtain ⟨bs, aK⟩ : ∃ y_ : List (List Int), y_ = (af ++ [aU]) := ⟨_, rfl⟩
           replace H : (spec_SameRule.l0 k1 a0 a1 bs (wrap64 (ab + 1))) = some r := yq_ aK H; have bu := A_ aK; clear aK; have H' := A_ H; clear H; go_wp2_with (first | (go_at_call 34; (with_reducible refine (spec_l1In.calls a0 1 3 true _ A6.out).mono ?_); rintro e w' ⟨rfl, ⟨nd, rfl⟩⟩; (try (rw [drewN_self wr]; generalize hq_ : World.drewN wr _ = wr; have n0_ : Aside0 (Kd.S (Kd.slice 3 (Kd.int .i64)) 22 wr w.heap.size (fun _ => True) u5 af) := ⟨by rw [← hq_]; exact (rS_ ag.out)⟩; have n1_ : Aside0 (Below w.heap.size w wr) := ⟨by rw [← hq_]; exact (tb_ HB.out)⟩; clear ag HB hq_; have ag := n0_; have HB := n1_; clear n0_ n1_))) | (go_at_call 34; (with_reducible refine (spec_l1In.calls a1 (-1) 3 true _ A8.out).mono ?_); rintro e w' ⟨rfl, ⟨nd, rfl⟩⟩; (try (rw [drewN_self wr]; generalize hq_ : World.drewN wr _ = wr; have n0_ : Aside0 (Kd.S (Kd.slice 3 (Kd.int .i64)) 22 wr w.heap.size (fun _ => True) u5 af) := ⟨by rw [← hq_]; exact (rS_ ag.out)⟩; have n1_ : Aside0 (Below w.heap.size w wr) := ⟨by rw [← hq_]; exact (tb_ HB.out)⟩; clear ag HB hq_; have ag := n0_; have HB := n1_; clear n0_ n1_))) | ((with_reducible refine gate_dst (N := 23) rfl ?_); refine Kd.R_make (Kd.int .i64) _ 3 rfl (N := 23) rfl 22 _ _ rfl a0 rfl rfl Try.underlying22 (.int .i64 0) 8 info3 rfl (by decide) (by omega) 0 (ok := fun _ => True) (okp := fun _ => True) rfl (fun _ hk => hk) trivial (od_) (Nat.le_trans (Nat.mul_le_mul_right _ (od_ : a0.toNat ≤ 35184372088832)) (by omega)) (Below.refl _ _) (Nat.le_refl _) ?_; intro cb bF ho17 hb hg_ hnew_; clear hg_ hnew_; (first | rw [← a4.out] at ho17 | (simp only [Int.reduceToNat] at ho17; rw [← a4.out] at ho17)); replace ag := A_ (Kd.S_elder' (rS_ ag.out) (Kd.R_base ho17) hb); have al := rx_ ho17 HB; replace HB := bs_ HB hb; clear hb ho17; have p14 : 0 ≤ (ab : Int) := od_; have q14 : (ab : Int) < ((ad.length : Int) : Int) := od_; obtain ⟨go14, aM, bv, bw, gl14, cl14, HG14⟩ := Kd.R_form al.out (by omega); (first | cases bv | (injection bv with ea_ en_ ec_; (first | subst ea_ | (injection ea_ with ea_; subst ea_)); subst ec_; clear en_)); have GB14 := A_ bw; have GG14 := A_ HG14; clear bw gl14 HG14; obtain ⟨bL, hf14_0⟩ := Kd.R_celln 0 al.out (ab : Int) p14 q14; replace p14 := eq_true p14; replace q14 := eq_true q14; obtain ⟨hy18_, hz18_⟩ := Kd.R_celln 0 al.out (ab : Int) (od_) (od_); have HP18 := Kd.R_putg al.out (ab : Int) a1) | ((with_reducible refine gate_store (t := 3) (p := 27) rfl ?_); refine store_event (t := 3) (p := 27) (v := ?vo_w19) (w1 := (bF.setCell ⟨go14, (ab : Int).toNat, none⟩ (.int .i64 a1))) ?hg ?ho ?hn ?hr ?_; (case ho => rfl); (case hg => rfl); (case hn => rfl); (case hr => first | (go_simp; done) | (go_simp; rfl)); intro bM hw; have hg : bF.grownBy bM (some go14) := (by rw [hw]; exact HP18.2); have hp_ : Kd.R (Kd.int .i64) 3 bM w.heap.size (fun _ => True) (.slice (some ⟨go14, 0, none⟩) ad.length aM) aU := (by rw [hw, bq.out]; exact HP18.1); clear HP18; replace ag := A_ (Kd.S_after (v := (.slice (some ⟨go14, 0, none⟩) ad.length aM)) (v1 := (.slice (some ⟨go14, 0, none⟩) ad.length aM)) (ok := (fun _ => True)) (rS_ ag.out) hg (.inl rfl)); replace al := A_ (hp_); replace HB := A_ ((by rw [hw]; exact below_set (HB.out) GB14.out : Below w.heap.size w bM)); clear hg hw hp_) | ((with_reducible refine gate_builtin (b := .append) (xs := #[.tmp 28, .tmp 30]) rfl ?_); at_builtin; refine Kd.S_append (Kd.slice 3 (Kd.int .i64)) (w0 := w) w.heap.size rfl (.tmp 28) (.tmp 30) 57 22 (.slice none 0 0) 24 rfl Try.underlying57 info22 rfl (by decide) (by omega) u5 af aU [.slice (some ⟨go14, 0, none⟩) ad.length aM] (fun _ => True) (fun k_ => some k_ = (.slice (some ⟨go14, 0, none⟩) ad.length aM : Value).ownBlock) rfl rfl ?aP (fun k_ hk_ => ((Kd.R_mono (ok' := fun k_ => ((fun _ => True)) k_ ∧ some k_ ≠ (u5 : Value).ownBlock) (Kd.R_apart' (al.out) (Kd.S_typed ag.out) (by decide)) (fun k_ hk => ⟨trivial, hk.2⟩))).1 k_ hk_.symm) ?aF ?aO ?aB ?aS ?aL ?_; (case aP => exact Kd.M_row (Kd.R_mono (Kd.R_tight rfl (Kd.R_mono (ok' := fun k_ => ((fun _ => True)) k_ ∧ some k_ ≠ (u5 : Value).ownBlock) (Kd.R_apart' (al.out) (Kd.S_typed ag.out) (by decide)) (fun k_ hk => ⟨trivial, hk.2⟩))) (fun _ h_ => h_))); (case aB => exact (tb_ HB.out)); (case aF => exact (fun _ _ => trivial)); (case aO => exact (by refine qS_ ?_; exact Kd.S_mono ag.out (fun k_ hk => ⟨trivial, fun e_ => hk.2 e_⟩))); (case aS => exact (below_size (tb_ HB.out))); (case aL => have := br.out; omega); intro cc cj ho hb hg hat; rw [← bu.out] at ho; replace HB := A_ (hb); have bx := A_ (ho); clear ag al ho hb hg hat))
           go_roundg k1
           case measure => have := HK1.out; omega
           case rel => exact ⟨(bs), (wrap64 (ab + 1)), tx_, H', ⟨by have := HK1.out; omega⟩, ⟨rS_ bx.out⟩, ⟨(tb_ HB.out)⟩⟩
          ·
           rw [if_neg c15] at H; exact absurd H (by simp)
         ·
          rw [if_neg c13] at H; exact absurd H (by simp)
        ·
         rw [if_neg c12] at H; exact absurd H (by simp)
       ·
        rw [if_neg c11] at H; exact absurd H (by simp)
      ·
       rw [if_neg c10] at H; exact absurd H (by simp)
     ·
      replace c9 := Bool.eq_false_iff.mpr c9; subst c9; replace H : (some af) = some r := by rw [if_neg (show ¬ (false = true) by decide)] at H; exact H
      obtain rfl := Option.some.inj H; go_wp2_with (first | (go_at_call 34; (with_reducible refine (spec_l1In.calls a0 1 3 true _ A6.out).mono ?_); rintro e w' ⟨rfl, ⟨nd, rfl⟩⟩) | (go_at_call 34; (with_reducible refine (spec_l1In.calls a1 (-1) 3 false _ A8.out).mono ?_); rintro e w' ⟨rfl, ⟨nd, rfl⟩⟩)); go_ret; exact ⟨_, tw_, by refine qS_ ?_; exact ag.out, (tb_ HB.out)⟩
    ·
     replace c7 := Bool.eq_false_iff.mpr c7; subst c7; replace H : (some af) = some r := by rw [if_neg (show ¬ (false = true) by decide)] at H; exact H
     obtain rfl := Option.some.inj H; go_wp2_with (first | (go_at_call 34; (with_reducible refine (spec_l1In.calls a0 1 3 false _ A6.out).mono ?_); rintro e w' ⟨rfl, ⟨nd, rfl⟩⟩)); go_ret; exact ⟨_, tw_, by refine qS_ ?_; exact ag.out, (tb_ HB.out)⟩
   ·
    rw [if_neg c5] at H; have bK : decide (ab < a0) = false := decide_eq_false c5; clear c5; obtain rfl := Option.some.inj H; go_wp2; go_ret; exact ⟨_, tw_, by refine qS_ ?_; exact ag.out, (tb_ HB.out)⟩

end Go.Proofs.Ytncgleffkbegjaa.MFnDeskOk
