/- For the law FnExactDeskRun: walks of the functions that it reaches: each call returns what the plain function beside it tells. The conditions stand in each statement. -/
import Derived.Test.YtmodbemkflkbeaaDoorV
import Derived.Test.YtmodbemkflkbeaaDoorMFnExactDeskRunx0
import Derived.Test.YtmodbemkflkbeaaDoorMFnExactDeskRunx3
import Derived.Test.YtmodbemkflkbeaaDoorMFnExactDeskRunx4
namespace Go.Proofs.YtmodbemkflkbeaaDoor.MFnExactDeskRun
open Go.RowKit Go.Proofs.YtmodbemkflkbeaaDoorW.PrintWords Go.Proofs.YtmodbemkflkbeaaDoorW.PrintLast Go.Proofs.YtmodbemkflkbeaaDoorW.PrintMore
attribute [local go_sem] max2_int min2_int max_two min_two max_three min_three max_four min_four   -- for this text's walks alone
set_option linter.unusedVariables false
set_option linter.unusedSimpArgs false
set_option maxHeartbeats 8000000
set_option maxRecDepth 100000

/-! ### spec_AfterWord: function 49 -/
mutual
def spec_AfterWord.j0 : Nat → List Int → List (List Int) → List Int → Bool → Option (List Int × Bool)
 | 0, _, _, _, _ => none
 | k + 1, x0, x1, x2, x26 => if x26 = true then (some ((([] : List Int)), false)) else ((some (([] : List Int) : List Int)).bind fun bd => (if bd.length + x0.length < 17592186044416 then (spec_AfterWord.l0 k x1 x2 (bd ++ x0) 0) else (none)))
def spec_AfterWord.l0 : Nat → List (List Int) → List Int → List Int → Int → Option (List Int × Bool)
 | 0, _, _, _, _ => none
 | k + 1, x1, x2, x8, x9 => if x9 < (x2.length : Int) then (if 0 ≤ x9 then (if 0 ≤ (rd x2 x9) then (if (rd x2 x9) < (x8.length : Int) then (if (rd x8 (rd x2 x9)) < 1 then (some ((([] : List Int)), false)) else ((spec_l4After.f k x8 x1 (rd x2 x9)).bind fun aV => (spec_AfterWord.l0 k x1 x2 aV (wrap64 (x9 + 1))))) else (none)) else (none)) else (none)) else (some (x8, true))
end
def spec_AfterWord.f (k : Nat) (l0 : List Int) (l1 : List (List Int)) (l2 : List Int) : Option (List Int × Bool) := (spec_StartOk.f k l0).bind fun aW => (if aW = true then ((spec_RuleOk.f k (l0.length : Int) l1).bind fun aX => (if aX = true then ((spec_WordOk.f k (l0.length : Int) l2).bind fun aY => (spec_AfterWord.j0 k l0 l1 l2 (!aY))) else (spec_AfterWord.j0 k l0 l1 l2 true))) else (spec_AfterWord.j0 k l0 l1 l2 true))
theorem spec_AfterWord.mono_l : ∀ k, (∀ y0 y1 y2 y3, LeO (spec_AfterWord.j0 k y0 y1 y2 y3) (spec_AfterWord.j0 (k + 1) y0 y1 y2 y3)) ∧ (∀ y0 y1 y2 y3, LeO (spec_AfterWord.l0 k y0 y1 y2 y3) (spec_AfterWord.l0 (k + 1) y0 y1 y2 y3))
 | 0 => ⟨fun _ _ _ _ r h => by simp [spec_AfterWord.j0] at h, fun _ _ _ _ r h => by simp [spec_AfterWord.l0] at h⟩
 | k + 1 => by
  obtain ⟨ih0, ih1⟩ := spec_AfterWord.mono_l k
  refine ⟨?_, ?_⟩
  ·
   intro y0 y1 y2 y3
   unfold spec_AfterWord.j0
   repeat' (with_reducible first | exact ih0 _ _ _ _ | exact ih1 _ _ _ _ | exact spec_RuleOk.mono _ _ _ | exact spec_StartOk.mono _ _ | exact spec_WordOk.mono _ _ _ | exact spec_l4After.mono _ _ _ _ | exact mr_ | exact mn_ | refine mi_ ?_ ?_ | refine mb_ ?_ (fun _ => ?_))
  ·
   intro y0 y1 y2 y3
   unfold spec_AfterWord.l0
   repeat' (with_reducible first | exact ih0 _ _ _ _ | exact ih1 _ _ _ _ | exact spec_RuleOk.mono _ _ _ | exact spec_StartOk.mono _ _ | exact spec_WordOk.mono _ _ _ | exact spec_l4After.mono _ _ _ _ | exact mr_ | exact mn_ | refine mi_ ?_ ?_ | refine mb_ ?_ (fun _ => ?_))
theorem spec_AfterWord.mono : ∀ a0 a1 a2 k, LeO (spec_AfterWord.f k a0 a1 a2) (spec_AfterWord.f (k + 1) a0 a1 a2) := by
 intro a0 a1 a2 k; obtain ⟨ih0, ih1⟩ := spec_AfterWord.mono_l k; unfold spec_AfterWord.f; repeat' (with_reducible first | exact ih0 _ _ _ _ | exact ih1 _ _ _ _ | exact spec_RuleOk.mono _ _ _ | exact spec_StartOk.mono _ _ | exact spec_WordOk.mono _ _ _ | exact spec_l4After.mono _ _ _ _ | exact mr_ | exact mn_ | refine mi_ ?_ ?_ | refine mb_ ?_ (fun _ => ?_))
theorem spec_AfterWord.z0 {P_ : Prop} (h_ : P_ := by go_wp2_with (first | ((with_reducible refine gate_callee (f := 47) rfl ?_); refine ca_ (some 11) Tryd.func47 _ (spec_StartOk.calls k A0 c0 _ _ _ (gt_ st) (gt_ st) A_11.out) ?_; rintro e w_ ⟨rfl, hb⟩; refine ⟨_, rfl, ?_⟩; replace hb := hb.below; replace st := st.ev hb; clear cl hb; have cl := cl_ st) | ((with_reducible refine gate_callee (f := 66) rfl ?_); refine gate_guard (by rfl) ?_; dsimp only; refine ca_ (some 17) Tryd.func66 _ (spec_RuleOk.calls k _ A1 c1 _ _ _ (gt_ st) (gt_ st) A_17.out) ?_; rintro e w_ ⟨rfl, hb⟩; refine ⟨_, rfl, ?_⟩; replace hb := hb.below; replace st := st.ev hb; clear cl hb; have cl := cl_ st) | ((with_reducible refine gate_callee (f := 67) rfl ?_); refine gate_guard (by rfl) ?_; dsimp only; refine ca_ (some 24) Tryd.func67 _ (spec_WordOk.calls k _ A2 c2 _ _ _ (gt_ st) (gt_ st) A_24.out) ?_; rintro e w_ ⟨rfl, hb⟩; refine ⟨_, rfl, ?_⟩; replace hb := hb.below; replace st := st.ev hb; clear cl hb; have cl := cl_ st)); first | (go_meet; (case rel => exact ⟨_, (!aY), tx_, H', ⟨by first | omega | exact Nat.le_refl _⟩, st.en⟩)) | (go_meet; (case rel => exact ⟨_, (true), tx_, H', ⟨by first | omega | exact Nat.le_refl _⟩, st.en⟩))) : P_ := h_
theorem spec_AfterWord.z1 {P_ : Prop} (h_ : P_ := by go_wp2_with (first | ((with_reducible refine gate_dst (N := 40) rfl ?_); obtain ⟨p_, q_, ad_, e_, x0⟩ := a2_ (Kd.at_int (gC_ st (Kd.int .i64) A2 l2) ae); have ix_ := ix1_ Tryd.underlying22 e_ p_ q_ (c := c2); clear e_; go_step) | ((with_reducible refine gate_dst (N := 42) rfl ?_); obtain ⟨p_, q_, ad_, e_, x0⟩ := a2_ (Kd.at_int (gC_ st (Kd.int .i64) ay ao) (rd l2 ae)); have ix_ := ix1_ Tryd.underlying22 e_ p_ q_ (c := az); clear e_; go_step) | ((with_reducible refine gate_dst (N := 45) rfl ?_); refine nw_ (Kd.int .i64) 3 (([] : List Int) : List Int) [] st ?_; clear st cl; intro B45_0 d45_0 w_ st; have cl := cl_ st) | ((with_reducible refine gate_dst (N := 50) rfl ?_); obtain ⟨p_, q_, ad_, e_, x0⟩ := a2_ (Kd.at_int (gC_ st (Kd.int .i64) A2 l2) ae); have ix_ := ix1_ Tryd.underlying22 e_ p_ q_ (c := c2); clear e_; go_step) | ((with_reducible refine gate_callee (f := 68) rfl ?_); refine ca_ (some 52) Tryd.func68 _ (spec_l4After.calls k2 ay az _ A1 c1 _ _ _ _ (gt_ st) (gt_ st) (gt_ st) (gt_ st) A_52.out) ?_; rintro e w_ ⟨v0, rfl, h0, hb⟩; refine ⟨_, rfl, ?_⟩; obtain ⟨B52_0, d52_0, rfl⟩ := Kd.R_slice h0; replace st := st.p1 hb (st.mr h0); clear cl hb h0; have cl := cl_ st)); first | (go_ret2; exact ⟨.slice B45_0 ([] : List Int).length d45_0, tw_, gt_ st, st.b⟩) | (go_roundg k2; (case measure => have := HJ4.out; have := HK2.out; omega); (case rel => exact ⟨(aV), (wrap64 (ae + 1)), B52_0, d52_0, tx_, tx_, H', ⟨by have := HJ4.out; have := HK2.out; omega⟩, st.en⟩)) | (go_ret2; exact ⟨.slice ay ao.length az, tw_, gt_ st, st.b⟩)) : P_ := h_
theorem spec_AfterWord.calls (k : Nat) (A0 : Option Addr) (c0 : Nat) (l0 : List Int) (A1 : Option Addr) (c1 : Nat) (l1 : List (List Int)) (A2 : Option Addr) (c2 : Nat) (l2 : List Int) (r1 : List Int) (r2 : Bool) (w : World) (hr0 : Kd.C (Kd.int .i64) w A0 l0.length l0) (hc0 : l0.length ≤ c0) (hr1 : Kd.C (Kd.slice 3 (Kd.int .i64)) w A1 l1.length l1) (hc1 : l1.length ≤ c1) (hr2 : Kd.C (Kd.int .i64) w A2 l2.length l2) (hc2 : l2.length ≤ c2) (h : spec_AfterWord.f k l0 l1 l2 = some (r1, r2)) :
  Calls Tryd.prog 49 #[.slice A0 l0.length c0, .slice A1 l1.length c1, .slice A2 l2.length c2] w fun e w' => ∃ v0_ : Value, e = .returned (.tuple #[v0_, .bool r2]) ∧ Kd.R (Kd.int .i64) 3 w' w.heap.size (fun _ => True) v0_ r1 ∧ Below w.heap.size w w' := by
 have st := (((ST.nil w).c hr0 hc0).c hr1 hc1).c hr2 hc2; have s0 := st; have cl := cl_ st; have H := h; clear h; unfold spec_AfterWord.f at H; go_enter Tryd.func49, Tryd.ntmps49; have HC5 := A_ H; clear H
 go_upto_region 1 with (fail)
 go_cut [26] (fun bI wc => ∃ (kq : Nat) (aq : Bool), bI = .bool aq ∧ Aside0 (spec_AfterWord.j0 kq l0 l1 l2 aq = some (r1, r2)) ∧ Aside0 (kq ≤ k) ∧ ST w [CA (Kd.int .i64) w A0 l0 c0, CA (Kd.slice 3 (Kd.int .i64)) w A1 l1 c1, CA (Kd.int .i64) w A2 l2 c2] [] wc)
 case first =>
  have H := HC5.out; clear HC5; obtain ⟨aW, A_11, H⟩ := bnd_ H; rcases bx_ aW with rfl | rfl
  ·
   replace H := bt_ H; obtain ⟨aX, A_17, H⟩ := bnd_ H; rcases bx_ aX with rfl | rfl
   ·
    replace H := bt_ H; obtain ⟨aY, A_24, H⟩ := bnd_ H; have H' := A_ H; clear H; exact spec_AfterWord.z0
   ·
    replace H := bf_ H; have H' := A_ H; clear H; exact spec_AfterWord.z0
  ·
   replace H := bf_ H; have H' := A_ H; clear H; exact spec_AfterWord.z0
 case rest =>
  clear HC5 st cl; obtain ⟨kq, aq, rfl, HA, HJ4, st⟩ := hcut; have cl := cl_ st
  cases kq with
  | zero => exact absurd HA.out (by simp [spec_AfterWord.j0])
  | succ kj4 =>
   have H := HA.out; clear HA; simp only [spec_AfterWord.j0] at H; rcases bx_ aq with rfl | rfl
   ·
    replace H := bt_ H; simp only [Option.some.injEq, Prod.mk.injEq] at H; obtain ⟨rfl, rfl⟩ := H; go_wp2_with (first | ((with_reducible refine gate_dst (N := 27) rfl ?_); refine nw_ (Kd.int .i64) 3 (([] : List Int) : List Int) [] st ?_; clear st cl; intro B27_0 d27_0 w_ st; have cl := cl_ st)); go_ret2; exact ⟨.slice B27_0 ([] : List Int).length d27_0, tw_, gt_ st, st.b⟩
   ·
    replace H := bf_ H; replace H := sm_ H; (try dsimp only at H); replace H := il_ H; obtain ⟨bv, H⟩ := H; (try simp only [List.nil_append] at H); have H' := A_ H; clear H; go_wp2_with (first | ((with_reducible refine gate_dst (N := 28) rfl ?_); refine nwl_ (Kd.int .i64) 3 (([] : List Int) : List Int) [] st ?_; clear st cl; intro B28_0 d28_0 w_ st; have cl := cl_ st) | ((with_reducible refine gate_dst (N := 30) rfl ?_); refine apr0_ B28_0 l0 A0 c0 ((.int .i64 0)) 8 st Tryd.underlying22 (gt_ st) ?_ (hl := by have := bv.out; simp only [List.length_nil] at this; omega); clear st cl; intro P30 q30 w_ st; have cl := cl_ st))
    go_loopg [8, 9] kj4 (fun kq v8 v9 w' => ∃ (ao : List Int) (ae : Int) (ay : Option Addr) (az : Nat), v8 = .slice ay ao.length az ∧ v9 = .int .i64 ae ∧ Aside0 (spec_AfterWord.l0 kq l1 l2 ao ae = some (r1, r2)) ∧ Aside0 (kq ≤ kj4) ∧ ST w [CA (Kd.slice 3 (Kd.int .i64)) w A1 l1 c1, CA (Kd.int .i64) w A2 l2 c2, AR (Kd.int .i64) 3 w.heap.size (.slice ay ao.length az) ao] [] w')
    case atStart => exact ⟨(l0), (0), P30, q30, tx_, tx_, H', ⟨Nat.le_refl _⟩, (st.lp P30 l0).en⟩
    case round =>
     clear H' st cl; obtain ⟨ao, ae, ay, az, rfl, rfl, HA, HK2, st⟩ := hrel; have cl := cl_ st
     cases gk with
     | zero => exact absurd HA.out (by simp [spec_AfterWord.l0])
     | succ k2 =>
      have H := HA.out; clear HA; simp only [spec_AfterWord.l0] at H; replace H := it_ H; rcases H with ⟨bw, H⟩ | ⟨bw, H⟩
      ·
       replace H := in_ H; obtain ⟨bJ, H⟩ := H; replace H := in_ H; obtain ⟨be, H⟩ := H; replace H := in_ H; obtain ⟨bf, H⟩ := H; replace H := it_ H; rcases H with ⟨aQ, H⟩ | ⟨aQ, H⟩
       ·
        simp only [Option.some.injEq, Prod.mk.injEq] at H; obtain ⟨rfl, rfl⟩ := H; exact spec_AfterWord.z1
       ·
        obtain ⟨aV, A_52, H⟩ := bnd_ H; have H' := A_ H; clear H; exact spec_AfterWord.z1
      ·
       simp only [Option.some.injEq, Prod.mk.injEq] at H; obtain ⟨rfl, rfl⟩ := H; exact spec_AfterWord.z1
/-! ### spec_SameRule: function 50 -/
def spec_SameRule.l0 : Nat → Int → Int → List (List Int) → Int → Option ((List (List Int)))
 | 0, _, _, _, _ => none
 | k + 1, x0, x1, x5, x6 => if x6 < x0 then ((spec_l1In.f x0 1 3).bind fun aZ => (if aZ = true then ((spec_l1In.f x1 (-1) 3).bind fun aA => (if aA = true then (if 0 ≤ x0 then (if (x0 : Int).toNat ≤ 35184372088832 then ((some (List.replicate (x0 : Int).toNat 0 : List Int)).bind fun ad => (if 0 ≤ x6 then (if x6 < (ad.length : Int) then (if x5.length < 5864062014805 then (spec_SameRule.l0 k x0 x1 (x5 ++ [(ad.set (x6 : Int).toNat x1)]) (wrap64 (x6 + 1))) else (none)) else (none)) else (none))) else (none)) else (none)) else (some x5))) else (some x5))) else (some x5)
def spec_SameRule.f (k : Nat) (a0 : Int) (a1 : Int) : Option ((List (List Int))) := spec_SameRule.l0 k a0 a1 (([] : List (List Int))) 0
theorem spec_SameRule.mono_l : ∀ k, (∀ y0 y1 y2 y3, LeO (spec_SameRule.l0 k y0 y1 y2 y3) (spec_SameRule.l0 (k + 1) y0 y1 y2 y3))
 | 0 => fun _ _ _ _ r h => by simp [spec_SameRule.l0] at h
 | k + 1 => by
  have ih0 := spec_SameRule.mono_l k
  ·
   intro y0 y1 y2 y3
   unfold spec_SameRule.l0
   repeat' (with_reducible first | exact ih0 _ _ _ _ | exact mr_ | exact mn_ | refine mi_ ?_ ?_ | refine mb_ ?_ (fun _ => ?_))
theorem spec_SameRule.mono : ∀ a0 a1 k, LeO (spec_SameRule.f k a0 a1) (spec_SameRule.f (k + 1) a0 a1) := by
 intro a0 a1 k; have ih0 := spec_SameRule.mono_l k; unfold spec_SameRule.f; repeat' (with_reducible first | exact ih0 _ _ _ _ | exact mr_ | exact mn_ | refine mi_ ?_ ?_ | refine mb_ ?_ (fun _ => ?_))
theorem spec_SameRule.calls (k : Nat) (a0 : Int) (a1 : Int) (r : List (List Int)) (w : World) (h : spec_SameRule.f k a0 a1 = some r) :
  Calls Tryd.prog 50 #[.int .i64 a0, .int .i64 a1] w fun e w' => ∃ v0_ : Value, e = .returned (v0_) ∧ Kd.S (Kd.slice 3 (Kd.int .i64)) 22 w' w.heap.size (fun _ => True) v0_ r ∧ Below w.heap.size w w' := by
 have HB := A_ (Below.refl w.heap.size w); have H : (spec_SameRule.l0 k a0 a1 (([] : List (List Int))) 0) = some r := h; clear h; obtain ⟨bg, aC⟩ : ∃ y_ : List (List Int), y_ = (([] : List (List Int))) := ⟨_, rfl⟩
 replace H : (spec_SameRule.l0 k a0 a1 bg 0) = some r := yq_ aC H; have aR := A_ aC; clear aC; have H' := A_ H; clear H; go_enter Tryd.func50, Tryd.ntmps50; go_wp2_with (first | ((with_reducible refine gate_dst (N := 8) rfl ?_); refine Kd.S_lit (Kd.slice 3 (Kd.int .i64)) _ 22 ?hg (N := 8) ?hd (xs := ([] : List (List Int))) (inner := []) (ok := fun _ => True) (okp := fun _ => True) ?hr ?hp (fun _ hk => hk) trivial (Below.refl _ _) (Nat.le_refl _) (by simp) ?_; (case hd => rfl); (case hg => rfl); (case hr => first | (go_simp; done) | (go_simp; rfl)); (case hp => exact (Reps.none _ _)); intro bK w3 ho4 hb hg_ hnew_; clear hg_ hnew_; (first | rw [← aR.out] at ho4 | (simp only [Int.reduceToNat] at ho4; rw [← aR.out] at ho4)); have bh := A_ (Kd.S_lower ho4 (below_size (tb_ HB.out))); replace HB := bs_ HB hb; clear hb ho4))
 go_loopg [5, 6] k (fun kq v5 v6 w' => ∃ (af : List (List Int)) (ac : Int), v6 = .int .i64 ac ∧ Aside0 (spec_SameRule.l0 kq a0 a1 af ac = some r) ∧ Aside0 (kq ≤ k) ∧ Aside0 (Kd.S (Kd.slice 3 (Kd.int .i64)) 22 w' w.heap.size (fun _ => True) v5 af) ∧ Aside0 (Below w.heap.size w w'))
 case atStart => exact ⟨(bg), (0), tx_, H', ⟨Nat.le_refl _⟩, ⟨rS_ bh.out⟩, ⟨(tb_ HB.out)⟩⟩
 case round =>
  clear H'; obtain ⟨af, ac, rfl, HA, HK1, ag, HB⟩ := hrel
  cases gk with
  | zero => exact absurd HA.out (by simp [spec_SameRule.l0])
  | succ k1 =>
   have H := HA.out; clear HA; simp only [spec_SameRule.l0] at H; replace H := it_ H; rcases H with ⟨bx, H⟩ | ⟨bx, H⟩
   ·
    obtain ⟨aZ, A6, H⟩ := bnd_ H; (try dsimp only at H); by_cases c7 : aZ = true
    ·
     subst c7; replace H : ((spec_l1In.f a1 (-1) 3).bind fun aA => (if aA = true then (if 0 ≤ a0 then (if (a0 : Int).toNat ≤ 35184372088832 then ((some (List.replicate (a0 : Int).toNat 0 : List Int)).bind fun ad => (if 0 ≤ ac then (if ac < (ad.length : Int) then (if af.length < 5864062014805 then (spec_SameRule.l0 k1 a0 a1 (af ++ [(ad.set (ac : Int).toNat a1)]) (wrap64 (ac + 1))) else (none)) else (none)) else (none))) else (none)) else (none)) else (some af))) = some r := by rw [if_pos rfl] at H; exact H
     obtain ⟨aA, A8, H⟩ := bnd_ H; (try dsimp only at H); by_cases c9 : aA = true
     ·
      subst c9; replace H : (if 0 ≤ a0 then (if (a0 : Int).toNat ≤ 35184372088832 then ((some (List.replicate (a0 : Int).toNat 0 : List Int)).bind fun ad => (if 0 ≤ ac then (if ac < (ad.length : Int) then (if af.length < 5864062014805 then (spec_SameRule.l0 k1 a0 a1 (af ++ [(ad.set (ac : Int).toNat a1)]) (wrap64 (ac + 1))) else (none)) else (none)) else (none))) else (none)) else (none)) = some r := by rw [if_pos rfl] at H; exact H
      replace H := i0_ H; obtain ⟨c10, H⟩ := H; have be := eq_true c10; have bE : decide (0 ≤ a0) = true := decide_eq_true c10; clear c10; replace H := i0_ H; obtain ⟨c11, H⟩ := H; have bf := eq_true c11; have bF : decide ((a0 : Int).toNat ≤ 35184372088832) = true := decide_eq_true c11; clear c11; obtain ⟨ad, aD⟩ : ∃ y_ : List Int, y_ = (List.replicate (a0 : Int).toNat 0) := ⟨_, rfl⟩
      replace H : (if 0 ≤ ac then (if ac < (ad.length : Int) then (if af.length < 5864062014805 then (spec_SameRule.l0 k1 a0 a1 (af ++ [(ad.set (ac : Int).toNat a1)]) (wrap64 (ac + 1))) else (none)) else (none)) else (none)) = some r := yq_ aD H; have aU := A_ aD; clear aD; replace H := in_ H; obtain ⟨aQ, H⟩ := H; replace H := in_ H; obtain ⟨bG, H⟩ := H; obtain ⟨aK, aE⟩ : ∃ y_ : List Int, y_ = (ad.set (ac : Int).toNat a1) := ⟨_, rfl⟩
      replace H : (if af.length < 5864062014805 then (spec_SameRule.l0 k1 a0 a1 (af ++ [aK]) (wrap64 (ac + 1))) else (none)) = some r := yq_ aE H; have bi := A_ aE; clear aE; replace H := il_ H; obtain ⟨bj, H⟩ := H; obtain ⟨bk, aG⟩ : ∃ y_ : List (List Int), y_ = (af ++ [aK]) := ⟨_, rfl⟩
      replace H : (spec_SameRule.l0 k1 a0 a1 bk (wrap64 (ac + 1))) = some r := yq_ aG H; have bl := A_ aG; clear aG; have H' := A_ H; clear H; go_wp2_with (first | (go_at_call 48; (with_reducible refine (spec_l1In.calls a0 1 3 true _ A6.out).mono ?_); rintro e w' ⟨rfl, ⟨nd, rfl⟩⟩; (try (rw [drewN_self wr]; generalize hq_ : World.drewN wr _ = wr; have n0_ : Aside0 (Kd.S (Kd.slice 3 (Kd.int .i64)) 22 wr w.heap.size (fun _ => True) u5 af) := ⟨by rw [← hq_]; exact (rS_ ag.out)⟩; have n1_ : Aside0 (Below w.heap.size w wr) := ⟨by rw [← hq_]; exact (tb_ HB.out)⟩; clear ag HB hq_; have ag := n0_; have HB := n1_; clear n0_ n1_))) | (go_at_call 48; (with_reducible refine (spec_l1In.calls a1 (-1) 3 true _ A8.out).mono ?_); rintro e w' ⟨rfl, ⟨nd, rfl⟩⟩; (try (rw [drewN_self wr]; generalize hq_ : World.drewN wr _ = wr; have n0_ : Aside0 (Kd.S (Kd.slice 3 (Kd.int .i64)) 22 wr w.heap.size (fun _ => True) u5 af) := ⟨by rw [← hq_]; exact (rS_ ag.out)⟩; have n1_ : Aside0 (Below w.heap.size w wr) := ⟨by rw [← hq_]; exact (tb_ HB.out)⟩; clear ag HB hq_; have ag := n0_; have HB := n1_; clear n0_ n1_))) | ((with_reducible refine gate_dst (N := 23) rfl ?_); refine Kd.R_make (Kd.int .i64) _ 3 rfl (N := 23) rfl 22 _ _ rfl a0 rfl rfl Tryd.underlying22 (.int .i64 0) 8 info3 rfl (by decide) (by omega) 0 (ok := fun _ => True) (okp := fun _ => True) rfl (fun _ hk => hk) trivial (od_) (Nat.le_trans (Nat.mul_le_mul_right _ (od_ : a0.toNat ≤ 35184372088832)) (by omega)) (Below.refl _ _) (Nat.le_refl _) ?_; intro bL bH ho17 hb hg_ hnew_; clear hg_ hnew_; (first | rw [← aU.out] at ho17 | (simp only [Int.reduceToNat] at ho17; rw [← aU.out] at ho17)); replace ag := A_ (Kd.S_elder' (rS_ ag.out) (Kd.R_base ho17) hb); have an := rx_ ho17 HB; replace HB := bs_ HB hb; clear hb ho17; have p14 : 0 ≤ (ac : Int) := od_; have q14 : (ac : Int) < ((ad.length : Int) : Int) := od_; obtain ⟨go14, aH, bm, bn, gl14, cl14, HG14⟩ := Kd.R_form an.out (by omega); (first | cases bm | (injection bm with ea_ en_ ec_; (first | subst ea_ | (injection ea_ with ea_; subst ea_)); subst ec_; clear en_)); have GB14 := A_ bn; have GG14 := A_ HG14; clear bn gl14 HG14; obtain ⟨bz, hf14_0⟩ := Kd.R_celln 0 an.out (ac : Int) p14 q14; replace p14 := eq_true p14; replace q14 := eq_true q14; obtain ⟨hy18_, hz18_⟩ := Kd.R_celln 0 an.out (ac : Int) (od_) (od_); have HP18 := Kd.R_putg an.out (ac : Int) a1) | ((with_reducible refine gate_store (t := 3) (p := 27) rfl ?_); refine store_event (t := 3) (p := 27) (v := ?vo_w19) (w1 := (bH.setCell ⟨go14, (ac : Int).toNat, none⟩ (.int .i64 a1))) ?hg ?ho ?hn ?hr ?_; (case ho => rfl); (case hg => rfl); (case hn => rfl); (case hr => first | (go_simp; done) | (go_simp; rfl)); intro bB hw; have hg : bH.grownBy bB (some go14) := (by rw [hw]; exact HP18.2); have hp_ : Kd.R (Kd.int .i64) 3 bB w.heap.size (fun _ => True) (.slice (some ⟨go14, 0, none⟩) ad.length aH) aK := (by rw [hw, bi.out]; exact HP18.1); clear HP18; replace ag := A_ (Kd.S_after (v := (.slice (some ⟨go14, 0, none⟩) ad.length aH)) (v1 := (.slice (some ⟨go14, 0, none⟩) ad.length aH)) (ok := (fun _ => True)) (rS_ ag.out) hg (.inl rfl)); replace an := A_ (hp_); replace HB := A_ ((by rw [hw]; exact below_set (HB.out) GB14.out : Below w.heap.size w bB)); clear hg hw hp_) | ((with_reducible refine gate_builtin (b := .append) (xs := #[.tmp 28, .tmp 30]) rfl ?_); at_builtin; refine Kd.S_append (Kd.slice 3 (Kd.int .i64)) (w0 := w) w.heap.size rfl (.tmp 28) (.tmp 30) 75 22 (.slice none 0 0) 24 rfl Tryd.underlying75 info22 rfl (by decide) (by omega) u5 af aK [.slice (some ⟨go14, 0, none⟩) ad.length aH] (fun _ => True) (fun k_ => some k_ = (.slice (some ⟨go14, 0, none⟩) ad.length aH : Value).ownBlock) rfl rfl ?aP (fun k_ hk_ => ((Kd.R_mono (ok' := fun k_ => ((fun _ => True)) k_ ∧ some k_ ≠ (u5 : Value).ownBlock) (Kd.R_apart' (an.out) (Kd.S_typed ag.out) (by decide)) (fun k_ hk => ⟨trivial, hk.2⟩))).1 k_ hk_.symm) ?aF ?aO ?aB ?aS ?aL ?_; (case aP => exact Kd.M_row (Kd.R_mono (Kd.R_tight rfl (Kd.R_mono (ok' := fun k_ => ((fun _ => True)) k_ ∧ some k_ ≠ (u5 : Value).ownBlock) (Kd.R_apart' (an.out) (Kd.S_typed ag.out) (by decide)) (fun k_ hk => ⟨trivial, hk.2⟩))) (fun _ h_ => h_))); (case aB => exact (tb_ HB.out)); (case aF => exact (fun _ _ => trivial)); (case aO => exact (by refine qS_ ?_; exact Kd.S_mono ag.out (fun k_ hk => ⟨trivial, fun e_ => hk.2 e_⟩))); (case aS => exact (below_size (tb_ HB.out))); (case aL => have := bj.out; omega); intro bM bR ho hb hg hat; rw [← bl.out] at ho; replace HB := A_ (hb); have bo := A_ (ho); clear ag an ho hb hg hat))
      go_roundg k1
      case measure => have := HK1.out; omega
      case rel => exact ⟨(bk), (wrap64 (ac + 1)), tx_, H', ⟨by have := HK1.out; omega⟩, ⟨rS_ bo.out⟩, ⟨(tb_ HB.out)⟩⟩
     ·
      replace c9 := Bool.eq_false_iff.mpr c9; subst c9; replace H : (some af) = some r := by rw [if_neg (show ¬ (false = true) by decide)] at H; exact H
      obtain rfl := Option.some.inj H; go_wp2_with (first | (go_at_call 48; (with_reducible refine (spec_l1In.calls a0 1 3 true _ A6.out).mono ?_); rintro e w' ⟨rfl, ⟨nd, rfl⟩⟩) | (go_at_call 48; (with_reducible refine (spec_l1In.calls a1 (-1) 3 false _ A8.out).mono ?_); rintro e w' ⟨rfl, ⟨nd, rfl⟩⟩)); go_ret; exact ⟨_, tw_, by refine qS_ ?_; exact ag.out, (tb_ HB.out)⟩
    ·
     replace c7 := Bool.eq_false_iff.mpr c7; subst c7; replace H : (some af) = some r := by rw [if_neg (show ¬ (false = true) by decide)] at H; exact H
     obtain rfl := Option.some.inj H; go_wp2_with (first | (go_at_call 48; (with_reducible refine (spec_l1In.calls a0 1 3 false _ A6.out).mono ?_); rintro e w' ⟨rfl, ⟨nd, rfl⟩⟩)); go_ret; exact ⟨_, tw_, by refine qS_ ?_; exact ag.out, (tb_ HB.out)⟩
   ·
    obtain rfl := Option.some.inj H; go_wp2; go_ret; exact ⟨_, tw_, by refine qS_ ?_; exact ag.out, (tb_ HB.out)⟩

/-! ### spec_PlaceOk: function 24 -/
def spec_PlaceOk.j0 : Nat → Bool → List Int → Int → List Int → Option (Bool)
 | 0, _, _, _, _ => none
 | k + 1, x14, ar, aM, aN => if x14 = true then (some false) else ((spec_SameRule.f k (ar.length : Int) aM).bind fun bp => ((spec_AfterWord.f k ar bp aN).bind fun bq => (some bq.2)))
def spec_PlaceOk.f (k : Nat) (aa : List Int) (a0_1 : Int) (ab : List Int) : Option (Bool) := (spec_StartOk.f k aa).bind fun a4 => (if a4 = true then ((spec_l1In.f a0_1 (-1) 3).bind fun a5 => (spec_PlaceOk.j0 k (!a5) aa a0_1 ab)) else (spec_PlaceOk.j0 k true aa a0_1 ab))
theorem spec_PlaceOk.mono_l : ∀ k, (∀ y0 y1 y2 y3, LeO (spec_PlaceOk.j0 k y0 y1 y2 y3) (spec_PlaceOk.j0 (k + 1) y0 y1 y2 y3))
 | 0 => fun _ _ _ _ r h => by simp [spec_PlaceOk.j0] at h
 | k + 1 => by
  have ih0 := spec_PlaceOk.mono_l k
  ·
   intro y0 y1 y2 y3
   unfold spec_PlaceOk.j0
   repeat' (with_reducible first | exact ih0 _ _ _ _ | exact spec_AfterWord.mono _ _ _ _ | exact spec_SameRule.mono _ _ _ | exact spec_StartOk.mono _ _ | exact mr_ | exact mn_ | refine mi_ ?_ ?_ | refine mb_ ?_ (fun _ => ?_))
theorem spec_PlaceOk.mono : ∀ a0 a1 a2 k, LeO (spec_PlaceOk.f k a0 a1 a2) (spec_PlaceOk.f (k + 1) a0 a1 a2) := by
 intro a0 a1 a2 k; have ih0 := spec_PlaceOk.mono_l k; unfold spec_PlaceOk.f; repeat' (with_reducible first | exact ih0 _ _ _ _ | exact spec_AfterWord.mono _ _ _ _ | exact spec_SameRule.mono _ _ _ | exact spec_StartOk.mono _ _ | exact mr_ | exact mn_ | refine mi_ ?_ ?_ | refine mb_ ?_ (fun _ => ?_))
def spec_PlaceOk.T3 : Bool × List (List Nat × List Nat) := (true, [([], []), ([0], [0]), ([], []), ([2], [2]), ([3], [3]), ([], []), ([5], [5]), ([4, 6], [4, 6]), ([], []), ([8], [8]), ([1, 7, 9, 7], [1, 7, 9]), ([10], [10]), ([11], [11]), ([11], [11]), ([12, 10, 0, 1, 2, 3, 4, 5, 6, 7, 8, 9, 10, 11, 12], [12]), ([13, 14, 0, 1, 2, 3, 4, 5, 6, 7, 8, 9, 10, 11, 12, 13, 14], [13])])
def spec_PlaceOk.B3 : List Nat := [0, 1, 0, 4, 12, 0, 32, 124, 0, 256, 1023, 2047, 4095, 4095, 8191, 32767]
theorem spec_PlaceOk.tab3 : rtab .any (opsOf Tryd.f24 3) = spec_PlaceOk.T3 := by kernel_rfl
theorem spec_PlaceOk.bits3 : waitsOk spec_PlaceOk.T3.2 spec_PlaceOk.B3 = true := by kernel_rfl
theorem spec_PlaceOk.z0 {P_ : Prop} (h_ : P_ := by go_wp2_with (first | ((with_reducible refine gate_callee (f := 47) rfl ?_); refine ca_ (some 7) Tryd.func47 _ (spec_StartOk.calls k ah ai _ _ _ (gt_ st) (gt_ st) A_7.out) ?_; rintro e w_ ⟨rfl, hb⟩; refine ⟨_, rfl, ?_⟩; replace hb := hb.below; replace st := st.ev hb; clear cl hb; have cl := cl_ st) | ((with_reducible refine gate_callee (f := 48) rfl ?_); refine gate_guard (by rfl) ?_; dsimp only; refine ca_ (some 12) Tryd.func48 _ (spec_l1In.calls _ _ _ _ _ A_12.out) ?_; rintro e w_ ⟨rfl, hb⟩; refine ⟨_, rfl, ?_⟩; replace hb := hb.below; replace st := st.ev hb; clear cl hb; have cl := cl_ st)); first | (go_meet; (case rel => exact ⟨_, (!a5), tx_, H', ⟨by first | omega | exact Nat.le_refl _⟩, st.en⟩)) | (go_meet; (case rel => exact ⟨_, (true), tx_, H', ⟨by first | omega | exact Nat.le_refl _⟩, st.en⟩))) : P_ := h_
theorem spec_PlaceOk.calls (k : Nat) (ah : Option Addr) (ai : Nat) (aa : List Int) (a0_1 : Int) (ak : Option Addr) (al : Nat) (ab : List Int) (r : Bool) (w : World) (hr0_0 : Kd.C (Kd.int .i64) w ah aa.length aa) (hc0_0 : aa.length ≤ ai) (hr0_2 : Kd.C (Kd.int .i64) w ak ab.length ab) (hc0_2 : ab.length ≤ al) (h : spec_PlaceOk.f k aa a0_1 ab = some r) :
  Calls Tryd.prog 24 #[.agg #[.slice ah aa.length ai, .int .i64 a0_1, .slice ak ab.length al]] w fun e w' => e = .returned (.bool r) ∧ Below w.heap.size w w' := by
 have hu31 := Tryd.underlying31; have st := ((ST.nil w).c hr0_0 hc0_0).c hr0_2 hc0_2; have s0 := st; have cl := cl_ st; have H := h; clear h; unfold spec_PlaceOk.f at H; go_enter Tryd.func24, Tryd.ntmps24; have HC3 := A_ H; clear H
 go_upto_region 1 with (first | ((with_reducible refine gate_dst (N := 1) rfl ?_); refine al_ st ?_; clear st cl; intro g1 w_ st; have cl := cl_ st))
 (try simp only [Act.put, sa_, sb_, sc_])
 go_cut [14] (fun bN wc => ∃ (kq : Nat) (au : Bool), bN = .bool au ∧ Aside0 (spec_PlaceOk.j0 kq au aa a0_1 ab = some r) ∧ Aside0 (kq ≤ k) ∧ ST w [CA (Kd.int .i64) w ah aa ai, CA (Kd.int .i64) w ak ab al] [Bx g1 #[.slice ah aa.length ai, .int .i64 a0_1, .slice ak ab.length al] 31] wc)
 case first =>
  have H := HC3.out; clear HC3; obtain ⟨a4, A_7, H⟩ := bnd_ H; rcases bx_ a4 with rfl | rfl
  ·
   replace H := bt_ H; obtain ⟨a5, A_12, H⟩ := bnd_ H; have H' := A_ H; clear H; exact spec_PlaceOk.z0
  ·
   replace H := bf_ H; have H' := A_ H; clear H; exact spec_PlaceOk.z0
 case rest =>
  clear HC3 st cl; obtain ⟨kq, au, rfl, HA, HJ2, st⟩ := hcut; have cl := cl_ st
  cases kq with
  | zero => exact absurd HA.out (by simp [spec_PlaceOk.j0])
  | succ kj2 =>
   have H := HA.out; clear HA; simp only [spec_PlaceOk.j0] at H; rcases bx_ au with rfl | rfl
   ·
    replace H := bt_ H; obtain rfl := Option.some.inj H; go_wp2; go_ret; exact ⟨tw_, st.b⟩
   ·
    replace H := bf_ H; obtain ⟨bp, A_23, H⟩ := bnd_ H; obtain ⟨⟨bO, bP⟩, A_26, H⟩ := bnd_ H; (try dsimp only at H); obtain rfl := Option.some.inj H; (try go_wp2); (all_goals (refine rg_ st [] ?_; clear st cl; intro w_ st hs; have cl := cl_ st; refine with_tabW spec_PlaceOk.tab3 spec_PlaceOk.bits3 (fun HT_ HW_ => ?_); refine pv_ 0 ?_; refine pv_ 2 ?_; refine pv_ 5 ?_; refine pv_ 8 ?_; refine tu_ 1 ?_; refine tu_ 3 ?_; refine tu_ 6 ?_; refine tu_ 9 ?_; refine pv_ 4 ?_; refine ov_ 7 (fun K hK => ?_); refine ca2_ (some 23) Tryd.func50 _ (spec_SameRule.calls kj2 _ _ _ _ A_23.out) ?_; rintro e w_ ⟨v0, rfl, h0, hb⟩; refine ⟨_, rfl, ?_⟩; obtain ⟨B23_0, d23_0, rfl⟩ := Kd.S_slice h0; replace st := st.p1 hb (st.ms h0); clear cl hb h0; have cl := cl_ st; refine hK.out _ _ st.en (fun hs => ?_); clear hK K; refine nr_ 23 ?_; refine ov_ 10 (fun K hK => ?_); refine ca2_ (some 26) Tryd.func49 _ (spec_AfterWord.calls kj2 ah ai _ B23_0 d23_0 _ ak al _ _ _ _ (gt_ st) (gt_ st) (gt_ st) (gt_ st) (gt_ st) (gt_ st) A_26.out) ?_; rintro e w_ ⟨v0, rfl, h0, hb⟩; refine ⟨_, rfl, ?_⟩; obtain ⟨B26_0, d26_0, rfl⟩ := Kd.R_slice h0; replace st := st.p1 hb (st.mr h0); clear cl hb h0; have cl := cl_ st; refine hK.out _ _ st.en (fun hs => ?_); clear hK K; refine nr_ 26 ?_; refine pv_ 11 ?_; refine pv_ 12 ?_; refine pv_ 13 ?_; refine pv_ 14 ?_; refine pv_ 15 ?_; refine done_ (done_of HT_.out (by kernel_rfl)) ?_; all_goals (try go_wp2))); go_ret; exact ⟨tw_, st.b⟩

/-! ### spec_DeskOk: function 21 -/
def spec_DeskOk.l0 : Nat → Int → List Int → Int → List Int → List (S31) → Option (Bool)
 | 0, _, _, _, _, _ => none
 | k + 1, x3, av, aw, ax, aj => if x3 < (aj.length : Int) then (if 0 ≤ x3 then ((spec_PlaceOk.f k ((rd_T31 aj x3).f0) ((rd_T31 aj x3).f1) ((rd_T31 aj x3).f2)).bind fun a6 => (if a6 = true then (spec_DeskOk.l0 k (wrap64 (x3 + 1)) av aw ax aj) else (some false))) else (none)) else ((spec_PlaceOk.f k av aw ax).bind fun a7 => (if a7 = true then (some (decide ((aj.length : Int) ≤ 8))) else (some false)))
def spec_DeskOk.f (k : Nat) (aa : List Int) (a0_1 : Int) (ab : List Int) (am : List (S31)) : Option (Bool) := spec_DeskOk.l0 k 0 aa a0_1 ab am
theorem spec_DeskOk.mono_l : ∀ k, (∀ y0 y1 y2 y3 y4, LeO (spec_DeskOk.l0 k y0 y1 y2 y3 y4) (spec_DeskOk.l0 (k + 1) y0 y1 y2 y3 y4))
 | 0 => fun _ _ _ _ _ r h => by simp [spec_DeskOk.l0] at h
 | k + 1 => by
  have ih0 := spec_DeskOk.mono_l k
  ·
   intro y0 y1 y2 y3 y4
   unfold spec_DeskOk.l0
   repeat' (with_reducible first | exact ih0 _ _ _ _ _ | exact spec_PlaceOk.mono _ _ _ _ | exact mr_ | exact mn_ | refine mi_ ?_ ?_ | refine mb_ ?_ (fun _ => ?_))
theorem spec_DeskOk.mono : ∀ a0 a1 a2 a3 k, LeO (spec_DeskOk.f k a0 a1 a2 a3) (spec_DeskOk.f (k + 1) a0 a1 a2 a3) := by
 intro a0 a1 a2 a3 k; have ih0 := spec_DeskOk.mono_l k; unfold spec_DeskOk.f; repeat' (with_reducible first | exact ih0 _ _ _ _ _ | exact spec_PlaceOk.mono _ _ _ _ | exact mr_ | exact mn_ | refine mi_ ?_ ?_ | refine mb_ ?_ (fun _ => ?_))
theorem spec_DeskOk.z0 {P_ : Prop} (h_ : P_ := by go_wp2_with (first | ((with_reducible refine gate_dst (N := 14) rfl ?_); obtain ⟨p_, q_, ad_, a8, a9, bb, bc, e_, x0, x1, x2, l0_, C0_, l2_, C2_⟩ := a2_ (at_T31 (gC_ s0 k31 aI am) ap); replace x0 := cb_ st x0; replace x1 := cb_ st x1; replace x2 := cb_ st x2; replace st := st.c C0_ l0_; replace st := st.c C2_ l2_; have ix_ := ix3_ Tryd.underlying32 e_ p_ q_ (c := aJ); clear e_; go_step) | ((with_reducible refine gate_callee (f := 24) rfl ?_); refine ca_ (some 16) Tryd.func24 _ (spec_PlaceOk.calls k1 a8 a9 _ _ bb bc _ _ _ (gt_ st) (gt_ st) (gt_ st) (gt_ st) A_16.out) ?_; rintro e w_ ⟨rfl, hb⟩; refine ⟨_, rfl, ?_⟩; replace st := st.ev hb; clear cl hb; have cl := cl_ st) | ((with_reducible refine gate_callee (f := 24) rfl ?_); refine ca_ (some 20) Tryd.func24 _ (spec_PlaceOk.calls k1 ah ai _ _ ak al _ _ _ (gt_ st) (gt_ st) (gt_ st) (gt_ st) A_20.out) ?_; rintro e w_ ⟨rfl, hb⟩; refine ⟨_, rfl, ?_⟩; replace st := st.ev hb; clear cl hb; have cl := cl_ st)); first | (go_roundg k1; (case measure => have := HK1.out; omega); (case rel => exact ⟨(wrap64 (ap + 1)), tx_, H', ⟨by have := HK1.out; omega⟩, st.en⟩)) | (go_ret; exact ⟨tw_, st.b⟩)) : P_ := h_
theorem spec_DeskOk.calls (k : Nat) (ah : Option Addr) (ai : Nat) (aa : List Int) (a0_1 : Int) (ak : Option Addr) (al : Nat) (ab : List Int) (aI : Option Addr) (aJ : Nat) (am : List (S31)) (r : Bool) (w : World) (hr0_0 : Kd.C (Kd.int .i64) w ah aa.length aa) (hc0_0 : aa.length ≤ ai) (hr0_2 : Kd.C (Kd.int .i64) w ak ab.length ab) (hc0_2 : ab.length ≤ al) (hr0_3 : Kd.C k31 w aI am.length am) (hc0_3 : am.length ≤ aJ) (h : spec_DeskOk.f k aa a0_1 ab am = some r) :
  Calls Tryd.prog 21 #[.agg #[.slice ah aa.length ai, .int .i64 a0_1, .slice ak ab.length al, .slice aI am.length aJ]] w fun e w' => e = .returned (.bool r) ∧ Below w.heap.size w w' := by
 have hu34 := Tryd.underlying34; have hu31 := Tryd.underlying31; have st := (((ST.nil w).c hr0_0 hc0_0).c hr0_2 hc0_2).c hr0_3 hc0_3; have s0 := st; have cl := cl_ st; have H := h; clear h; unfold spec_DeskOk.f at H; go_enter Tryd.func21, Tryd.ntmps21; have H' := A_ H; clear H; go_wp2_with (first | ((with_reducible refine gate_dst (N := 1) rfl ?_); refine al_ st ?_; clear st cl; intro g1 w_ st; have cl := cl_ st))
 go_loopg [3] k (fun kq v3 w' => ∃ (ap : Int), v3 = .int .i64 ap ∧ Aside0 (spec_DeskOk.l0 kq ap aa a0_1 ab am = some r) ∧ Aside0 (kq ≤ k) ∧ ST w [CA (Kd.int .i64) w ah aa ai, CA (Kd.int .i64) w ak ab al, CA k31 w aI am aJ] [Bx g1 #[.slice ah aa.length ai, .int .i64 a0_1, .slice ak ab.length al, .slice aI am.length aJ] 34] w')
 case atStart => exact ⟨(0), tx_, H', ⟨Nat.le_refl _⟩, st.en⟩
 case round =>
  clear H' st cl; obtain ⟨ap, rfl, HA, HK1, st⟩ := hrel; have cl := cl_ st
  cases gk with
  | zero => exact absurd HA.out (by simp [spec_DeskOk.l0])
  | succ k1 =>
   have H := HA.out; clear HA; simp only [spec_DeskOk.l0] at H; replace H := it_ H; rcases H with ⟨bC, H⟩ | ⟨bC, H⟩
   ·
    replace H := in_ H; obtain ⟨bQ, H⟩ := H; obtain ⟨a6, A_16, H⟩ := bnd_ H; rcases bx_ a6 with rfl | rfl
    ·
     replace H := bt_ H; have H' := A_ H; clear H; exact spec_DeskOk.z0
    ·
     replace H := bf_ H; obtain rfl := Option.some.inj H; exact spec_DeskOk.z0
   ·
    obtain ⟨a7, A_20, H⟩ := bnd_ H; rcases bx_ a7 with rfl | rfl
    ·
     replace H := bt_ H; obtain rfl := Option.some.inj H; exact spec_DeskOk.z0
    ·
     replace H := bf_ H; obtain rfl := Option.some.inj H; exact spec_DeskOk.z0

/-! ### spec_l15Place: function 45 -/
def spec_l15Place.f (aa : List Int) (a0_1 : Int) (ab : List Int) : Option (List Int × Int × List Int) := (some (([] : List Int) : List Int)).bind fun br => (if br.length + aa.length < 17592186044416 then ((some (([] : List Int) : List Int)).bind fun bs => (if bs.length + ab.length < 17592186044416 then (some ((br ++ aa), a0_1, (bs ++ ab))) else (none))) else (none))
def spec_l15Place.T1 : Bool × List (List Nat × List Nat) := (true, [([], []), ([], []), ([1], [1]), ([0, 2], [0, 2]), ([], []), ([4], [4]), ([], []), ([], []), ([7], [7]), ([6, 8, 3], [6, 8]), ([3, 5, 9], [3, 5, 9]), ([10, 9, 0, 1, 2, 3, 4, 5, 6, 7, 8, 9, 10], [10])])
def spec_l15Place.B1 : List Nat := [0, 0, 2, 7, 0, 16, 0, 0, 128, 463, 1023, 2047]
theorem spec_l15Place.tab1 : rtab .any (opsOf Tryd.f45 1) = spec_l15Place.T1 := by kernel_rfl
theorem spec_l15Place.bits1 : waitsOk spec_l15Place.T1.2 spec_l15Place.B1 = true := by kernel_rfl
theorem spec_l15Place.n0 {P_ : Prop} (h_ : P_ := by refine ov_ 9 (fun K hK => ?_); refine apr02_ B9_0 ab ak al ((.int .i64 0)) 8 st Tryd.underlying22 (gt_ st) ?_ (hl := by have := bD.out; simp only [List.length_nil] at this; omega); clear st cl; intro P12 q12 w_ st; have cl := cl_ st; refine hK.out _ _ st.en (fun hs => ?_); clear hK K; refine nr_ 12 ?_; refine pv_ 10 ?_; refine lv_ 11 (fun K hK => ?_); refine sp3_ st ?_; clear st cl; intro w_ st; have cl := cl_ st; refine hK.out _ _ ?_; clear hK K; refine done_ (done_of HT_.out (by kernel_rfl)) ?_; (try go_wp2_with (first | ((with_reducible refine gate_dst (N := 1) rfl ?_); refine al_ st ?_; clear st cl; intro g1 w_ st; have cl := cl_ st) | ((with_reducible refine gate_dst (N := 2) rfl ?_); refine al_ st ?_; clear st cl; intro g2 w_ st; have cl := cl_ st))); (refine bodyPost_ret (rcc_ st Tryd.underlying31) rfl ?_; exact ⟨.slice P6 aa.length q6, .slice P12 ab.length q12, tw_, (tap_ st P6 aa P12 ab).1, (tap_ st P6 aa P12 ab).2, st.b⟩)) : P_ := h_
theorem spec_l15Place.n1 {P_ : Prop} (h_ : P_ := by refine ov_ 3 (fun K hK => ?_); refine apr02_ B3_0 aa ah ai ((.int .i64 0)) 8 st Tryd.underlying22 (gt_ st) ?_ (hl := by have := bu.out; simp only [List.length_nil] at this; omega); clear st cl; intro P6 q6 w_ st; have cl := cl_ st; refine hK.out _ _ st.en (fun hs => ?_); clear hK K; refine nr_ 6 ?_; exact spec_l15Place.n0) : P_ := h_
theorem spec_l15Place.calls (ah : Option Addr) (ai : Nat) (aa : List Int) (a0_1 : Int) (ak : Option Addr) (al : Nat) (ab : List Int) (r1 : List Int) (r2 : Int) (r3 : List Int) (w : World) (hr0_0 : Kd.C (Kd.int .i64) w ah aa.length aa) (hc0_0 : aa.length ≤ ai) (hr0_2 : Kd.C (Kd.int .i64) w ak ab.length ab) (hc0_2 : ab.length ≤ al) (h : spec_l15Place.f aa a0_1 ab = some (r1, r2, r3)) :
  Calls Tryd.prog 45 #[.agg #[.slice ah aa.length ai, .int .i64 a0_1, .slice ak ab.length al]] w fun e w' => ∃ v0_ v2_ : Value, e = .returned (.agg #[v0_, .int .i64 r2, v2_]) ∧ Kd.R (Kd.int .i64) 3 w' w.heap.size (fun k_ => some k_ ≠ (v2_ : Value).ownBlock) v0_ r1 ∧ Kd.R (Kd.int .i64) 3 w' w.heap.size (fun k_ => some k_ ≠ (v0_ : Value).ownBlock) v2_ r3 ∧ Below w.heap.size w w' := by
 have hu31 := Tryd.underlying31; have st := ((ST.nil w).c hr0_0 hc0_0).c hr0_2 hc0_2; have s0 := st; have cl := cl_ st; have H := h; clear h; unfold spec_l15Place.f at H; go_enter Tryd.func45, Tryd.ntmps45; replace H := sm_ H; (try dsimp only at H); replace H := il_ H; obtain ⟨bu, H⟩ := H; (try simp only [List.nil_append] at H); replace H := sm_ H; (try dsimp only at H); replace H := il_ H; obtain ⟨bD, H⟩ := H; (try simp only [List.nil_append] at H); simp only [Option.some.injEq, Prod.mk.injEq] at H; obtain ⟨rfl, rfl, rfl⟩ := H; (try go_wp2_with (first | ((with_reducible refine gate_dst (N := 1) rfl ?_); refine al_ st ?_; clear st cl; intro g1 w_ st; have cl := cl_ st) | ((with_reducible refine gate_dst (N := 2) rfl ?_); refine al_ st ?_; clear st cl; intro g2 w_ st; have cl := cl_ st))); (refine rg_ st [11] ?_; clear st cl; intro w_ st hs; have cl := cl_ st; refine with_tabW spec_l15Place.tab1 spec_l15Place.bits1 (fun HT_ HW_ => ?_); refine pv_ 1 ?_; refine pv_ 4 ?_; refine pv_ 7 ?_; refine tu_ 2 ?_; refine tu_ 5 ?_; refine tu_ 8 ?_; refine wv_ 0 6 (fun K hK => ?_) (fun K hK => ?_); refine nwl2_ (Kd.int .i64) 3 (([] : List Int) : List Int) [] st ?_; clear st cl; intro B3_0 d3_0 w_ st; have cl := cl_ st; refine hK.out _ _ st.en (fun hs => ?_); clear hK K; refine nr_ 3 ?_; refine wv_ 3 6 (fun K hK => ?_) (fun K hK => ?_); refine apr02_ B3_0 aa ah ai ((.int .i64 0)) 8 st Tryd.underlying22 (gt_ st) ?_ (hl := by have := bu.out; simp only [List.length_nil] at this; omega); clear st cl; intro P6 q6 w_ st; have cl := cl_ st; refine hK.out _ _ st.en (fun hs => ?_); clear hK K; refine nr_ 6 ?_; refine ov_ 6 (fun K hK => ?_); refine nwl2_ (Kd.int .i64) 3 (([] : List Int) : List Int) [] st ?_; clear st cl; intro B9_0 d9_0 w_ st; have cl := cl_ st; refine hK.out _ _ st.en (fun hs => ?_); clear hK K; refine nr_ 9 ?_; exact spec_l15Place.n0; refine nwl2_ (Kd.int .i64) 3 (([] : List Int) : List Int) [] st ?_; clear st cl; intro B9_0 d9_0 w_ st; have cl := cl_ st; refine hK.out _ _ st.en (fun hs => ?_); clear hK K; refine nr_ 9 ?_; exact spec_l15Place.n1; refine nwl2_ (Kd.int .i64) 3 (([] : List Int) : List Int) [] st ?_; clear st cl; intro B9_0 d9_0 w_ st; have cl := cl_ st; refine hK.out _ _ st.en (fun hs => ?_); clear hK K; refine nr_ 9 ?_; refine ov_ 0 (fun K hK => ?_); refine nwl2_ (Kd.int .i64) 3 (([] : List Int) : List Int) [] st ?_; clear st cl; intro B3_0 d3_0 w_ st; have cl := cl_ st; refine hK.out _ _ st.en (fun hs => ?_); clear hK K; refine nr_ 3 ?_; exact spec_l15Place.n1)
end Go.Proofs.YtmodbemkflkbeaaDoor.MFnExactDeskRun
