/- For the law FnExactStoreOpen: walks of the functions that it reaches: each call returns what the plain function beside it tells. The conditions stand in each statement. -/
import Derived.Test.YtmodbemkflkbeaaGreatDoorV
import Derived.Test.YtmodbemkflkbeaaGreatDoorMFnExactStoreOpenx0
import Derived.Test.YtmodbemkflkbeaaGreatDoorMFnExactStoreOpenx9
import Derived.Test.YtmodbemkflkbeaaGreatDoorMFnExactStoreOpenx10
namespace Go.Proofs.YtmodbemkflkbeaaGreatDoor.MFnExactStoreOpen
open Go.RowKit Go.Proofs.YtmodbemkflkbeaaGreatDoorW.PrintWords Go.Proofs.YtmodbemkflkbeaaGreatDoorW.PrintLast Go.Proofs.YtmodbemkflkbeaaGreatDoorW.PrintMore
attribute [local go_sem] max2_int min2_int max_two min_two max_three min_three max_four min_four   -- for this text's walks alone
set_option linter.unusedVariables false
set_option linter.unusedSimpArgs false
set_option maxHeartbeats 8000000
set_option maxRecDepth 100000

/-! ### impl_ReadPlace: function 31 -/
mutual
def impl_ReadPlace.l0 : Nat → ByteArray → List ByteArray → List ByteArray → Int → Int → List Int → Int → Option (List Int × Int × List Int × Bool)
 | 0, _, _, _, _, _, _, _ => none
 | k + 1, x0, x4, x21, x22, x23, ai, an => if x23 < x22 then (if 0 ≤ x23 then (if x23 < (x21.length : Int) then ((strconv_Atoi.f (rdOf ByteArray.empty x21 x23)).bind fun aK => (if aK.2.isNone = true then (if (ai.length : Int) > 3 then (some (([] : List Int), 0, ([] : List Int), false)) else (if ai.length < 17592186044416 then (impl_ReadPlace.l0 k x0 x4 x21 x22 (wrap64 (x23 + 1)) (ai ++ [aK.1]) an) else (none))) else (some (([] : List Int), 0, ([] : List Int), false)))) else (none)) else (none)) else (if 1 < (x4.length : Int) then ((strconv_Atoi.f (rdOf ByteArray.empty x4 1)).bind fun aA => (if 2 < (x4.length : Int) then (if (rdOf ByteArray.empty x4 2).toList = ([46] : List UInt8) then ((impl_PlaceText.f k ai aA.1 ([] : List Int)).bind fun ar => (if ar.toList = x0.toList then (some (ai, aA.1, ([] : List Int), true)) else (some (([] : List Int), 0, ([] : List Int), false)))) else (impl_ReadPlace.l1 k x0 x4 ((rdOf ByteArray.empty x4 2).size : Int) 0 ai aA.1 ([] : List Int))) else (none))) else (none))
def impl_ReadPlace.l1 : Nat → ByteArray → List ByteArray → Int → Int → List Int → Int → List Int → Option (List Int × Int × List Int × Bool)
 | 0, _, _, _, _, _, _, _ => none
 | k + 1, x0, x4, x63, x64, ai, an, aq => if x64 < x63 then (if 2 < (x4.length : Int) then (if 0 ≤ x64 then (if x64 < ((rdOf ByteArray.empty x4 2).size : Int) then (if aq.length < 17592186044416 then (impl_ReadPlace.l1 k x0 x4 x63 (wrap64 (x64 + 1)) ai an (aq ++ [wrap64 ((wrap64 (bt (rdOf ByteArray.empty x4 2) x64)) - 97)])) else (none)) else (none)) else (none)) else (none)) else ((impl_PlaceText.f k ai an aq).bind fun au => (if au.toList = x0.toList then (some (ai, an, aq, true)) else (some (([] : List Int), 0, ([] : List Int), false))))
end
def impl_ReadPlace.f (k : Nat) (a0 : ByteArray) : Option (List Int × Int × List Int × Bool) := (strings_Split.f a0 (⟨#[32]⟩ : ByteArray)).bind fun ab => (if (ab.length : Int) = 3 then (if 0 < (ab.length : Int) then ((strings_Split.f (rdOf ByteArray.empty ab 0) (⟨#[44]⟩ : ByteArray)).bind fun ap => (impl_ReadPlace.l0 k a0 ab ap (ap.length : Int) 0 ([] : List Int) 0)) else (none)) else (some (([] : List Int), 0, ([] : List Int), false)))
theorem impl_ReadPlace.mono_l : ∀ k, (∀ y0 y1 y2 y3 y4 y5 y6, LeO (impl_ReadPlace.l0 k y0 y1 y2 y3 y4 y5 y6) (impl_ReadPlace.l0 (k + 1) y0 y1 y2 y3 y4 y5 y6)) ∧ (∀ y0 y1 y2 y3 y4 y5 y6, LeO (impl_ReadPlace.l1 k y0 y1 y2 y3 y4 y5 y6) (impl_ReadPlace.l1 (k + 1) y0 y1 y2 y3 y4 y5 y6))
 | 0 => ⟨fun _ _ _ _ _ _ _ r h => by simp [impl_ReadPlace.l0] at h, fun _ _ _ _ _ _ _ r h => by simp [impl_ReadPlace.l1] at h⟩
 | k + 1 => by
  obtain ⟨ih0, ih1⟩ := impl_ReadPlace.mono_l k
  refine ⟨?_, ?_⟩
  ·
   intro y0 y1 y2 y3 y4 y5 y6
   unfold impl_ReadPlace.l0
   repeat' (with_reducible first | exact ih0 _ _ _ _ _ _ _ | exact ih1 _ _ _ _ _ _ _ | exact impl_PlaceText.mono _ _ _ _ | exact mr_ | exact mn_ | refine mi_ ?_ ?_ | refine mb_ ?_ (fun _ => ?_))
  ·
   intro y0 y1 y2 y3 y4 y5 y6
   unfold impl_ReadPlace.l1
   repeat' (with_reducible first | exact ih0 _ _ _ _ _ _ _ | exact ih1 _ _ _ _ _ _ _ | exact impl_PlaceText.mono _ _ _ _ | exact mr_ | exact mn_ | refine mi_ ?_ ?_ | refine mb_ ?_ (fun _ => ?_))
theorem impl_ReadPlace.mono : ∀ a0 k, LeO (impl_ReadPlace.f k a0) (impl_ReadPlace.f (k + 1) a0) := by
 intro a0 k; obtain ⟨ih0, ih1⟩ := impl_ReadPlace.mono_l k; unfold impl_ReadPlace.f; repeat' (with_reducible first | exact ih0 _ _ _ _ _ _ _ | exact ih1 _ _ _ _ _ _ _ | exact impl_PlaceText.mono _ _ _ _ | exact mr_ | exact mn_ | refine mi_ ?_ ?_ | refine mb_ ?_ (fun _ => ?_))
def impl_ReadPlace.T18 : Bool × List (List Nat × List Nat) := (true, [([], []), ([0], [0]), ([], []), ([2], [2]), ([3], [3]), ([], []), ([4, 5], [4, 5]), ([6], [6]), ([7], [7]), ([8], [8]), ([1, 9], [1, 9]), ([0, 1, 2, 3, 4, 5, 6, 7, 8, 9, 10], []), ([11, 10, 10, 0, 1, 2, 3, 4, 5, 6, 7, 8, 9, 10], [10, 11])])
def impl_ReadPlace.B18 : List Nat := [0, 1, 0, 4, 12, 0, 60, 124, 252, 508, 1023, 2047, 4095]
theorem impl_ReadPlace.tab18 : rtab .any (opsOf Tryz.f31 18) = impl_ReadPlace.T18 := by kernel_rfl
theorem impl_ReadPlace.bits18 : waitsOk impl_ReadPlace.T18.2 impl_ReadPlace.B18 = true := by kernel_rfl
theorem impl_ReadPlace.z0 {P_ : Prop} (h_ : P_ := by (try go_wp2_with (first | ((with_reducible refine gate_callee (f := 46) rfl ?_); refine ca_ (some 81) Tryz.func46 _ (impl_PlaceText.calls k2 ac ae _ _ af aj _ _ _ (gtl_ st) (gtl_ st) (gtl_ st) (gtl_ st) (GWb.below HG.out st.b) A_81.out) ?_; rintro e w_ ⟨rfl, hb⟩; refine ⟨_, rfl, ?_⟩; replace st := st.ev hb; clear cl hb; have cl := cl_ st) | ((with_reducible refine gate_store (p := 2) rfl ?_); refine so3_ st ?_; clear st cl; intro w_ st; have cl := cl_ st))); (all_goals (try ((try clear ix_); obtain ⟨p_, q_, ad_540, e_540, x0⟩ := a2_ (Kd.at_string (gC_ st Kd.string B12_0 ab) 2); have ix540 := ix1_ Tryz.underlying52 e_540 p_ q_ (c := d12_0); (try simp only [Addr.add, Int.reduceToNat, Nat.reduceMul, Nat.reduceEqDiff, ↓reduceIte] at ix540); replace e_540 := A_ e_540; clear x0; refine rg_ st [12] ?_; clear st cl; intro w_ st hs; have cl := cl_ st; refine with_tabW impl_ReadPlace.tab18 impl_ReadPlace.bits18 (fun HT_ HW_ => ?_); refine pv_ 0 ?_; refine pv_ 2 ?_; refine pv_ 3 ?_; refine pv_ 5 ?_; refine tu_ 1 ?_; refine tu_ 4 ?_ (hy := by intro w' s_; have cl := cl_ s_; obtain ⟨_, _, _, e_, x0⟩ := a2_ (Kd.at_string (gC_ s_ Kd.string B12_0 ab) 2); rw [cq_ e_540.out e_] at x0; (try simp only [Addr.add, Int.reduceToNat, Nat.reduceMul, Nat.reduceEqDiff, ↓reduceIte] at x0); clear e_; go_simp; first | with_reducible rfl | (rw [if_neg (by omega)]; done)); refine pv_ 6 ?_; refine pv_ 7 ?_; refine pv_ 8 ?_; refine ov_ 9 (fun K hK => ?_); refine bs2_ st [.int .i64 (wrap64 ((wrap64 (bt (rdOf ByteArray.empty ab 2) ah)) - 97))] 3 ?_; refine hK.out _ _ (st.ev (la_ (Below.refl _ _) _)).en (fun hs => ?_); clear hK K; refine nr_ 76 ?_; refine ov_ 10 (fun K hK => ?_); refine ap2_ af ad (wrap64 ((wrap64 (bt (rdOf ByteArray.empty ab 2) ah)) - 97)) [.int .i64 (wrap64 ((wrap64 (bt (rdOf ByteArray.empty ab 2) ah)) - 97))] ((.int .i64 0)) 8 st Tryz.underlying25 ?_ (hl := by have := aU.out; omega); clear st cl; intro P77 q77 w_ st; have cl := cl_ st; refine hK.out _ _ st.en (fun hs => ?_); clear hK K; refine nr_ 77 ?_; refine pv_ 11 ?_; refine lv_ 12 (fun K hK => ?_); refine sp1_ st ?_; clear st cl; intro w_ st; have cl := cl_ st; refine hK.out _ _ ?_; clear hK K; refine done_ (done_of HT_.out (by kernel_rfl)) ?_; clear ix540; all_goals (try go_wp2_with (first | ((with_reducible refine gate_callee (f := 46) rfl ?_); refine ca_ (some 81) Tryz.func46 _ (impl_PlaceText.calls k2 ac ae _ _ af aj _ _ _ (gtl_ st) (gtl_ st) (gtl_ st) (gtl_ st) (GWb.below HG.out st.b) A_81.out) ?_; rintro e w_ ⟨rfl, hb⟩; refine ⟨_, rfl, ?_⟩; replace st := st.ev hb; clear cl hb; have cl := cl_ st) | ((with_reducible refine gate_store (p := 2) rfl ?_); refine so3_ st ?_; clear st cl; intro w_ st; have cl := cl_ st)))))); first | (go_roundg k2; (case measure => have := HK1.out; have := HK2.out; omega); (case rel => exact ⟨(wrap64 (ah + 1)), ((ad ++ [wrap64 ((wrap64 (bt (rdOf ByteArray.empty ab 2) ah)) - 97)])), P77, q77, tx_, H', ⟨by have := HK1.out; have := HK2.out; omega⟩, (by (try simp only [List.length_append, List.length_cons, List.length_nil, Nat.zero_add] at st ⊢); exact st.en)⟩)) | (refine bodyPost_ret (rct_ st Tryz.underlying27) rfl ?_; exact ⟨.slice ac aa.length ae, .slice af ad.length aj, tw_, (tap_ st ac aa af ad).1, (tap_ st ac aa af ad).2, st.b⟩) | (refine bodyPost_ret (rct_ st Tryz.underlying27) rfl ?_; exact ⟨.slice none 0 0, .slice none 0 0, tw_, kn_, kn_, st.b⟩)) : P_ := h_
theorem impl_ReadPlace.z1 {P_ : Prop} (h_ : P_ := by go_wp2_with (first | ((with_reducible refine gate_dst (N := 25) rfl ?_); (try clear ix_); obtain ⟨p_, q_, ad_, e_, x0⟩ := a2_ (Kd.at_string (gC_ st Kd.string B21_0 ap) al); have ix_ := ix1_ Tryz.underlying52 e_ p_ q_ (c := d21_0); clear e_; go_step) | ((with_reducible refine gate_callee (f := 45) rfl ?_); refine ca_ (some 29) Tryz.func45 _ (strconv_Atoi.calls _ _ _ _ (GWb.below HG.out st.b) A_29.out) ?_; rintro e w_ ⟨N_, rfl, hb⟩; refine ⟨_, rfl, ?_⟩; replace st := st.ev hb; clear cl hb; have cl := cl_ st) | ((with_reducible refine gate_store (p := 2) rfl ?_); refine so3_ st ?_; clear st cl; intro w_ st; have cl := cl_ st) | ((with_reducible refine gate_dst (N := 45) rfl ?_); refine ap_ ac aa aN [.int .i64 aN] ((.int .i64 0)) 8 st Tryz.underlying25 ?_ (hl := by have := be.out; omega); clear st cl; intro P45 q45 w_ st; have cl := cl_ st) | ((with_reducible refine gate_store (p := 46) rfl ?_); refine so1_ st ?_; clear st cl; intro w_ st; have cl := cl_ st) | ((with_reducible refine gate_dst (N := 50) rfl ?_); (try clear ix_); obtain ⟨p_, q_, ad_, e_, x0⟩ := a2_ (Kd.at_string (gC_ st Kd.string B12_0 ab) 1); have ix_ := ix1_ Tryz.underlying52 e_ p_ q_ (c := d12_0); clear e_; (try simp only [Addr.add, Int.reduceToNat, Nat.reduceMul, Nat.reduceEqDiff, ↓reduceIte] at ix_ x0); go_step) | ((with_reducible refine gate_callee (f := 45) rfl ?_); refine ca_ (some 52) Tryz.func45 _ (strconv_Atoi.calls _ _ _ _ (GWb.below HG.out st.b) A_52.out) ?_; rintro e w_ ⟨N_, rfl, hb⟩; refine ⟨_, rfl, ?_⟩; replace st := st.ev hb; clear cl hb; have cl := cl_ st) | ((with_reducible refine gate_store (p := 55) rfl ?_); refine so1_ st ?_; clear st cl; intro w_ st; have cl := cl_ st) | ((with_reducible refine gate_dst (N := 57) rfl ?_); (try clear ix_); obtain ⟨p_, q_, ad_, e_, x0⟩ := a2_ (Kd.at_string (gC_ st Kd.string B12_0 ab) 2); have ix_ := ix1_ Tryz.underlying52 e_ p_ q_ (c := d12_0); clear e_; (try simp only [Addr.add, Int.reduceToNat, Nat.reduceMul, Nat.reduceEqDiff, ↓reduceIte] at ix_ x0); go_step) | ((with_reducible refine gate_callee (f := 46) rfl ?_); refine ca_ (some 81) Tryz.func46 _ (impl_PlaceText.calls k1 ac ae _ _ none 0 _ _ _ (gtl_ st) (gtl_ st) (Kd.C_nil _ _) (Nat.le_refl 0) (GWb.below HG.out st.b) A_81.out) ?_; rintro e w_ ⟨rfl, hb⟩; refine ⟨_, rfl, ?_⟩; replace st := st.ev hb; clear cl hb; have cl := cl_ st)); first | (refine bodyPost_ret (rct_ st Tryz.underlying27) rfl ?_; exact ⟨.slice none 0 0, .slice none 0 0, tw_, kn_, kn_, st.b⟩) | (go_roundg k1; (case measure => have := HK1.out; omega); (case rel => exact ⟨(wrap64 (al + 1)), (am), ((aa ++ [aN])), P45, q45, tx_, H', ⟨by have := HK1.out; omega⟩, (by (try simp only [List.length_append, List.length_cons, List.length_nil, Nat.zero_add] at st ⊢); exact (((st.nl (Kd.int .i64) 3).nl (Kd.int .i64) 3).nl (Kd.int .i64) 3).en)⟩)) | (refine bodyPost_ret (rct_ st Tryz.underlying27) rfl ?_; exact ⟨.slice ac aa.length ae, .slice none 0 0, tw_, nn_ (gtl_ st), kn_, st.b⟩)) : P_ := h_
theorem impl_ReadPlace.calls (k : Nat) (a0 : ByteArray) (r1 : List Int) (r2 : Int) (r3 : List Int) (r4 : Bool) (w : World) (hG : GWb w) (h : impl_ReadPlace.f k a0 = some (r1, r2, r3, r4)) :
  Calls Tryz.prog 31 #[.string a0] w fun e w' => ∃ v0_ v2_ : Value, e = .returned (.tuple #[.agg #[v0_, .int .i64 r2, v2_], .bool r4]) ∧ Kd.R (Kd.int .i64) 3 w' w.heap.size (fun k_ => some k_ ≠ (v2_ : Value).ownBlock) v0_ r1 ∧ Kd.R (Kd.int .i64) 3 w' w.heap.size (fun k_ => some k_ ≠ (v0_ : Value).ownBlock) v2_ r3 ∧ Below w.heap.size w w' := by
 have HG := A_ hG; clear hG; have hu27 := Tryz.underlying27; have hu73 := Tryz.underlying73; have st := ST.nil w; have s0 := st; have cl := cl_ st; have H := h; clear h; unfold impl_ReadPlace.f at H; go_enter Tryz.func31, Tryz.ntmps31; obtain ⟨ab, A_12, H⟩ := bnd_ H; by_cases c2 : (ab.length : Int) = 3
 ·
  rw [if_pos c2] at H; have aO : ((ab.length : Int) == 3) = true := beq_iff_eq.mpr c2; have aP : ((ab.length : Int) != 3) = false := bne_eq_false_iff_eq.mpr c2; clear c2; replace H := i0_ H; obtain ⟨c3, H⟩ := H; have aG : decide (0 < (ab.length : Int)) = true := decide_eq_true c3; have bu : decide (0 < ab.length) = true := decide_eq_true (by omega); clear c3; obtain ⟨ap, A_21, H⟩ := bnd_ H; have H' := A_ H; clear H; go_wp2_with (first | ((with_reducible refine gate_dst (N := 2) rfl ?_); refine al_ st ?_; clear st cl; intro g2 w_ st; have cl := cl_ st) | ((with_reducible refine gate_callee (f := 44) rfl ?_); refine ca_ (some 12) Tryz.func44 _ (strings_Split.calls _ _ _ _ (GWb.below HG.out st.b) A_12.out) ?_; rintro e w_ ⟨v0, rfl, h0, hb⟩; refine ⟨_, rfl, ?_⟩; obtain ⟨B12_0, d12_0, rfl⟩ := Kd.R_slice h0; replace st := st.p1 hb (st.mr h0); clear cl hb h0; have cl := cl_ st) | ((with_reducible refine gate_dst (N := 5) rfl ?_); refine al_ st ?_; clear st cl; intro g5 w_ st; have cl := cl_ st) | ((with_reducible refine gate_store (p := 5) rfl ?_); refine so3_ st ?_; clear st cl; intro w_ st; have cl := cl_ st) | ((with_reducible refine gate_dst (N := 19) rfl ?_); (try clear ix_); obtain ⟨p_, q_, ad_, e_, x0⟩ := a2_ (Kd.at_string (gC_ st Kd.string B12_0 ab) 0); have ix_ := ix1_ Tryz.underlying52 e_ p_ q_ (c := d12_0); clear e_; (try simp only [Addr.add, Int.reduceToNat, Nat.reduceMul, Nat.reduceEqDiff, ↓reduceIte] at ix_ x0); go_step) | ((with_reducible refine gate_callee (f := 44) rfl ?_); refine ca_ (some 21) Tryz.func44 _ (strings_Split.calls _ _ _ _ (GWb.below HG.out st.b) A_21.out) ?_; rintro e w_ ⟨v0, rfl, h0, hb⟩; refine ⟨_, rfl, ?_⟩; obtain ⟨B21_0, d21_0, rfl⟩ := Kd.R_slice h0; replace st := st.p1 hb (st.mr h0); clear cl hb h0; have cl := cl_ st))
  go_loopg [23] k (fun kq bv w' => ∃ (al : Int) (am : Int) (aa : List Int) (ac : Option Addr) (ae : Nat), bv = .int .i64 al ∧ Aside0 (impl_ReadPlace.l0 kq a0 ab ap (ap.length : Int) al aa 0 = some (r1, r2, r3, r4)) ∧ Aside0 (kq ≤ k) ∧ ST w [AR Kd.string 9 w.heap.size (.slice B12_0 ab.length d12_0) ab, AR Kd.string 9 w.heap.size (.slice B21_0 ap.length d21_0) ap] [AR (Kd.int .i64) 3 w.heap.size (.slice none 0 0) ([] : List Int), AR (Kd.int .i64) 3 w.heap.size (.slice none 0 0) ([] : List Int), AR (Kd.int .i64) 3 w.heap.size (.slice ac aa.length ae) aa, AR (Kd.int .i64) 3 w.heap.size (.slice none 0 0) ([] : List Int), Bx g2 #[.slice none 0 0, .int .i64 am, .slice none 0 0] 27, Bx g5 #[.slice ac aa.length ae, .int .i64 0, .slice none 0 0] 27] w')
  case atStart => exact ⟨(0), (0), (([] : List Int)), none, 0, tx_, H', ⟨Nat.le_refl _⟩, ((((st.nl (Kd.int .i64) 3).nl (Kd.int .i64) 3).nl (Kd.int .i64) 3).nl (Kd.int .i64) 3).en⟩
  case round =>
   clear H' st cl; obtain ⟨al, am, aa, ac, ae, rfl, HA, HK1, st⟩ := hrel; have cl := cl_ st
   cases gk with
   | zero => exact absurd HA.out (by simp [impl_ReadPlace.l0])
   | succ k1 =>
    have H := HA.out; clear HA; simp only [impl_ReadPlace.l0] at H; replace H := it_ H; rcases H with ⟨aH, H⟩ | ⟨aH, H⟩
    ·
     replace H := in_ H; obtain ⟨aI, H⟩ := H; replace H := in_ H; obtain ⟨bf, H⟩ := H; obtain ⟨⟨aN, bg⟩, A_29, H⟩ := bnd_ H; (try dsimp only at H); rcases bg with _ | q530
     ·
      rw [if_pos (show (none : Option Int).isNone = true by rfl)] at H; have er_ := errW_none; by_cases c8 : (aa.length : Int) > 3
      ·
       rw [if_pos c8] at H; have aQ : decide (3 < (aa.length : Int)) = true := decide_eq_true c8; have aR : decide (3 < aa.length) = true := decide_eq_true (by omega); clear c8; simp only [Option.some.injEq, Prod.mk.injEq] at H; obtain ⟨rfl, rfl, rfl, rfl⟩ := H; exact impl_ReadPlace.z1
      ·
       rw [if_neg c8] at H; have aQ : decide (3 < (aa.length : Int)) = false := decide_eq_false c8; have aR : decide (3 < aa.length) = false := decide_eq_false (by omega); clear c8; replace H := il_ H; obtain ⟨be, H⟩ := H; have H' := A_ H; clear H; exact impl_ReadPlace.z1
     ·
      rw [if_neg (show ¬ (some q530).isNone = true by simp)] at H; have er_ := errW_some; simp only [Option.some.injEq, Prod.mk.injEq] at H; obtain ⟨rfl, rfl, rfl, rfl⟩ := H; exact impl_ReadPlace.z1
    ·
     replace H := i0_ H; obtain ⟨c10, H⟩ := H; have aV : decide (1 < (ab.length : Int)) = true := decide_eq_true c10; have aW : decide (1 < ab.length) = true := decide_eq_true (by omega); clear c10; obtain ⟨⟨aX, bw⟩, A_52, H⟩ := bnd_ H; (try dsimp only at H); replace H := i0_ H; obtain ⟨c11, H⟩ := H; have aY : decide (2 < (ab.length : Int)) = true := decide_eq_true c11; have aZ : decide (2 < ab.length) = true := decide_eq_true (by omega); clear c11; by_cases c12 : (rdOf ByteArray.empty ab 2).toList = ([46] : List UInt8)
     ·
      rw [if_pos c12] at H; have aB : ((rdOf ByteArray.empty ab 2).toList == ([46] : List UInt8)) = true := beq_iff_eq.mpr c12; have aC : ((rdOf ByteArray.empty ab 2).toList != ([46] : List UInt8)) = false := bne_eq_false_iff_eq.mpr c12; clear c12; obtain ⟨ar, A_81, H⟩ := bnd_ H; by_cases c13 : ar.toList = a0.toList
      ·
       rw [if_pos c13] at H; have aD : (ar.toList == a0.toList) = true := beq_iff_eq.mpr c13; have aE : (ar.toList != a0.toList) = false := bne_eq_false_iff_eq.mpr c13; clear c13; simp only [Option.some.injEq, Prod.mk.injEq] at H; obtain ⟨rfl, rfl, rfl, rfl⟩ := H; exact impl_ReadPlace.z1
      ·
       rw [if_neg c13] at H; have aD : (ar.toList == a0.toList) = false := beq_eq_false_iff_ne.mpr c13; have aE : (ar.toList != a0.toList) = true := bne_iff_ne.mpr c13; simp only [Option.some.injEq, Prod.mk.injEq] at H; obtain ⟨rfl, rfl, rfl, rfl⟩ := H; exact impl_ReadPlace.z1
     ·
      rw [if_neg c12] at H; have aB : ((rdOf ByteArray.empty ab 2).toList == ([46] : List UInt8)) = false := beq_eq_false_iff_ne.mpr c12; have aC : ((rdOf ByteArray.empty ab 2).toList != ([46] : List UInt8)) = true := bne_iff_ne.mpr c12; have H' := A_ H; clear H; go_wp2_with (first | ((with_reducible refine gate_dst (N := 50) rfl ?_); (try clear ix_); obtain ⟨p_, q_, ad_, e_, x0⟩ := a2_ (Kd.at_string (gC_ st Kd.string B12_0 ab) 1); have ix_ := ix1_ Tryz.underlying52 e_ p_ q_ (c := d12_0); clear e_; (try simp only [Addr.add, Int.reduceToNat, Nat.reduceMul, Nat.reduceEqDiff, ↓reduceIte] at ix_ x0); go_step) | ((with_reducible refine gate_callee (f := 45) rfl ?_); refine ca_ (some 52) Tryz.func45 _ (strconv_Atoi.calls _ _ _ _ (GWb.below HG.out st.b) A_52.out) ?_; rintro e w_ ⟨N_, rfl, hb⟩; refine ⟨_, rfl, ?_⟩; replace st := st.ev hb; clear cl hb; have cl := cl_ st) | ((with_reducible refine gate_store (p := 55) rfl ?_); refine so1_ st ?_; clear st cl; intro w_ st; have cl := cl_ st) | ((with_reducible refine gate_dst (N := 57) rfl ?_); (try clear ix_); obtain ⟨p_, q_, ad_, e_, x0⟩ := a2_ (Kd.at_string (gC_ st Kd.string B12_0 ab) 2); have ix_ := ix1_ Tryz.underlying52 e_ p_ q_ (c := d12_0); clear e_; (try simp only [Addr.add, Int.reduceToNat, Nat.reduceMul, Nat.reduceEqDiff, ↓reduceIte] at ix_ x0); go_step) | ((with_reducible refine gate_dst (N := 61) rfl ?_); (try clear ix_); obtain ⟨p_, q_, ad_, e_, x0⟩ := a2_ (Kd.at_string (gC_ st Kd.string B12_0 ab) 2); have ix_ := ix1_ Tryz.underlying52 e_ p_ q_ (c := d12_0); clear e_; (try simp only [Addr.add, Int.reduceToNat, Nat.reduceMul, Nat.reduceEqDiff, ↓reduceIte] at ix_ x0); go_step))
      go_loopg [64] k1 (fun kq bx w' => ∃ (ah : Int) (ad : List Int) (af : Option Addr) (aj : Nat), bx = .int .i64 ah ∧ Aside0 (impl_ReadPlace.l1 kq a0 ab ((rdOf ByteArray.empty ab 2).size : Int) ah aa aX ad = some (r1, r2, r3, r4)) ∧ Aside0 (kq ≤ k1) ∧ ST w [AR Kd.string 9 w.heap.size (.slice B12_0 ab.length d12_0) ab] [AR (Kd.int .i64) 3 w.heap.size (.slice ac aa.length ae) aa, AR (Kd.int .i64) 3 w.heap.size (.slice af ad.length aj) ad, Bx g2 #[.slice none 0 0, .int .i64 am, .slice none 0 0] 27, Bx g5 #[.slice ac aa.length ae, .int .i64 aX, .slice af ad.length aj] 27] w')
      case atStart => exact ⟨(0), (([] : List Int)), none, 0, tx_, H', ⟨Nat.le_refl _⟩, (st.nl (Kd.int .i64) 3).en⟩
      case round =>
       clear H' st cl; obtain ⟨ah, ad, af, aj, rfl, HA, HK2, st⟩ := hrel; have cl := cl_ st
       cases gk with
       | zero => exact absurd HA.out (by simp [impl_ReadPlace.l1])
       | succ k2 =>
        have H := HA.out; clear HA; simp only [impl_ReadPlace.l1] at H; replace H := it_ H; rcases H with ⟨aF, H⟩ | ⟨aF, H⟩
        ·
         replace H := i0_ H; obtain ⟨c16, H⟩ := H; have a3 : decide (2 < (ab.length : Int)) = true := decide_eq_true c16; have a4 : decide (2 < ab.length) = true := decide_eq_true (by omega); clear c16; replace H := in_ H; obtain ⟨aL, H⟩ := H; replace H := in_ H; obtain ⟨aM, H⟩ := H; have y19a : (0 ≤ (ah : Int)) = True := eq_true (by first | exact od_ | omega); have y19b : ((ah : Int) < ((rdOf ByteArray.empty ab 2).size : Int)) = True := eq_true (by first | exact od_ | omega); have y19x := bt_at (rdOf ByteArray.empty ab 2) ah; replace H := il_ H; obtain ⟨aU, H⟩ := H; have H' := A_ H; clear H; exact impl_ReadPlace.z0
        ·
         obtain ⟨au, A_81, H⟩ := bnd_ H; by_cases c21 : au.toList = a0.toList
         ·
          rw [if_pos c21] at H; have a5 : (au.toList == a0.toList) = true := beq_iff_eq.mpr c21; have a6 : (au.toList != a0.toList) = false := bne_eq_false_iff_eq.mpr c21; clear c21; simp only [Option.some.injEq, Prod.mk.injEq] at H; obtain ⟨rfl, rfl, rfl, rfl⟩ := H; exact impl_ReadPlace.z0
         ·
          rw [if_neg c21] at H; have a5 : (au.toList == a0.toList) = false := beq_eq_false_iff_ne.mpr c21; have a6 : (au.toList != a0.toList) = true := bne_iff_ne.mpr c21; simp only [Option.some.injEq, Prod.mk.injEq] at H; obtain ⟨rfl, rfl, rfl, rfl⟩ := H; exact impl_ReadPlace.z0
 ·
  rw [if_neg c2] at H; have aO : ((ab.length : Int) == 3) = false := beq_eq_false_iff_ne.mpr c2; have aP : ((ab.length : Int) != 3) = true := bne_iff_ne.mpr c2; simp only [Option.some.injEq, Prod.mk.injEq] at H; obtain ⟨rfl, rfl, rfl, rfl⟩ := H; go_wp2_with (first | ((with_reducible refine gate_dst (N := 2) rfl ?_); refine al_ st ?_; clear st cl; intro g2 w_ st; have cl := cl_ st) | ((with_reducible refine gate_callee (f := 44) rfl ?_); refine ca_ (some 12) Tryz.func44 _ (strings_Split.calls _ _ _ _ (GWb.below HG.out st.b) A_12.out) ?_; rintro e w_ ⟨v0, rfl, h0, hb⟩; refine ⟨_, rfl, ?_⟩; obtain ⟨B12_0, d12_0, rfl⟩ := Kd.R_slice h0; replace st := st.p1 hb (st.mr h0); clear cl hb h0; have cl := cl_ st) | ((with_reducible refine gate_store (p := 2) rfl ?_); refine so3_ st ?_; clear st cl; intro w_ st; have cl := cl_ st)); refine bodyPost_ret (rct_ st Tryz.underlying27) rfl ?_; exact ⟨.slice none 0 0, .slice none 0 0, tw_, kn_, kn_, st.b⟩

/-! ### impl_StoreOk: function 15 -/
def impl_StoreOk.f (k : Nat) (a0_0 : ByteArray) (a0_1 : ByteArray) (a0_2 : Int) : Option (Bool) := (impl_ReadPlace.f k a0_0).bind fun a7 => (if a7.2.2.2 = true then (if (a0_1.size : Int) ≤ 1000 then (if a0_2 ≥ 0 then (some (decide (a0_2 ≤ (a0_1.size : Int)))) else (some false)) else (some false)) else (some false))
theorem impl_StoreOk.mono : ∀ a0 a1 a2 k, LeO (impl_StoreOk.f k a0 a1 a2) (impl_StoreOk.f (k + 1) a0 a1 a2) := by
 intro a0 a1 a2 k; unfold impl_StoreOk.f; repeat' (with_reducible first | exact impl_ReadPlace.mono _ _ | exact mr_ | exact mn_ | refine mi_ ?_ ?_ | refine mb_ ?_ (fun _ => ?_))
theorem impl_StoreOk.z0 {P_ : Prop} (h_ : P_ := by go_wp2_with (first | ((with_reducible refine gate_dst (N := 1) rfl ?_); refine al_ st ?_; clear st cl; intro g1 w_ st; have cl := cl_ st) | ((with_reducible refine gate_callee (f := 31) rfl ?_); refine ca_ (some 8) Tryz.func31 _ (impl_ReadPlace.calls k _ _ _ _ _ _ (GWb.below HG.out st.b) A_8.out) ?_; rintro e w_ ⟨v0, v1, rfl, h0, h1, hb⟩; refine ⟨_, rfl, ?_⟩; obtain ⟨B8_0, d8_0, rfl⟩ := Kd.R_slice h0; obtain ⟨B8_2, d8_2, rfl⟩ := Kd.R_slice h1; replace st := st.p2 hb (st.mr h0) (st.mr h1); clear cl hb h0 h1; have cl := cl_ st) | ((with_reducible refine gate_dst (N := 3) rfl ?_); refine al_ st ?_; clear st cl; intro g3 w_ st; have cl := cl_ st) | ((with_reducible refine gate_store (p := 3) rfl ?_); refine so3_ st ?_; clear st cl; intro w_ st; have cl := cl_ st)); (go_ret; exact ⟨tw_, st.b⟩)) : P_ := h_
theorem impl_StoreOk.calls (k : Nat) (a0_0 : ByteArray) (a0_1 : ByteArray) (a0_2 : Int) (r : Bool) (w : World) (hG : GWb w) (h : impl_StoreOk.f k a0_0 a0_1 a0_2 = some r) :
  Calls Tryz.prog 15 #[.agg #[.string a0_0, .string a0_1, .int .i64 a0_2]] w fun e w' => e = .returned (.bool r) ∧ Below w.heap.size w w' := by
 have HG := A_ hG; clear hG; have hu33 := Tryz.underlying33; have hu27 := Tryz.underlying27; have st := ST.nil w; have s0 := st; have cl := cl_ st; have H := h; clear h; unfold impl_StoreOk.f at H; go_enter Tryz.func15, Tryz.ntmps15; obtain ⟨⟨bz, bB, bC, bh⟩, A_8, H⟩ := bnd_ H; (try dsimp only at H); rcases bx_ bh with rfl | rfl
 ·
  replace H := bt_ H; by_cases c2 : (a0_1.size : Int) ≤ 1000
  ·
   rw [if_pos c2] at H; have aO : decide ((a0_1.size : Int) ≤ 1000) = true := decide_eq_true c2; have aP : decide (a0_1.size ≤ 1000) = true := decide_eq_true (by omega); clear c2; replace H := ih_ H; rcases H with ⟨aG, H⟩ | ⟨aG, H⟩
   ·
    obtain rfl := Option.some.inj H; exact impl_StoreOk.z0
   ·
    obtain rfl := Option.some.inj H; exact impl_StoreOk.z0
  ·
   rw [if_neg c2] at H; have aO : decide ((a0_1.size : Int) ≤ 1000) = false := decide_eq_false c2; have aP : decide (a0_1.size ≤ 1000) = false := decide_eq_false (by omega); clear c2; obtain rfl := Option.some.inj H; exact impl_StoreOk.z0
 ·
  replace H := bf_ H; obtain rfl := Option.some.inj H; exact impl_StoreOk.z0

/-! ### strings_Cut: function 47 -/
def strings_Cut.f (a0 : ByteArray) (a1 : ByteArray) : Option (ByteArray × ByteArray × Bool) := if a0.size < 4294967281 then some (⟨(Lib.cut a0.data.toList a1.data.toList).1.toArray⟩, ⟨(Lib.cut a0.data.toList a1.data.toList).2.1.toArray⟩, (Lib.cut a0.data.toList a1.data.toList).2.2) else none
theorem strings_Cut.calls (a0 : ByteArray) (a1 : ByteArray) (r1 : ByteArray) (r2 : ByteArray) (r3 : Bool) (w : World) (hG : GWb w) (h : strings_Cut.f a0 a1 = some (r1, r2, r3)) :
  Calls Tryz.prog 47 #[.string a0, .string a1] w fun e w' => e = .returned (.tuple #[.string r1, .string r2, .bool r3]) ∧ Drawn0 w w' := by
 unfold strings_Cut.f at h; split at h
 ·
  rename_i hb; simp only [Option.some.injEq, Prod.mk.injEq] at h; obtain ⟨rfl, rfl, rfl⟩ := h; exact (Sh.Tryz.strings_Cut_shaped a0 a1 w hG.shape hb).mono fun e w' ⟨he, m, hw⟩ => ⟨he, ⟨m, hw⟩⟩
 ·
  cases h

/-! ### slices_Index_string_string: function 63 -/
def slices_Index_string_string.l0 : Nat → List ByteArray → ByteArray → Int → Int → Option (Int)
 | 0, _, _, _, _ => none
 | k + 1, x0, x1, x7, x8 => if x8 < x7 then (if 0 ≤ x8 then (if x8 < (x0.length : Int) then (if x1.toList = (rdOf ByteArray.empty x0 x8).toList then (some x8) else (slices_Index_string_string.l0 k x0 x1 x7 (wrap64 (x8 + 1)))) else (none)) else (none)) else (some (-1))
def slices_Index_string_string.f (k : Nat) (l0 : List ByteArray) (a1 : ByteArray) : Option (Int) := slices_Index_string_string.l0 k l0 a1 (l0.length : Int) 0
theorem slices_Index_string_string.mono_l : ∀ k, (∀ y0 y1 y2 y3, LeO (slices_Index_string_string.l0 k y0 y1 y2 y3) (slices_Index_string_string.l0 (k + 1) y0 y1 y2 y3))
 | 0 => fun _ _ _ _ r h => by simp [slices_Index_string_string.l0] at h
 | k + 1 => by
  have ih0 := slices_Index_string_string.mono_l k
  ·
   intro y0 y1 y2 y3
   unfold slices_Index_string_string.l0
   repeat' (with_reducible first | exact ih0 _ _ _ _ | exact mr_ | exact mn_ | refine mi_ ?_ ?_ | refine mb_ ?_ (fun _ => ?_))
theorem slices_Index_string_string.mono : ∀ a0 a1 k, LeO (slices_Index_string_string.f k a0 a1) (slices_Index_string_string.f (k + 1) a0 a1) := by
 intro a0 a1 k; have ih0 := slices_Index_string_string.mono_l k; unfold slices_Index_string_string.f; repeat' (with_reducible first | exact ih0 _ _ _ _ | exact mr_ | exact mn_ | refine mi_ ?_ ?_ | refine mb_ ?_ (fun _ => ?_))
theorem slices_Index_string_string.calls (k : Nat) (A0 : Option Addr) (c0 : Nat) (l0 : List ByteArray) (a1 : ByteArray) (r : Int) (w : World) (hr0 : Kd.C Kd.string w A0 l0.length l0) (hc0 : l0.length ≤ c0) (h : slices_Index_string_string.f k l0 a1 = some r) :
  Calls Tryz.prog 63 #[.slice A0 l0.length c0, .string a1] w fun e w' => e = .returned (.int .i64 r) ∧ Drawn0 w w' := by
 have HR0 := A_ hr0; have HC0 := A_ hc0; clear hr0 hc0; have H : (slices_Index_string_string.l0 k l0 a1 (l0.length : Int) 0) = some r := h; clear h; have H' := A_ H; clear H; go_enter Tryz.func63, Tryz.ntmps63; go_wp2
 go_loopg [8] k (fun kq v8 w' => ∃ (ak : Int), v8 = .int .i64 ak ∧ Aside0 (slices_Index_string_string.l0 kq l0 a1 (l0.length : Int) ak = some r) ∧ Aside0 (kq ≤ k) ∧ Drawn0 w w')
 case atStart => exact ⟨(0), tx_, H', ⟨Nat.le_refl _⟩, dz_⟩
 case round =>
  clear H'; obtain ⟨ak, rfl, HA, HK1, ⟨m1, rfl⟩⟩ := hrel
  cases gk with
  | zero => exact absurd HA.out (by simp [slices_Index_string_string.l0])
  | succ k1 =>
   have H := HA.out; clear HA; simp only [slices_Index_string_string.l0] at H; replace H := it_ H; rcases H with ⟨aG, H⟩ | ⟨aG, H⟩
   ·
    replace H := in_ H; obtain ⟨az, H⟩ := H; replace H := in_ H; obtain ⟨aH, H⟩ := H; by_cases c6 : a1.toList = (rdOf ByteArray.empty l0 ak).toList
    ·
     rw [if_pos c6] at H; have aI : (a1.toList == (rdOf ByteArray.empty l0 ak).toList) = true := beq_iff_eq.mpr c6; have bi : (a1.toList != (rdOf ByteArray.empty l0 ak).toList) = false := bne_eq_false_iff_eq.mpr c6; clear c6; obtain rfl := Option.some.inj H; obtain ⟨p555, q555, ad555, e555, aJ⟩ := a2_ (Kd.at_string HR0.out ak); cases e555; go_wp2; go_ret; exact ⟨tx_, dz_⟩
    ·
     rw [if_neg c6] at H; have aI : (a1.toList == (rdOf ByteArray.empty l0 ak).toList) = false := beq_eq_false_iff_ne.mpr c6; have bi : (a1.toList != (rdOf ByteArray.empty l0 ak).toList) = true := bne_iff_ne.mpr c6; have H' := A_ H; clear H; obtain ⟨p555, q555, ad555, e555, aJ⟩ := a2_ (Kd.at_string HR0.out ak); cases e555; go_wp2
     go_roundg k1
     case measure => have := HK1.out; omega
     case rel => exact ⟨(wrap64 (ak + 1)), tx_, H', ⟨by have := HK1.out; omega⟩, dz_⟩
   ·
    obtain rfl := Option.some.inj H; go_wp2; go_ret; exact ⟨tx_, dz_⟩

/-! ### impl_DeedText: function 64 -/
def impl_DeedText.j0 : Nat → Bool → Int → Int → Int → Option (ByteArray)
 | 0, _, _, _, _ => none
 | k + 1, x21, ao, aw, ax => if x21 = true then (some (⟨#[]⟩ : ByteArray)) else ((strconv_Itoa.f aw).bind fun ag => (if 1 + ag.size ≤ 9223372036854775807 then (if ao = 0 then (if 3 + ((⟨#[32]⟩ : ByteArray) ++ ag).size ≤ 9223372036854775807 then (if ((⟨#[112, 117, 116]⟩ : ByteArray) ++ ((⟨#[32]⟩ : ByteArray) ++ ag)).size + 1 ≤ 9223372036854775807 then ((strconv_Itoa.f ax).bind fun av => (if (((⟨#[112, 117, 116]⟩ : ByteArray) ++ ((⟨#[32]⟩ : ByteArray) ++ ag)) ++ (⟨#[32]⟩ : ByteArray)).size + av.size ≤ 9223372036854775807 then (some ((((⟨#[112, 117, 116]⟩ : ByteArray) ++ ((⟨#[32]⟩ : ByteArray) ++ ag)) ++ (⟨#[32]⟩ : ByteArray)) ++ av)) else (none))) else (none)) else (none)) else (if ax = 0 then (if ao = 1 then (if 4 + ((⟨#[32]⟩ : ByteArray) ++ ag).size ≤ 9223372036854775807 then (some ((⟨#[115, 116, 101, 112]⟩ : ByteArray) ++ ((⟨#[32]⟩ : ByteArray) ++ ag))) else (none)) else (if ao = 2 then (if 4 + ((⟨#[32]⟩ : ByteArray) ++ ag).size ≤ 9223372036854775807 then (some ((⟨#[100, 114, 97, 119]⟩ : ByteArray) ++ ((⟨#[32]⟩ : ByteArray) ++ ag))) else (none)) else (if aw = 0 then (if ao = 3 then (some (⟨#[97, 103, 97, 105, 110]⟩ : ByteArray)) else (if ao = 4 then (some (⟨#[98, 97, 99, 107]⟩ : ByteArray)) else (some (⟨#[]⟩ : ByteArray)))) else (some (⟨#[]⟩ : ByteArray))))) else (some (⟨#[]⟩ : ByteArray)))) else (none)))
def impl_DeedText.f (k : Nat) (a0_0 : Int) (a0_1 : Int) (a0_2 : Int) : Option (ByteArray) := if a0_1 < (-99) then (impl_DeedText.j0 k true a0_0 a0_1 a0_2) else (if a0_1 > 99 then (impl_DeedText.j0 k true a0_0 a0_1 a0_2) else (if a0_2 < (-99) then (impl_DeedText.j0 k true a0_0 a0_1 a0_2) else (impl_DeedText.j0 k (decide (a0_2 > 99)) a0_0 a0_1 a0_2)))
theorem impl_DeedText.mono_l : ∀ k, (∀ y0 y1 y2 y3, LeO (impl_DeedText.j0 k y0 y1 y2 y3) (impl_DeedText.j0 (k + 1) y0 y1 y2 y3))
 | 0 => fun _ _ _ _ r h => by simp [impl_DeedText.j0] at h
 | k + 1 => by
  have ih0 := impl_DeedText.mono_l k
  ·
   intro y0 y1 y2 y3
   unfold impl_DeedText.j0
   repeat' (with_reducible first | exact ih0 _ _ _ _ | exact mr_ | exact mn_ | refine mi_ ?_ ?_ | refine mb_ ?_ (fun _ => ?_))
theorem impl_DeedText.mono : ∀ a0 a1 a2 k, LeO (impl_DeedText.f k a0 a1 a2) (impl_DeedText.f (k + 1) a0 a1 a2) := by
 intro a0 a1 a2 k; have ih0 := impl_DeedText.mono_l k; unfold impl_DeedText.f; repeat' (with_reducible first | exact ih0 _ _ _ _ | exact mr_ | exact mn_ | refine mi_ ?_ ?_ | refine mb_ ?_ (fun _ => ?_))
theorem impl_DeedText.z0 {P_ : Prop} (h_ : P_ := by go_wp2_with (first | ((with_reducible refine gate_callee (f := 61) rfl ?_); refine ca_ (some 24) Tryz.func61 _ (strconv_Itoa.calls _ _ _ (GWb.below HG.out st.b) A_24.out) ?_; rintro e w_ ⟨rfl, hb⟩; refine ⟨_, rfl, ?_⟩; replace st := st.ev hb; clear cl hb; have cl := cl_ st) | ((with_reducible refine gate_callee (f := 61) rfl ?_); refine ca_ (some 35) Tryz.func61 _ (strconv_Itoa.calls _ _ _ (GWb.below HG.out st.b) A_35.out) ?_; rintro e w_ ⟨rfl, hb⟩; refine ⟨_, rfl, ?_⟩; replace st := st.ev hb; clear cl hb; have cl := cl_ st)); (go_ret; exact ⟨tw_, st.b⟩)) : P_ := h_
theorem impl_DeedText.calls (k : Nat) (a0_0 : Int) (a0_1 : Int) (a0_2 : Int) (r : ByteArray) (w : World) (hG : GWb w) (h : impl_DeedText.f k a0_0 a0_1 a0_2 = some r) :
  Calls Tryz.prog 64 #[.agg #[.int .i64 a0_0, .int .i64 a0_1, .int .i64 a0_2]] w fun e w' => e = .returned (.string r) ∧ Below w.heap.size w w' := by
 have HG := A_ hG; clear hG; have hu57 := Tryz.underlying57; have st := ST.nil w; have s0 := st; have cl := cl_ st; have H := h; clear h; unfold impl_DeedText.f at H; go_enter Tryz.func64, Tryz.ntmps64; have HC3 := A_ H; clear H
 go_upto_region 1 with (first | ((with_reducible refine gate_dst (N := 1) rfl ?_); refine al_ st ?_; clear st cl; intro g1 w_ st; have cl := cl_ st))
 (try simp only [Act.put, sa_, sb_, sc_])
 go_cut [21] (fun bD wc => ∃ (kq : Nat) (ay : Bool), bD = .bool ay ∧ Aside0 (impl_DeedText.j0 kq ay a0_0 a0_1 a0_2 = some r) ∧ Aside0 (kq ≤ k) ∧ ST w [] [Bx g1 #[.int .i64 a0_0, .int .i64 a0_1, .int .i64 a0_2] 57] wc)
 case first =>
  have H := HC3.out; clear HC3; replace H := it_ H; rcases H with ⟨az, H⟩ | ⟨az, H⟩
  ·
   (first | rw [az] | (simp only [i64_w, i32_w]; rw [az]) | skip); have H' := A_ H; clear H; go_wp2; go_meet
   case rel => exact ⟨_, (true), tx_, H', ⟨by first | omega | exact Nat.le_refl _⟩, st.en⟩
  ·
   (first | rw [az] | (simp only [i64_w, i32_w]; rw [az]) | skip); replace H := ig_ H; rcases H with ⟨aH, H⟩ | ⟨aH, H⟩
   ·
    have H' := A_ H; clear H; go_wp2; go_meet
    case rel => exact ⟨_, (true), tx_, H', ⟨by first | omega | exact Nat.le_refl _⟩, st.en⟩
   ·
    replace H := it_ H; rcases H with ⟨aI, H⟩ | ⟨aI, H⟩
    ·
     have H' := A_ H; clear H; go_wp2; go_meet
     case rel => exact ⟨_, (true), tx_, H', ⟨by first | omega | exact Nat.le_refl _⟩, st.en⟩
    ·
     have H' := A_ H; clear H; go_wp2; go_meet
     case rel => exact ⟨_, (decide (a0_2 > 99)), tx_, H', ⟨by first | omega | exact Nat.le_refl _⟩, st.en⟩
 case rest =>
  clear HC3 st cl; obtain ⟨kq, ay, rfl, HA, HJ2, st⟩ := hcut; have cl := cl_ st
  cases kq with
  | zero => exact absurd HA.out (by simp [impl_DeedText.j0])
  | succ kj2 =>
   have H := HA.out; clear HA; simp only [impl_DeedText.j0] at H; rcases bx_ ay with rfl | rfl
   ·
    replace H := bt_ H; obtain rfl := Option.some.inj H; exact impl_DeedText.z0
   ·
    replace H := bf_ H; obtain ⟨ag, A_24, H⟩ := bnd_ H; replace H := i0_ H; obtain ⟨c7, H⟩ := H; have bf := eq_true c7; have bE : decide (1 + ag.size ≤ 9223372036854775807) = true := decide_eq_true c7; (try have bF : (9223372036854775807 < 1 + ag.size) = False := eq_false (Nat.not_lt.2 c7)); by_cases c8 : a0_0 = 0
    ·
     rw [if_pos c8] at H; have aQ : (a0_0 == 0) = true := beq_iff_eq.mpr c8; have aR : (a0_0 != 0) = false := bne_eq_false_iff_eq.mpr c8; clear c8; replace H := i0_ H; obtain ⟨c9, H⟩ := H; have bG := eq_true c9; have bH : decide (3 + ((⟨#[32]⟩ : ByteArray) ++ ag).size ≤ 9223372036854775807) = true := decide_eq_true c9; (try have bI : (9223372036854775807 < 3 + ((⟨#[32]⟩ : ByteArray) ++ ag).size) = False := eq_false (Nat.not_lt.2 c9)); (try have bJ : (9223372036854775807 < 3 + (1 + ag.size)) = False := eq_false (by have h := c9; simp only [ByteArray.size_append] at h; simp only [ByteArray.size] at h ⊢; simp at h ⊢; omega)); replace H := i0_ H; obtain ⟨c10, H⟩ := H; have aV := eq_true c10; have aW : decide (((⟨#[112, 117, 116]⟩ : ByteArray) ++ ((⟨#[32]⟩ : ByteArray) ++ ag)).size + 1 ≤ 9223372036854775807) = true := decide_eq_true c10; (try have bj : (9223372036854775807 < ((⟨#[112, 117, 116]⟩ : ByteArray) ++ ((⟨#[32]⟩ : ByteArray) ++ ag)).size + 1) = False := eq_false (Nat.not_lt.2 c10)); (try have bk : (9223372036854775807 < 3 + (1 + ag.size) + 1) = False := eq_false (by have h := c10; simp only [ByteArray.size_append] at h; simp only [ByteArray.size] at h ⊢; simp at h ⊢; omega)); obtain ⟨av, A_35, H⟩ := bnd_ H; replace H := i0_ H; obtain ⟨c11, H⟩ := H; have aY := eq_true c11; have aZ : decide ((((⟨#[112, 117, 116]⟩ : ByteArray) ++ ((⟨#[32]⟩ : ByteArray) ++ ag)) ++ (⟨#[32]⟩ : ByteArray)).size + av.size ≤ 9223372036854775807) = true := decide_eq_true c11; (try have bl : (9223372036854775807 < (((⟨#[112, 117, 116]⟩ : ByteArray) ++ ((⟨#[32]⟩ : ByteArray) ++ ag)) ++ (⟨#[32]⟩ : ByteArray)).size + av.size) = False := eq_false (Nat.not_lt.2 c11)); (try have bm : (9223372036854775807 < 3 + (1 + ag.size) + 1 + av.size) = False := eq_false (by have h := c11; simp only [ByteArray.size_append] at h; simp only [ByteArray.size] at h ⊢; simp at h ⊢; omega)); obtain rfl := Option.some.inj H; exact impl_DeedText.z0
    ·
     rw [if_neg c8] at H; have aQ : (a0_0 == 0) = false := beq_eq_false_iff_ne.mpr c8; have aR : (a0_0 != 0) = true := bne_iff_ne.mpr c8; by_cases c12 : a0_2 = 0
     ·
      rw [if_pos c12] at H; have aB : (a0_2 == 0) = true := beq_iff_eq.mpr c12; have aC : (a0_2 != 0) = false := bne_eq_false_iff_eq.mpr c12; clear c12; by_cases c13 : a0_0 = 1
      ·
       rw [if_pos c13] at H; have aD : (a0_0 == 1) = true := beq_iff_eq.mpr c13; have aE : (a0_0 != 1) = false := bne_eq_false_iff_eq.mpr c13; clear c13; replace H := i0_ H; obtain ⟨c14, H⟩ := H; have bn := eq_true c14; have bo : decide (4 + ((⟨#[32]⟩ : ByteArray) ++ ag).size ≤ 9223372036854775807) = true := decide_eq_true c14; (try have bp : (9223372036854775807 < 4 + ((⟨#[32]⟩ : ByteArray) ++ ag).size) = False := eq_false (Nat.not_lt.2 c14)); (try have bq : (9223372036854775807 < 4 + (1 + ag.size)) = False := eq_false (by have h := c14; simp only [ByteArray.size_append] at h; simp only [ByteArray.size] at h ⊢; simp at h ⊢; omega)); obtain rfl := Option.some.inj H; exact impl_DeedText.z0
      ·
       rw [if_neg c13] at H; have aD : (a0_0 == 1) = false := beq_eq_false_iff_ne.mpr c13; have aE : (a0_0 != 1) = true := bne_iff_ne.mpr c13; by_cases c15 : a0_0 = 2
       ·
        rw [if_pos c15] at H; have aF : (a0_0 == 2) = true := beq_iff_eq.mpr c15; have a8 : (a0_0 != 2) = false := bne_eq_false_iff_eq.mpr c15; clear c15; replace H := i0_ H; obtain ⟨c16, H⟩ := H; have a3 := eq_true c16; have a4 : decide (4 + ((⟨#[32]⟩ : ByteArray) ++ ag).size ≤ 9223372036854775807) = true := decide_eq_true c16; (try have br : (9223372036854775807 < 4 + ((⟨#[32]⟩ : ByteArray) ++ ag).size) = False := eq_false (Nat.not_lt.2 c16)); (try have bs : (9223372036854775807 < 4 + (1 + ag.size)) = False := eq_false (by have h := c16; simp only [ByteArray.size_append] at h; simp only [ByteArray.size] at h ⊢; simp at h ⊢; omega)); obtain rfl := Option.some.inj H; exact impl_DeedText.z0
       ·
        rw [if_neg c15] at H; have aF : (a0_0 == 2) = false := beq_eq_false_iff_ne.mpr c15; have a8 : (a0_0 != 2) = true := bne_iff_ne.mpr c15; by_cases c17 : a0_1 = 0
        ·
         rw [if_pos c17] at H; have aL : (a0_1 == 0) = true := beq_iff_eq.mpr c17; have a9 : (a0_1 != 0) = false := bne_eq_false_iff_eq.mpr c17; clear c17; by_cases c18 : a0_0 = 3
         ·
          rw [if_pos c18] at H; have aM : (a0_0 == 3) = true := beq_iff_eq.mpr c18; have bb : (a0_0 != 3) = false := bne_eq_false_iff_eq.mpr c18; clear c18; obtain rfl := Option.some.inj H; exact impl_DeedText.z0
         ·
          rw [if_neg c18] at H; have aM : (a0_0 == 3) = false := beq_eq_false_iff_ne.mpr c18; have bb : (a0_0 != 3) = true := bne_iff_ne.mpr c18; by_cases c19 : a0_0 = 4
          ·
           rw [if_pos c19] at H; have bc : (a0_0 == 4) = true := beq_iff_eq.mpr c19; have bd : (a0_0 != 4) = false := bne_eq_false_iff_eq.mpr c19; clear c19; obtain rfl := Option.some.inj H; exact impl_DeedText.z0
          ·
           rw [if_neg c19] at H; have bc : (a0_0 == 4) = false := beq_eq_false_iff_ne.mpr c19; have bd : (a0_0 != 4) = true := bne_iff_ne.mpr c19; obtain rfl := Option.some.inj H; exact impl_DeedText.z0
        ·
         rw [if_neg c17] at H; have aL : (a0_1 == 0) = false := beq_eq_false_iff_ne.mpr c17; have a9 : (a0_1 != 0) = true := bne_iff_ne.mpr c17; obtain rfl := Option.some.inj H; exact impl_DeedText.z0
     ·
      rw [if_neg c12] at H; have aB : (a0_2 == 0) = false := beq_eq_false_iff_ne.mpr c12; have aC : (a0_2 != 0) = true := bne_iff_ne.mpr c12; obtain rfl := Option.some.inj H; exact impl_DeedText.z0
end Go.Proofs.YtmodbemkflkbeaaGreatDoor.MFnExactStoreOpen
