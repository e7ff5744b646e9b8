/- For the law FnDeskRun: walks of the functions that it reaches: each call returns what the plain function beside it tells. The conditions stand in each statement. -/
import Derived.Test.YtfacponjomafcaaDoorV
import Derived.Test.YtfacponjomafcaaDoorMFnDeskRunx0
import Derived.Test.YtfacponjomafcaaDoorMFnDeskRunx2
namespace Go.Proofs.YtfacponjomafcaaDoor.MFnDeskRun
open Go.RowKit Go.Proofs.YtfacponjomafcaaDoorW.PrintWords Go.Proofs.YtfacponjomafcaaDoorW.PrintLast Go.Proofs.YtfacponjomafcaaDoorW.PrintMore
attribute [local go_sem] max2_int min2_int max_two min_two max_three min_three max_four min_four   -- for this text's walks alone
set_option linter.unusedVariables false
set_option linter.unusedSimpArgs false
set_option maxHeartbeats 8000000
set_option maxRecDepth 100000

/-! ### impl_added: function 60 -/
def impl_added.l0 : Nat → List Int → List Int → Int → Int → Option (List Int)
 | 0, _, _, _, _ => none
 | k + 1, x5, x10, x11, x12 => if x12 < x11 then (if 0 ≤ x12 then (if x12 < (x10.length : Int) then (if x12 < (x5.length : Int) then (impl_added.l0 k (x5.set (x12 : Int).toNat (wrap64 ((rd x5 x12) + (rd x10 x12)))) x10 x11 (wrap64 (x12 + 1))) else (none)) else (none)) else (none)) else (some x5)
def impl_added.f (k : Nat) (l0 : List Int) (l1 : List Int) : Option (List Int) := (slices_Clone_int_int.f l0).bind fun ax => (impl_added.l0 k ax l1 (l1.length : Int) 0)
theorem impl_added.mono_l : ∀ k, (∀ y0 y1 y2 y3, LeO (impl_added.l0 k y0 y1 y2 y3) (impl_added.l0 (k + 1) y0 y1 y2 y3))
 | 0 => fun _ _ _ _ r h => by simp [impl_added.l0] at h
 | k + 1 => by
  have ih0 := impl_added.mono_l k
  ·
   intro y0 y1 y2 y3
   unfold impl_added.l0
   repeat' (with_reducible first | exact ih0 _ _ _ _ | exact mr_ | exact mn_ | refine mi_ ?_ ?_ | refine mb_ ?_ (fun _ => ?_))
theorem impl_added.mono : ∀ a0 a1 k, LeO (impl_added.f k a0 a1) (impl_added.f (k + 1) a0 a1) := by
 intro a0 a1 k; have ih0 := impl_added.mono_l k; unfold impl_added.f; repeat' (with_reducible first | exact ih0 _ _ _ _ | exact mr_ | exact mn_ | refine mi_ ?_ ?_ | refine mb_ ?_ (fun _ => ?_))
theorem impl_added.calls (k : Nat) (A0 : Option Addr) (c0 : Nat) (l0 : List Int) (A1 : Option Addr) (c1 : Nat) (l1 : List Int) (r : List Int) (w : World) (hr0 : Kd.C (Kd.int .i64) w A0 l0.length l0) (hc0 : l0.length ≤ c0) (hr1 : Kd.C (Kd.int .i64) w A1 l1.length l1) (hc1 : l1.length ≤ c1) (h : impl_added.f k l0 l1 = some r) :
  Calls Tryd.prog 60 #[.slice A0 l0.length c0, .slice A1 l1.length c1] w fun e w' => ∃ v0_ : Value, e = .returned (v0_) ∧ Kd.R (Kd.int .i64) 3 w' w.heap.size (fun _ => True) v0_ r ∧ Below w.heap.size w w' := by
 have HR0 := A_ hr0; have HC0 := A_ hc0; clear hr0 hc0; have HR1 := A_ hr1; have HC1 := A_ hc1; clear hr1 hc1; have HB := A_ (Below.refl w.heap.size w); have H : ((slices_Clone_int_int.f l0).bind fun ax => (impl_added.l0 k ax l1 (l1.length : Int) 0)) = some r := h; clear h; obtain ⟨ax, A3, H⟩ := bnd_ H; (try dsimp only at H); have H' := A_ H; clear H; go_enter Tryd.func60, Tryd.ntmps60; go_wp2_with (first | ((with_reducible refine gate_callee (f := 46) rfl ?_); refine gl_ (some 9) Tryd.func46 #[.slice A0 l0.length c0] ?_; (with_reducible refine (slices_Clone_int_int.calls _ _ l0 ax _ ?s1 ?s2 A3.out).mono ?_); (case s1 => exact td_); (case s2 => exact HC0.out); rintro e w4 ⟨bc, rfl, ho0, hb⟩; refine ⟨_, rfl, ?_⟩; have aW := rx_ ho0 HB; replace HB := bs_ HB hb; (try clear hb ho0)))
 go_loopg [12] k (fun kq bd w' => ∃ (ah : List Int) (aa : Int), bd = .int .i64 aa ∧ Aside0 (impl_added.l0 kq ah l1 (l1.length : Int) aa = some r) ∧ Aside0 (kq ≤ k) ∧ Aside0 (Kd.R (Kd.int .i64) 3 w' w.heap.size (fun _ => True) bc ah) ∧ Aside0 (Below w.heap.size w w'))
 case atStart => exact ⟨(ax), (0), tx_, H', ⟨Nat.le_refl _⟩, ⟨rR_ aW.out⟩, ⟨(tb_ HB.out)⟩⟩
 case round =>
  clear H'; obtain ⟨ah, aa, rfl, HA, HK1, ao, HB⟩ := hrel
  cases gk with
  | zero => exact absurd HA.out (by simp [impl_added.l0])
  | succ k1 =>
   have H := HA.out; clear HA; simp only [impl_added.l0] at H; replace H := it_ H; rcases H with ⟨ap, H⟩ | ⟨ap, H⟩
   ·
    replace H := in_ H; obtain ⟨aD, H⟩ := H; replace H := in_ H; obtain ⟨aX, H⟩ := H; replace H := in_ H; obtain ⟨aY, H⟩ := H; obtain ⟨aM, aE⟩ : ∃ y_ : List Int, y_ = (ah.set (aa : Int).toNat (wrap64 ((rd ah aa) + (rd l1 aa)))) := ⟨_, rfl⟩
    replace H : (impl_added.l0 k1 aM l1 (l1.length : Int) (wrap64 (aa + 1))) = some r := yq_ aE H; have aZ := A_ aE; clear aE; have H' := A_ H; clear H; obtain ⟨p129, q129, ad129, e129, aj⟩ := a2_ (Kd.at_int HR1.out aa); cases e129; replace aj := (HB.out.cell (World.block_lt_of_cell? w _ aj)).trans aj; obtain ⟨bs, be, bf⟩ := Kd.R_slice ao.out; subst bf; obtain ⟨p130, q130, ad130, e130, aF⟩ := a2_ (Kd.at_int (Kd.R_reads' ao.out).2.2 aa); cases e130; have p9 : 0 ≤ (aa : Int) := od_; have q9 : (aa : Int) < ((ah.length : Int) : Int) := od_; obtain ⟨go9, co9, bo, bp, gl9, cl9, HG9⟩ := Kd.R_form ao.out (by omega); (first | cases bo | (injection bo with ea_ en_ ec_; (first | subst ea_ | (injection ea_ with ea_; subst ea_)); subst ec_; clear en_)); have GB9 := A_ bp; have GG9 := A_ HG9; clear bp gl9 HG9; (first | simp only [add_plain] at aF | skip); obtain ⟨bq, hf9_0⟩ := Kd.R_celln 0 ao.out (aa : Int) p9 q9; replace p9 := eq_true p9; replace q9 := eq_true q9; have HP11 := Kd.R_putg ao.out (aa : Int) (wrap64 ((rd ah aa) + (rd l1 aa))); go_wp2_with (first | ((with_reducible refine gate_store (t := 3) (p := 23) rfl ?_); refine store_event (t := 3) (p := 23) (v := ?vo_w12) (w1 := (wr.setCell ⟨go9, (aa : Int).toNat, none⟩ (.int .i64 (wrap64 ((rd ah aa) + (rd l1 aa)))))) ?hg ?ho ?hn ?hr ?_; (case ho => rfl); (case hg => rfl); (case hn => rfl); (case hr => first | (go_simp; done) | (go_simp; rfl)); intro bg hw; have hg : wr.grownBy bg (some go9) := (by rw [hw]; exact HP11.2); have hp_ : Kd.R (Kd.int .i64) 3 bg w.heap.size (fun _ => True) (.slice (some ⟨go9, 0, none⟩) ah.length be) aM := (by rw [hw, aZ.out]; exact HP11.1); clear HP11; replace ao := A_ (hp_); replace HB := A_ ((by rw [hw]; exact below_set (HB.out) GB9.out : Below w.heap.size w bg)); clear hg hw hp_))
    go_roundg k1
    case measure => have := HK1.out; omega
    case rel => exact ⟨(aM), (wrap64 (aa + 1)), tx_, H', ⟨by have := HK1.out; omega⟩, ⟨rR_ ao.out⟩, ⟨(tb_ HB.out)⟩⟩
   ·
    obtain rfl := Option.some.inj H; go_wp2; go_ret; exact ⟨_, tw_, by refine qR_ ?_; exact ao.out, (tb_ HB.out)⟩

/-! ### impl_after: function 38 -/
def impl_after.l0 : Nat → List (List Int) → List Int → List Int → Int → Int → Option (List Int)
 | 0, _, _, _, _, _ => none
 | k + 1, x1, x7, x12, x13, x14 => if x14 < x13 then (if 0 ≤ x14 then (if x14 < (x12.length : Int) then (if 0 ≤ (rd x12 x14) then (if (rd x12 x14) < (x1.length : Int) then ((impl_added.f k x7 (rd_L1 x1 (rd x12 x14))).bind fun aG => (impl_after.l0 k x1 aG x12 x13 (wrap64 (x14 + 1)))) else (none)) else (none)) else (none)) else (none)) else (some x7)
def impl_after.f (k : Nat) (l0 : List Int) (l1 : List (List Int)) (l2 : List Int) : Option (List Int) := (slices_Clone_int_int.f l0).bind fun ay => (impl_after.l0 k l1 ay l2 (l2.length : Int) 0)
theorem impl_after.mono_l : ∀ k, (∀ y0 y1 y2 y3 y4, LeO (impl_after.l0 k y0 y1 y2 y3 y4) (impl_after.l0 (k + 1) y0 y1 y2 y3 y4))
 | 0 => fun _ _ _ _ _ r h => by simp [impl_after.l0] at h
 | k + 1 => by
  have ih0 := impl_after.mono_l k
  ·
   intro y0 y1 y2 y3 y4
   unfold impl_after.l0
   repeat' (with_reducible first | exact ih0 _ _ _ _ _ | exact impl_added.mono _ _ _ | exact mr_ | exact mn_ | refine mi_ ?_ ?_ | refine mb_ ?_ (fun _ => ?_))
theorem impl_after.mono : ∀ a0 a1 a2 k, LeO (impl_after.f k a0 a1 a2) (impl_after.f (k + 1) a0 a1 a2) := by
 intro a0 a1 a2 k; have ih0 := impl_after.mono_l k; unfold impl_after.f; repeat' (with_reducible first | exact ih0 _ _ _ _ _ | exact impl_added.mono _ _ _ | exact mr_ | exact mn_ | refine mi_ ?_ ?_ | refine mb_ ?_ (fun _ => ?_))
theorem impl_after.calls (k : Nat) (A0 : Option Addr) (c0 : Nat) (l0 : List Int) (A1 : Option Addr) (c1 : Nat) (l1 : List (List Int)) (A2 : Option Addr) (c2 : Nat) (l2 : List Int) (r : List Int) (w : World) (hr0 : Kd.C (Kd.int .i64) w A0 l0.length l0) (hc0 : l0.length ≤ c0) (hr1 : Kd.C (Kd.slice 3 (Kd.int .i64)) w A1 l1.length l1) (hc1 : l1.length ≤ c1) (hr2 : Kd.C (Kd.int .i64) w A2 l2.length l2) (hc2 : l2.length ≤ c2) (h : impl_after.f k l0 l1 l2 = some r) :
  Calls Tryd.prog 38 #[.slice A0 l0.length c0, .slice A1 l1.length c1, .slice A2 l2.length c2] w fun e w' => ∃ v0_ : Value, e = .returned (v0_) ∧ Kd.R (Kd.int .i64) 3 w' w.heap.size (fun _ => True) v0_ r ∧ Below w.heap.size w w' := by
 have HR0 := A_ hr0; have HC0 := A_ hc0; clear hr0 hc0; have HR1 := A_ hr1; have HC1 := A_ hc1; clear hr1 hc1; have HR2 := A_ hr2; have HC2 := A_ hc2; clear hr2 hc2; have HB := A_ (Below.refl w.heap.size w); have H : ((slices_Clone_int_int.f l0).bind fun ay => (impl_after.l0 k l1 ay l2 (l2.length : Int) 0)) = some r := h; clear h; obtain ⟨ay, A4, H⟩ := bnd_ H; (try dsimp only at H); have H' := A_ H; clear H; go_enter Tryd.func38, Tryd.ntmps38; go_wp2_with (first | ((with_reducible refine gate_callee (f := 46) rfl ?_); refine gl_ (some 11) Tryd.func46 #[.slice A0 l0.length c0] ?_; (with_reducible refine (slices_Clone_int_int.calls _ _ l0 ay _ ?s1 ?s2 A4.out).mono ?_); (case s1 => exact td_); (case s2 => exact HC0.out); rintro e w5 ⟨bu, rfl, ho0, hb⟩; refine ⟨_, rfl, ?_⟩; have a3 := rx_ ho0 HB; replace HB := bs_ HB hb; (try clear hb ho0)))
 go_loopg [7, 14] k (fun kq v7 bv w' => ∃ (ab : List Int) (ac : Int), bv = .int .i64 ac ∧ Aside0 (impl_after.l0 kq l1 ab l2 (l2.length : Int) ac = some r) ∧ Aside0 (kq ≤ k) ∧ Aside0 (Kd.R (Kd.int .i64) 3 w' w.heap.size (fun _ => True) v7 ab) ∧ Aside0 (Below w.heap.size w w'))
 case atStart => exact ⟨(ay), (0), tx_, H', ⟨Nat.le_refl _⟩, ⟨rR_ a3.out⟩, ⟨(tb_ HB.out)⟩⟩
 case round =>
  clear H'; obtain ⟨ab, ac, rfl, HA, HK1, ar, HB⟩ := hrel
  cases gk with
  | zero => exact absurd HA.out (by simp [impl_after.l0])
  | succ k1 =>
   have H := HA.out; clear HA; simp only [impl_after.l0] at H; replace H := it_ H; rcases H with ⟨aD, H⟩ | ⟨aD, H⟩
   ·
    replace H := in_ H; obtain ⟨aX, H⟩ := H; replace H := in_ H; obtain ⟨aY, H⟩ := H; replace H := in_ H; obtain ⟨bw, H⟩ := H; replace H := in_ H; obtain ⟨a4, H⟩ := H; obtain ⟨aG, A11, H⟩ := bnd_ H; (try dsimp only at H); have H' := A_ H; clear H; obtain ⟨p135, q135, ad135, e135, ak⟩ := a2_ (Kd.at_int HR2.out ac); cases e135; replace ak := (HB.out.cell (World.block_lt_of_cell? w _ ak)).trans ak; obtain ⟨p136, q136, ad136, aN, aO, e136, al, hl136_0, hi136_0⟩ := a2_ (at_L1 HR1.out (rd l2 ac)); cases e136; replace al := (HB.out.cell (World.block_lt_of_cell? w _ al)).trans al; have bb := A_ hi136_0; have aH := A_ hl136_0; clear hi136_0 hl136_0; obtain ⟨bh, bi, bj⟩ := Kd.R_slice ar.out; subst bj; go_wp2_with (first | ((with_reducible refine gate_callee (f := 60) rfl ?_); refine gl_ (some 23) Tryd.func60 #[.slice bh ab.length bi, .slice aN (rd_L1 l1 (rd l2 ac)).length aO] ?_; (with_reducible refine (impl_added.calls k1 _ _ ab _ _ (rd_L1 l1 (rd l2 ac)) aG _ ?s1 ?s2 ?s3 ?s4 A11.out).mono ?_); (case s1 => exact rc_ ar); (case s2 => exact (ll_ ar)); (case s3 => exact tD_); (case s4 => exact aH.out); rintro e bG ⟨bx, rfl, ho0, hb⟩; refine ⟨_, rfl, ?_⟩; have a5 := rx_ (nR_ ho0 (Kd.R_lt (rR_ ar.out))) HB; replace ar := A_ (Kd.R_elder' (rR_ ar.out) (Kd.R_base ho0) hb); replace HB := bs_ HB hb; (try clear hb ho0)))
    go_roundg k1
    case measure => have := HK1.out; omega
    case rel => exact ⟨(aG), (wrap64 (ac + 1)), tx_, H', ⟨by have := HK1.out; omega⟩, ⟨by refine qR_ ?_; exact Kd.R_mono a5.out (fun _ hk => trivial)⟩, ⟨(tb_ HB.out)⟩⟩
   ·
    obtain rfl := Option.some.inj H; go_wp2; go_ret; exact ⟨_, tw_, by refine qR_ ?_; exact ar.out, (tb_ HB.out)⟩

/-! ### impl_ruleWays: function 37 -/
def impl_ruleWays.l0 : Nat → List Int → List (List Int) → List Int → Int → List Int → Int → Int → Option (Int)
 | 0, _, _, _, _, _, _, _ => none
 | k + 1, x0, x1, x2, x7, x10, x11, x12 => if x12 < x11 then (if 0 ≤ x12 then (if x12 < (x10.length : Int) then (if x12 ≤ (x2.length : Int) then ((impl_after.f k x0 x1 (x2.take (x12 : Int).toNat)).bind fun ag => (if 0 ≤ (rd x10 x12) then (if (rd x10 x12) < (ag.length : Int) then (if (wrap64 (x7 * (mx 0 (rd ag (rd x10 x12))))) = 0 then (some 0) else (impl_ruleWays.l0 k x0 x1 x2 (wrap64 (x7 * (mx 0 (rd ag (rd x10 x12))))) x10 x11 (wrap64 (x12 + 1)))) else (none)) else (none))) else (none)) else (none)) else (none)) else (some x7)
def impl_ruleWays.f (k : Nat) (l0 : List Int) (l1 : List (List Int)) (l2 : List Int) : Option (Int) := impl_ruleWays.l0 k l0 l1 l2 1 l2 (l2.length : Int) 0
theorem impl_ruleWays.mono_l : ∀ k, (∀ y0 y1 y2 y3 y4 y5 y6, LeO (impl_ruleWays.l0 k y0 y1 y2 y3 y4 y5 y6) (impl_ruleWays.l0 (k + 1) y0 y1 y2 y3 y4 y5 y6))
 | 0 => fun _ _ _ _ _ _ _ r h => by simp [impl_ruleWays.l0] at h
 | k + 1 => by
  have ih0 := impl_ruleWays.mono_l k
  ·
   intro y0 y1 y2 y3 y4 y5 y6
   unfold impl_ruleWays.l0
   repeat' (with_reducible first | exact ih0 _ _ _ _ _ _ _ | exact impl_after.mono _ _ _ _ | exact mr_ | exact mn_ | refine mi_ ?_ ?_ | refine mb_ ?_ (fun _ => ?_))
theorem impl_ruleWays.mono : ∀ a0 a1 a2 k, LeO (impl_ruleWays.f k a0 a1 a2) (impl_ruleWays.f (k + 1) a0 a1 a2) := by
 intro a0 a1 a2 k; have ih0 := impl_ruleWays.mono_l k; unfold impl_ruleWays.f; repeat' (with_reducible first | exact ih0 _ _ _ _ _ _ _ | exact impl_after.mono _ _ _ _ | exact mr_ | exact mn_ | refine mi_ ?_ ?_ | refine mb_ ?_ (fun _ => ?_))
theorem impl_ruleWays.calls (k : Nat) (A0 : Option Addr) (c0 : Nat) (l0 : List Int) (A1 : Option Addr) (c1 : Nat) (l1 : List (List Int)) (A2 : Option Addr) (c2 : Nat) (l2 : List Int) (r : Int) (w : World) (hr0 : Kd.C (Kd.int .i64) w A0 l0.length l0) (hc0 : l0.length ≤ c0) (hr1 : Kd.C (Kd.slice 3 (Kd.int .i64)) w A1 l1.length l1) (hc1 : l1.length ≤ c1) (hr2 : Kd.C (Kd.int .i64) w A2 l2.length l2) (hc2 : l2.length ≤ c2) (h : impl_ruleWays.f k l0 l1 l2 = some r) :
  Calls Tryd.prog 37 #[.slice A0 l0.length c0, .slice A1 l1.length c1, .slice A2 l2.length c2] w fun e w' => e = .returned (.int .i64 r) ∧ Below w.heap.size w w' := by
 have HR0 := A_ hr0; have HC0 := A_ hc0; clear hr0 hc0; have HR1 := A_ hr1; have HC1 := A_ hc1; clear hr1 hc1; have HR2 := A_ hr2; have HC2 := A_ hc2; clear hr2 hc2; have HB := A_ (Below.refl w.heap.size w); have H : (impl_ruleWays.l0 k l0 l1 l2 1 l2 (l2.length : Int) 0) = some r := h; clear h; have H' := A_ H; clear H; go_enter Tryd.func37, Tryd.ntmps37; go_wp2
 go_loopg [7, 12] k (fun kq v7 bd w' => ∃ (ab : Int) (aa : Int), v7 = .int .i64 ab ∧ bd = .int .i64 aa ∧ Aside0 (impl_ruleWays.l0 kq l0 l1 l2 ab l2 (l2.length : Int) aa = some r) ∧ Aside0 (kq ≤ k) ∧ Aside0 (Below w.heap.size w w'))
 case atStart => exact ⟨(1), (0), tx_, tx_, H', ⟨Nat.le_refl _⟩, ⟨(tb_ HB.out)⟩⟩
 case round =>
  clear H'; obtain ⟨ab, aa, rfl, rfl, HA, HK1, HB⟩ := hrel
  cases gk with
  | zero => exact absurd HA.out (by simp [impl_ruleWays.l0])
  | succ k1 =>
   have H := HA.out; clear HA; simp only [impl_ruleWays.l0] at H; replace H := it_ H; rcases H with ⟨am, H⟩ | ⟨am, H⟩
   ·
    replace H := in_ H; obtain ⟨ap, H⟩ := H; replace H := in_ H; obtain ⟨aD, H⟩ := H; have aX := eq_true (od_ : 0 ≤ aa); replace H := i0_ H; obtain ⟨c8, H⟩ := H; have aY := eq_true c8; have bz : decide (aa ≤ (l2.length : Int)) = true := decide_eq_true c8; clear c8; obtain ⟨ag, A9, H⟩ := bnd_ H; (try dsimp only at H); replace H := in_ H; obtain ⟨a4, H⟩ := H; replace H := in_ H; obtain ⟨br, H⟩ := H; obtain ⟨an, ai⟩ : ∃ j_ : Int, (mx 0 (rd ag (rd l2 aa))) = j_ := ⟨_, rfl⟩
    replace H : (if (wrap64 (ab * (an))) = 0 then (some 0) else (impl_ruleWays.l0 k1 l0 l1 l2 (wrap64 (ab * (an))) l2 (l2.length : Int) (wrap64 (aa + 1)))) = some r := by first | (rw [ai] at H; exact H) | (simp only [ai] at H ⊢; exact H)
    (try rw [ai] at A9); have hji12_ : (if 0 < (rd ag (rd l2 aa)) then (rd ag (rd l2 aa)) else 0) = an := ai; by_cases c13 : (wrap64 (ab * (an))) = 0
    ·
     rw [if_pos c13] at H; have a6 : ((wrap64 (ab * (an))) == 0) = true := beq_iff_eq.mpr c13; have a7 : ((wrap64 (ab * (an))) != 0) = false := bne_eq_false_iff_eq.mpr c13; clear c13; obtain rfl := Option.some.inj H; obtain ⟨p140, q140, ad140, e140, ad⟩ := a2_ (Kd.at_int HR2.out aa); cases e140; replace ad := (HB.out.cell (World.block_lt_of_cell? w _ ad)).trans ad; obtain ⟨i014, hi014, _, hsz14, _⟩ := info_parts info3; obtain ⟨hcut14, hA14, hC14⟩ := print_take_of (P := Tryd.prog) (Value.int .i64) 0 23 3 .i64 Tryd.underlying23 hi014 hsz14 (some ad140) c2 l2 aa (od_) (od_) HC2.out; have HR141 := A_ (Kd.C_of_reads (h1 := fun _ => rfl) (hA14 _ (Kd.reads_of_C HR2.out))); have HC141 := A_ hC14; clear hA14 hC14 hi014 hsz14; go_wp2_with (first | ((with_reducible refine gate_callee (f := 38) rfl ?_); refine goesL_ (some 23) rfl rfl Tryd.func38 (by kernel_rfl) rfl #[.slice A0 l0.length c0, .slice A1 l1.length c1, .slice (some ad140) (l2.take (aa : Int).toNat).length c2] rfl (by (try simp only [List.map_toArray, List.map_cons, List.map_nil]); first | done | (rw [show (l2.take (aa : Int).toNat).length = aa.toNat from (by rw [List.length_take]; have h_ : (aa : Int) ≤ (l2.length : Int) := od_; omega)] <;> rfl) | rfl | (simp only [List.length_drop, List.length_take]; rfl)) ?_; (with_reducible refine (impl_after.calls k1 _ _ l0 _ _ l1 _ _ (l2.take (aa : Int).toNat) ag _ ?s1 ?s2 ?s3 ?s4 ?s5 ?s6 A9.out).mono ?_); (case s1 => exact tD_); (case s2 => exact HC0.out); (case s3 => exact tD_); (case s4 => exact HC1.out); (case s5 => exact tD_); (case s6 => exact HC141.out); rintro e bH ⟨bk, rfl, ho0, hb⟩; refine ⟨_, rfl, ?_⟩; have aq := rx_ ho0 HB; replace HB := bs_ HB hb; (try clear hb ho0); obtain ⟨bB, bC, bl⟩ := Kd.R_slice aq.out; subst bl; obtain ⟨p145, q145, ad145, e145, aI⟩ := a2_ (Kd.at_int (Kd.R_reads' aq.out).2.2 (rd l2 aa)); cases e145)); go_ret; exact ⟨by first | rfl | (simp [errW_none, errW_some] <;> rfl) | (simp only [← ai]; first | rfl | (simp [errW_none, errW_some] <;> rfl)) | (simp [*, errW_none, errW_some] <;> rfl), (tb_ HB.out)⟩
    ·
     rw [if_neg c13] at H; have a6 : ((wrap64 (ab * (an))) == 0) = false := beq_eq_false_iff_ne.mpr c13; have a7 : ((wrap64 (ab * (an))) != 0) = true := bne_iff_ne.mpr c13; have H' := A_ H; clear H; obtain ⟨p140, q140, ad140, e140, ad⟩ := a2_ (Kd.at_int HR2.out aa); cases e140; replace ad := (HB.out.cell (World.block_lt_of_cell? w _ ad)).trans ad; obtain ⟨i017, hi017, _, hsz17, _⟩ := info_parts info3; obtain ⟨hcut17, hA17, hC17⟩ := print_take_of (P := Tryd.prog) (Value.int .i64) 0 23 3 .i64 Tryd.underlying23 hi017 hsz17 (some ad140) c2 l2 aa (od_) (od_) HC2.out; have HR141 := A_ (Kd.C_of_reads (h1 := fun _ => rfl) (hA17 _ (Kd.reads_of_C HR2.out))); have HC141 := A_ hC17; clear hA17 hC17 hi017 hsz17; go_wp2_with (first | ((with_reducible refine gate_callee (f := 38) rfl ?_); refine goesL_ (some 23) rfl rfl Tryd.func38 (by kernel_rfl) rfl #[.slice A0 l0.length c0, .slice A1 l1.length c1, .slice (some ad140) (l2.take (aa : Int).toNat).length c2] rfl (by (try simp only [List.map_toArray, List.map_cons, List.map_nil]); first | done | (rw [show (l2.take (aa : Int).toNat).length = aa.toNat from (by rw [List.length_take]; have h_ : (aa : Int) ≤ (l2.length : Int) := od_; omega)] <;> rfl) | rfl | (simp only [List.length_drop, List.length_take]; rfl)) ?_; (with_reducible refine (impl_after.calls k1 _ _ l0 _ _ l1 _ _ (l2.take (aa : Int).toNat) ag _ ?s1 ?s2 ?s3 ?s4 ?s5 ?s6 A9.out).mono ?_); (case s1 => exact tD_); (case s2 => exact HC0.out); (case s3 => exact tD_); (case s4 => exact HC1.out); (case s5 => exact tD_); (case s6 => exact HC141.out); rintro e bI ⟨bk, rfl, ho0, hb⟩; refine ⟨_, rfl, ?_⟩; have aq := rx_ ho0 HB; replace HB := bs_ HB hb; (try clear hb ho0); obtain ⟨bD, bE, bm⟩ := Kd.R_slice aq.out; subst bm; obtain ⟨p145, q145, ad145, e145, aI⟩ := a2_ (Kd.at_int (Kd.R_reads' aq.out).2.2 (rd l2 aa)); cases e145))
     go_roundg k1
     case measure => have := HK1.out; omega
     case rel => exact ⟨(wrap64 (ab * (an))), (wrap64 (aa + 1)), (by first | rfl | (simp; done) | (simp only [← ai] <;> (first | rfl | simp)) | (simp [*]; done)), tx_, H', ⟨by have := HK1.out; omega⟩, ⟨(tb_ HB.out)⟩⟩
   ·
    obtain rfl := Option.some.inj H; go_wp2; go_ret; exact ⟨tw_, (tb_ HB.out)⟩

/-! ### impl_UrnOk: function 33 -/
def impl_UrnOk.l0 : Nat → List Int → List Int → Int → Int → Option (Bool)
 | 0, _, _, _, _ => none
 | k + 1, x0, x5, x6, x7 => if x7 < x6 then (if 0 ≤ x7 then (if x7 < (x5.length : Int) then (if (rd x5 x7) < 0 then (some false) else (if (rd x5 x7) > 40 then (some false) else (impl_UrnOk.l0 k x0 x5 x6 (wrap64 (x7 + 1))))) else (none)) else (none)) else ((impl_coloursOk.f (x0.length : Int)).bind fun aP => (some aP))
def impl_UrnOk.f (k : Nat) (l0 : List Int) : Option (Bool) := impl_UrnOk.l0 k l0 l0 (l0.length : Int) 0
theorem impl_UrnOk.mono_l : ∀ k, (∀ y0 y1 y2 y3, LeO (impl_UrnOk.l0 k y0 y1 y2 y3) (impl_UrnOk.l0 (k + 1) y0 y1 y2 y3))
 | 0 => fun _ _ _ _ r h => by simp [impl_UrnOk.l0] at h
 | k + 1 => by
  have ih0 := impl_UrnOk.mono_l k
  ·
   intro y0 y1 y2 y3
   unfold impl_UrnOk.l0
   repeat' (with_reducible first | exact ih0 _ _ _ _ | exact mr_ | exact mn_ | refine mi_ ?_ ?_ | refine mb_ ?_ (fun _ => ?_))
theorem impl_UrnOk.mono : ∀ a0 k, LeO (impl_UrnOk.f k a0) (impl_UrnOk.f (k + 1) a0) := by
 intro a0 k; have ih0 := impl_UrnOk.mono_l k; unfold impl_UrnOk.f; repeat' (with_reducible first | exact ih0 _ _ _ _ | exact mr_ | exact mn_ | refine mi_ ?_ ?_ | refine mb_ ?_ (fun _ => ?_))
theorem impl_UrnOk.calls (k : Nat) (A0 : Option Addr) (c0 : Nat) (l0 : List Int) (r : Bool) (w : World) (hr0 : Kd.C (Kd.int .i64) w A0 l0.length l0) (hc0 : l0.length ≤ c0) (h : impl_UrnOk.f k l0 = some r) :
  Calls Tryd.prog 33 #[.slice A0 l0.length c0] w fun e w' => e = .returned (.bool r) ∧ Drawn0 w w' := by
 have HR0 := A_ hr0; have HC0 := A_ hc0; clear hr0 hc0; have H : (impl_UrnOk.l0 k l0 l0 (l0.length : Int) 0) = some r := h; clear h; have H' := A_ H; clear H; go_enter Tryd.func33, Tryd.ntmps33; go_wp2
 go_loopg [7] k (fun kq v7 w' => ∃ (ab : Int), v7 = .int .i64 ab ∧ Aside0 (impl_UrnOk.l0 kq l0 l0 (l0.length : Int) ab = some r) ∧ Aside0 (kq ≤ k) ∧ Drawn0 w w')
 case atStart => exact ⟨(0), tx_, H', ⟨Nat.le_refl _⟩, dz_⟩
 case round =>
  clear H'; obtain ⟨ab, rfl, HA, HK1, ⟨m1, rfl⟩⟩ := hrel
  cases gk with
  | zero => exact absurd HA.out (by simp [impl_UrnOk.l0])
  | succ k1 =>
   have H := HA.out; clear HA; simp only [impl_UrnOk.l0] at H; replace H := it_ H; rcases H with ⟨aQ, H⟩ | ⟨aQ, H⟩
   ·
    replace H := in_ H; obtain ⟨bn, H⟩ := H; replace H := in_ H; obtain ⟨am, H⟩ := H; replace H := it_ H; rcases H with ⟨ap, H⟩ | ⟨ap, H⟩
    ·
     obtain rfl := Option.some.inj H; obtain ⟨p146, q146, ad146, e146, au⟩ := a2_ (Kd.at_int HR0.out ab); cases e146; go_wp2; go_ret; exact ⟨tx_, dz_⟩
    ·
     replace H := ig_ H; rcases H with ⟨aD, H⟩ | ⟨aD, H⟩
     ·
      obtain rfl := Option.some.inj H; obtain ⟨p146, q146, ad146, e146, au⟩ := a2_ (Kd.at_int HR0.out ab); cases e146; go_wp2; go_ret; exact ⟨tx_, dz_⟩
     ·
      have H' := A_ H; clear H; obtain ⟨p146, q146, ad146, e146, au⟩ := a2_ (Kd.at_int HR0.out ab); cases e146; go_wp2
      go_roundg k1
      case measure => have := HK1.out; omega
      case rel => exact ⟨(wrap64 (ab + 1)), tx_, H', ⟨by have := HK1.out; omega⟩, dz_⟩
   ·
    obtain ⟨aP, A7, H⟩ := bnd_ H; (try dsimp only at H); obtain rfl := Option.some.inj H; go_wp2_with (first | ((with_reducible refine gate_callee (f := 34) rfl ?_); refine gl_ (some 20) Tryd.func34 #[.int .i64 (l0.length : Int)] ?_; (with_reducible refine (impl_coloursOk.calls (l0.length : Int) aP _ A7.out).mono ?_); rintro e w' ⟨rfl, ⟨nd, rfl⟩⟩; refine ⟨_, rfl, ?_⟩)); go_ret; exact ⟨tx_, dz_⟩

/-! ### impl_StartOk: function 47 -/
def impl_StartOk.l0 : Nat → List Int → List Int → Int → Int → Option (Bool)
 | 0, _, _, _, _ => none
 | k + 1, x0, x5, x6, x7 => if x7 < x6 then (if 0 ≤ x7 then (if x7 < (x5.length : Int) then (if (rd x5 x7) > 10 then (some false) else (impl_StartOk.l0 k x0 x5 x6 (wrap64 (x7 + 1)))) else (none)) else (none)) else ((impl_UrnOk.f k x0).bind fun aR => (some aR))
def impl_StartOk.f (k : Nat) (l0 : List Int) : Option (Bool) := impl_StartOk.l0 k l0 l0 (l0.length : Int) 0
theorem impl_StartOk.mono_l : ∀ k, (∀ y0 y1 y2 y3, LeO (impl_StartOk.l0 k y0 y1 y2 y3) (impl_StartOk.l0 (k + 1) y0 y1 y2 y3))
 | 0 => fun _ _ _ _ r h => by simp [impl_StartOk.l0] at h
 | k + 1 => by
  have ih0 := impl_StartOk.mono_l k
  ·
   intro y0 y1 y2 y3
   unfold impl_StartOk.l0
   repeat' (with_reducible first | exact ih0 _ _ _ _ | exact impl_UrnOk.mono _ _ | exact mr_ | exact mn_ | refine mi_ ?_ ?_ | refine mb_ ?_ (fun _ => ?_))
theorem impl_StartOk.mono : ∀ a0 k, LeO (impl_StartOk.f k a0) (impl_StartOk.f (k + 1) a0) := by
 intro a0 k; have ih0 := impl_StartOk.mono_l k; unfold impl_StartOk.f; repeat' (with_reducible first | exact ih0 _ _ _ _ | exact impl_UrnOk.mono _ _ | exact mr_ | exact mn_ | refine mi_ ?_ ?_ | refine mb_ ?_ (fun _ => ?_))
theorem impl_StartOk.calls (k : Nat) (A0 : Option Addr) (c0 : Nat) (l0 : List Int) (r : Bool) (w : World) (hr0 : Kd.C (Kd.int .i64) w A0 l0.length l0) (hc0 : l0.length ≤ c0) (h : impl_StartOk.f k l0 = some r) :
  Calls Tryd.prog 47 #[.slice A0 l0.length c0] w fun e w' => e = .returned (.bool r) ∧ Drawn0 w w' := by
 have HR0 := A_ hr0; have HC0 := A_ hc0; clear hr0 hc0; have H : (impl_StartOk.l0 k l0 l0 (l0.length : Int) 0) = some r := h; clear h; have H' := A_ H; clear H; go_enter Tryd.func47, Tryd.ntmps47; go_wp2
 go_loopg [7] k (fun kq v7 w' => ∃ (ab : Int), v7 = .int .i64 ab ∧ Aside0 (impl_StartOk.l0 kq l0 l0 (l0.length : Int) ab = some r) ∧ Aside0 (kq ≤ k) ∧ Drawn0 w w')
 case atStart => exact ⟨(0), tx_, H', ⟨Nat.le_refl _⟩, dz_⟩
 case round =>
  clear H'; obtain ⟨ab, rfl, HA, HK1, ⟨m1, rfl⟩⟩ := hrel
  cases gk with
  | zero => exact absurd HA.out (by simp [impl_StartOk.l0])
  | succ k1 =>
   have H := HA.out; clear HA; simp only [impl_StartOk.l0] at H; replace H := it_ H; rcases H with ⟨aQ, H⟩ | ⟨aQ, H⟩
   ·
    replace H := in_ H; obtain ⟨bn, H⟩ := H; replace H := in_ H; obtain ⟨am, H⟩ := H; replace H := ig_ H; rcases H with ⟨ap, H⟩ | ⟨ap, H⟩
    ·
     obtain rfl := Option.some.inj H; obtain ⟨p148, q148, ad148, e148, aJ⟩ := a2_ (Kd.at_int HR0.out ab); cases e148; go_wp2; go_ret; exact ⟨tx_, dz_⟩
    ·
     have H' := A_ H; clear H; obtain ⟨p148, q148, ad148, e148, aJ⟩ := a2_ (Kd.at_int HR0.out ab); cases e148; go_wp2
     go_roundg k1
     case measure => have := HK1.out; omega
     case rel => exact ⟨(wrap64 (ab + 1)), tx_, H', ⟨by have := HK1.out; omega⟩, dz_⟩
   ·
    obtain ⟨aR, A6, H⟩ := bnd_ H; (try dsimp only at H); obtain rfl := Option.some.inj H; go_wp2_with (first | ((with_reducible refine gate_callee (f := 33) rfl ?_); refine gl_ (some 15) Tryd.func33 #[.slice A0 l0.length c0] ?_; (with_reducible refine (impl_UrnOk.calls k1 _ _ l0 aR _ ?s1 ?s2 A6.out).mono ?_); (case s1 => exact td_); (case s2 => exact HC0.out); rintro e w' ⟨rfl, ⟨nd, rfl⟩⟩; refine ⟨_, rfl, ?_⟩)); go_ret; exact ⟨tx_, dz_⟩

/-! ### impl_PlaceOk: function 25 -/
def impl_PlaceOk.j0 : Nat → Bool → List Int → Int → List Int → Option (Bool)
 | 0, _, _, _, _ => none
 | k + 1, x25, av, aK, aL => if x25 = true then (some false) else ((impl_SameRule.f k (av.length : Int) aK).bind fun a8 => ((impl_ruleWays.f k av a8 aL).bind fun a9 => (some (decide (a9 > 0)))))
def impl_PlaceOk.f (k : Nat) (ae : List Int) (a0_1 : Int) (af : List Int) : Option (Bool) := (impl_StartOk.f k ae).bind fun aU => (if aU = true then (if a0_1 < (-1) then (impl_PlaceOk.j0 k true ae a0_1 af) else (if a0_1 > 3 then (impl_PlaceOk.j0 k true ae a0_1 af) else ((impl_WordOk.f k (ae.length : Int) af).bind fun aV => (impl_PlaceOk.j0 k (!aV) ae a0_1 af)))) else (impl_PlaceOk.j0 k true ae a0_1 af))
theorem impl_PlaceOk.mono_l : ∀ k, (∀ y0 y1 y2 y3, LeO (impl_PlaceOk.j0 k y0 y1 y2 y3) (impl_PlaceOk.j0 (k + 1) y0 y1 y2 y3))
 | 0 => fun _ _ _ _ r h => by simp [impl_PlaceOk.j0] at h
 | k + 1 => by
  have ih0 := impl_PlaceOk.mono_l k
  ·
   intro y0 y1 y2 y3
   unfold impl_PlaceOk.j0
   repeat' (with_reducible first | exact ih0 _ _ _ _ | exact impl_SameRule.mono _ _ _ | exact impl_StartOk.mono _ _ | exact impl_WordOk.mono _ _ _ | exact impl_ruleWays.mono _ _ _ _ | exact mr_ | exact mn_ | refine mi_ ?_ ?_ | refine mb_ ?_ (fun _ => ?_))
theorem impl_PlaceOk.mono : ∀ a0 a1 a2 k, LeO (impl_PlaceOk.f k a0 a1 a2) (impl_PlaceOk.f (k + 1) a0 a1 a2) := by
 intro a0 a1 a2 k; have ih0 := impl_PlaceOk.mono_l k; unfold impl_PlaceOk.f; repeat' (with_reducible first | exact ih0 _ _ _ _ | exact impl_SameRule.mono _ _ _ | exact impl_StartOk.mono _ _ | exact impl_WordOk.mono _ _ _ | exact impl_ruleWays.mono _ _ _ _ | exact mr_ | exact mn_ | refine mi_ ?_ ?_ | refine mb_ ?_ (fun _ => ?_))
def impl_PlaceOk.T3 : Bool × List (List Nat × List Nat) := (true, [([], []), ([0], [0]), ([], []), ([2], [2]), ([3], [3]), ([], []), ([5], [5]), ([4, 6], [4, 6]), ([], []), ([8], [8]), ([1, 7, 9, 7], [1, 7, 9]), ([10], [10]), ([11, 10, 0, 1, 2, 3, 4, 5, 6, 7, 8, 9, 10, 11], [11])])
def impl_PlaceOk.B3 : List Nat := [0, 1, 0, 4, 12, 0, 32, 124, 0, 256, 1023, 2047, 4095]
theorem impl_PlaceOk.tab3 : rtab .any (opsOf Tryd.f25 3) = impl_PlaceOk.T3 := by kernel_rfl
theorem impl_PlaceOk.bits3 : waitsOk impl_PlaceOk.T3.2 impl_PlaceOk.B3 = true := by kernel_rfl
theorem impl_PlaceOk.z0 {P_ : Prop} (h_ : P_ := by go_wp2_with (first | ((with_reducible refine gate_callee (f := 47) rfl ?_); refine ca_ (some 5) Tryd.func47 _ (impl_StartOk.calls k az aA _ _ _ (gt_ st) (gt_ st) A_5.out) ?_; rintro e w_ ⟨rfl, hb⟩; refine ⟨_, rfl, ?_⟩; replace hb := hb.below; replace st := st.ev hb; clear cl hb; have cl := cl_ st) | ((with_reducible refine gate_callee (f := 36) rfl ?_); refine gate_guard (by rfl) ?_; dsimp only; refine ca_ (some 23) Tryd.func36 _ (impl_WordOk.calls k _ aB aC _ _ _ (gt_ st) (gt_ st) A_23.out) ?_; rintro e w_ ⟨rfl, hb⟩; refine ⟨_, rfl, ?_⟩; replace hb := hb.below; replace st := st.ev hb; clear cl hb; have cl := cl_ st)); first | (go_meet; (case rel => exact ⟨_, (true), tx_, H', ⟨by first | omega | exact Nat.le_refl _⟩, st.en⟩)) | (go_meet; (case rel => exact ⟨_, (!aV), tx_, H', ⟨by first | omega | exact Nat.le_refl _⟩, st.en⟩))) : P_ := h_
theorem impl_PlaceOk.calls (k : Nat) (az : Option Addr) (aA : Nat) (ae : List Int) (a0_1 : Int) (aB : Option Addr) (aC : Nat) (af : List Int) (r : Bool) (w : World) (hr0_0 : Kd.C (Kd.int .i64) w az ae.length ae) (hc0_0 : ae.length ≤ aA) (hr0_2 : Kd.C (Kd.int .i64) w aB af.length af) (hc0_2 : af.length ≤ aC) (h : impl_PlaceOk.f k ae a0_1 af = some r) :
  Calls Tryd.prog 25 #[.agg #[.slice az ae.length aA, .int .i64 a0_1, .slice aB af.length aC]] w fun e w' => e = .returned (.bool r) ∧ Below w.heap.size w w' := by
 have hu25 := Tryd.underlying25; have st := ((ST.nil w).c hr0_0 hc0_0).c hr0_2 hc0_2; have s0 := st; have cl := cl_ st; have H := h; clear h; unfold impl_PlaceOk.f at H; go_enter Tryd.func25, Tryd.ntmps25; have HC3 := A_ H; clear H
 go_upto_region 1 with (first | ((with_reducible refine gate_dst (N := 1) rfl ?_); refine al_ st ?_; clear st cl; intro g1 w_ st; have cl := cl_ st))
 (try simp only [Act.put, sa_, sb_, sc_])
 go_cut [25] (fun bF wc => ∃ (kq : Nat) (aw : Bool), bF = .bool aw ∧ Aside0 (impl_PlaceOk.j0 kq aw ae a0_1 af = some r) ∧ Aside0 (kq ≤ k) ∧ ST w [CA (Kd.int .i64) w az ae aA, CA (Kd.int .i64) w aB af aC] [Bx g1 #[.slice az ae.length aA, .int .i64 a0_1, .slice aB af.length aC] 25] wc)
 case first =>
  have H := HC3.out; clear HC3; obtain ⟨aU, A_5, H⟩ := bnd_ H; rcases bx_ aU with rfl | rfl
  ·
   replace H := bt_ H; replace H := it_ H; rcases H with ⟨am, H⟩ | ⟨am, H⟩
   ·
    (first | rw [am] | (simp only [i64_w, i32_w]; rw [am]) | skip); have H' := A_ H; clear H; exact impl_PlaceOk.z0
   ·
    (first | rw [am] | (simp only [i64_w, i32_w]; rw [am]) | skip); replace H := ig_ H; rcases H with ⟨ap, H⟩ | ⟨ap, H⟩
    ·
     have H' := A_ H; clear H; exact impl_PlaceOk.z0
    ·
     obtain ⟨aV, A_23, H⟩ := bnd_ H; have H' := A_ H; clear H; exact impl_PlaceOk.z0
  ·
   replace H := bf_ H; have H' := A_ H; clear H; exact impl_PlaceOk.z0
 case rest =>
  clear HC3 st cl; obtain ⟨kq, aw, rfl, HA, HJ2, st⟩ := hcut; have cl := cl_ st
  cases kq with
  | zero => exact absurd HA.out (by simp [impl_PlaceOk.j0])
  | succ kj2 =>
   have H := HA.out; clear HA; simp only [impl_PlaceOk.j0] at H; rcases bx_ aw with rfl | rfl
   ·
    replace H := bt_ H; obtain rfl := Option.some.inj H; go_wp2; go_ret; exact ⟨tw_, st.b⟩
   ·
    replace H := bf_ H; obtain ⟨a8, A_33, H⟩ := bnd_ H; obtain ⟨a9, A_36, H⟩ := bnd_ H; obtain rfl := Option.some.inj H; (try go_wp2); (all_goals (refine rg_ st [] ?_; clear st cl; intro w_ st hs; have cl := cl_ st; refine with_tabW impl_PlaceOk.tab3 impl_PlaceOk.bits3 (fun HT_ HW_ => ?_); refine pv_ 0 ?_; refine pv_ 2 ?_; refine pv_ 5 ?_; refine pv_ 8 ?_; refine tu_ 1 ?_; refine tu_ 3 ?_; refine tu_ 6 ?_; refine tu_ 9 ?_; refine pv_ 4 ?_; refine ov_ 7 (fun K hK => ?_); refine ca2_ (some 33) Tryd.func11 _ (impl_SameRule.calls kj2 _ _ _ _ A_33.out) ?_; rintro e w_ ⟨v0, rfl, h0, hb⟩; refine ⟨_, rfl, ?_⟩; obtain ⟨B33_0, d33_0, rfl⟩ := Kd.S_slice h0; replace st := st.p1 hb (st.ms h0); clear cl hb h0; have cl := cl_ st; refine hK.out _ _ st.en (fun hs => ?_); clear hK K; refine nr_ 33 ?_; refine ov_ 10 (fun K hK => ?_); refine ca2_ (some 36) Tryd.func37 _ (impl_ruleWays.calls kj2 az aA _ B33_0 d33_0 _ aB aC _ _ _ (gt_ st) (gt_ st) (gt_ st) (gt_ st) (gt_ st) (gt_ st) A_36.out) ?_; rintro e w_ ⟨rfl, hb⟩; refine ⟨_, rfl, ?_⟩; replace st := st.ev hb; clear cl hb; have cl := cl_ st; refine hK.out _ _ st.en (fun hs => ?_); clear hK K; refine nr_ 36 ?_; refine pv_ 11 ?_; refine pv_ 12 ?_; refine done_ (done_of HT_.out (by kernel_rfl)) ?_; all_goals (try go_wp2))); go_ret; exact ⟨tw_, st.b⟩

end Go.Proofs.YtfacponjomafcaaDoor.MFnDeskRun
