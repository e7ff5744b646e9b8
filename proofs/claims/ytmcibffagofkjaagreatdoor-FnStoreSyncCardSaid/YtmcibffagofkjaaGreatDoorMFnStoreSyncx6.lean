/- For the law FnStoreSync: walks of the functions that it reaches: each call returns what the plain function beside it tells. The conditions stand in each statement. -/
import Derived.Test.YtmcibffagofkjaaGreatDoorV
import Derived.Test.YtmcibffagofkjaaGreatDoorMFnStoreSyncx0
import Derived.Test.YtmcibffagofkjaaGreatDoorMFnStoreSyncx5
namespace Go.Proofs.YtmcibffagofkjaaGreatDoor.MFnStoreSync
open Go.RowKit Go.Proofs.YtmcibffagofkjaaGreatDoorW.PrintWords Go.Proofs.YtmcibffagofkjaaGreatDoorW.PrintLast Go.Proofs.YtmcibffagofkjaaGreatDoorW.PrintMore
attribute [local go_sem] max2_int min2_int max_two min_two max_three min_three max_four min_four   -- for this text's walks alone
set_option linter.unusedVariables false
set_option linter.unusedSimpArgs false
set_option maxHeartbeats 8000000
set_option maxRecDepth 100000

/-! ### spec_l15Row: function 59 -/
def spec_l15Row.l0 : Nat → List Int → ByteArray → Int → Option (ByteArray)
 | 0, _, _, _ => none
 | k + 1, x0, x3, x4 => if x4 < (x0.length : Int) then (if x4 > 0 then (if x3.size + 1 ≤ 9223372036854775807 then (if 0 ≤ x4 then ((spec_l1Number.f k (rd x0 x4)).bind fun ad => (if (x3 ++ (⟨#[44]⟩ : ByteArray)).size + ad.size ≤ 9223372036854775807 then (spec_l15Row.l0 k x0 ((x3 ++ (⟨#[44]⟩ : ByteArray)) ++ ad) (wrap64 (x4 + 1))) else (none))) else (none)) else (none)) else (if 0 ≤ x4 then ((spec_l1Number.f k (rd x0 x4)).bind fun ag => (if x3.size + ag.size ≤ 9223372036854775807 then (spec_l15Row.l0 k x0 (x3 ++ ag) (wrap64 (x4 + 1))) else (none))) else (none))) else (if (x0.length : Int) = 0 then (some (⟨#[110, 111, 110, 101]⟩ : ByteArray)) else (some x3))
def spec_l15Row.f (k : Nat) (l0 : List Int) : Option (ByteArray) := spec_l15Row.l0 k l0 (⟨#[]⟩ : ByteArray) 0
theorem spec_l15Row.mono_l : ∀ k, (∀ y0 y1 y2, LeO (spec_l15Row.l0 k y0 y1 y2) (spec_l15Row.l0 (k + 1) y0 y1 y2))
 | 0 => fun _ _ _ r h => by simp [spec_l15Row.l0] at h
 | k + 1 => by
  have ih0 := spec_l15Row.mono_l k
  ·
   intro y0 y1 y2
   unfold spec_l15Row.l0
   repeat' (with_reducible first | exact ih0 _ _ _ | exact spec_l1Number.mono _ _ | exact mr_ | exact mn_ | refine mi_ ?_ ?_ | refine mb_ ?_ (fun _ => ?_))
theorem spec_l15Row.mono : ∀ a0 k, LeO (spec_l15Row.f k a0) (spec_l15Row.f (k + 1) a0) := by
 intro a0 k; have ih0 := spec_l15Row.mono_l k; unfold spec_l15Row.f; repeat' (with_reducible first | exact ih0 _ _ _ | exact spec_l1Number.mono _ _ | exact mr_ | exact mn_ | refine mi_ ?_ ?_ | refine mb_ ?_ (fun _ => ?_))
theorem spec_l15Row.calls (k : Nat) (A0 : Option Addr) (c0 : Nat) (l0 : List Int) (r : ByteArray) (w : World) (hr0 : Kd.C (Kd.int .i64) w A0 l0.length l0) (hc0 : l0.length ≤ c0) (h : spec_l15Row.f k l0 = some r) :
  Calls Tryz.prog 59 #[.slice A0 l0.length c0] w fun e w' => e = .returned (.string r) ∧ Below w.heap.size w w' := by
 have HR0 := A_ hr0; have HC0 := A_ hc0; clear hr0 hc0; have HB := A_ (Below.refl w.heap.size w); have H : (spec_l15Row.l0 k l0 (⟨#[]⟩ : ByteArray) 0) = some r := h; clear h; have H' := A_ H; clear H; go_enter Tryz.func59, Tryz.ntmps59; go_wp2
 go_loopg [3, 4] k (fun kq v3 v4 w' => ∃ (ab : ByteArray) (aa : Int), v3 = .string ab ∧ v4 = .int .i64 aa ∧ Aside0 (spec_l15Row.l0 kq l0 ab aa = some r) ∧ Aside0 (kq ≤ k) ∧ Aside0 (Below w.heap.size w w'))
 case atStart => exact ⟨((⟨#[]⟩ : ByteArray)), (0), tx_, tx_, H', ⟨Nat.le_refl _⟩, ⟨(tb_ HB.out)⟩⟩
 case round =>
  clear H'; obtain ⟨ab, aa, rfl, rfl, HA, HK1, HB⟩ := hrel
  cases gk with
  | zero => exact absurd HA.out (by simp [spec_l15Row.l0])
  | succ k1 =>
   have H := HA.out; clear HA; simp only [spec_l15Row.l0] at H; replace H := it_ H; rcases H with ⟨ai, H⟩ | ⟨ai, H⟩
   ·
    replace H := ig_ H; rcases H with ⟨al, H⟩ | ⟨al, H⟩
    ·
     replace H := i0_ H; obtain ⟨c4, H⟩ := H; have am := eq_true c4; have an : decide (ab.size + 1 ≤ 9223372036854775807) = true := decide_eq_true c4; (try have ao : (9223372036854775807 < ab.size + 1) = False := eq_false (Nat.not_lt.2 c4)); replace H := in_ H; obtain ⟨av, H⟩ := H; obtain ⟨ad, A6, H⟩ := bnd_ H; (try dsimp only at H); replace H := i0_ H; obtain ⟨c7, H⟩ := H; have aw := eq_true c7; have ax : decide ((ab ++ (⟨#[44]⟩ : ByteArray)).size + ad.size ≤ 9223372036854775807) = true := decide_eq_true c7; (try have ay : (9223372036854775807 < (ab ++ (⟨#[44]⟩ : ByteArray)).size + ad.size) = False := eq_false (Nat.not_lt.2 c7)); (try have az : (9223372036854775807 < ab.size + 1 + ad.size) = False := eq_false (by have h := c7; simp only [ByteArray.size_append] at h; simp only [ByteArray.size] at h ⊢; simp at h ⊢; omega)); have H' := A_ H; clear H; obtain ⟨p185, q185, ad185, e185, ae⟩ := a2_ (Kd.at_int HR0.out aa); cases e185; replace ae := (HB.out.cell (World.block_lt_of_cell? w _ ae)).trans ae; go_wp2_with (first | ((with_reducible refine gate_callee (f := 79) rfl ?_); refine gl_ (some 20) Tryz.func79 #[.int .i64 (rd l0 aa)] ?_; (with_reducible refine (spec_l1Number.calls k1 (rd l0 aa) ad _ A6.out).mono ?_); rintro e w8 ⟨rfl, hb⟩; refine ⟨_, rfl, ?_⟩; replace HB := bs_ HB hb; (try clear hb)))
     go_roundg k1
     case measure => have := HK1.out; omega
     case rel => exact ⟨((ab ++ (⟨#[44]⟩ : ByteArray)) ++ ad), (wrap64 (aa + 1)), tx_, tx_, H', ⟨by have := HK1.out; omega⟩, ⟨(tb_ HB.out)⟩⟩
    ·
     replace H := in_ H; obtain ⟨aA, H⟩ := H; obtain ⟨ag, A10, H⟩ := bnd_ H; (try dsimp only at H); replace H := i0_ H; obtain ⟨c11, H⟩ := H; have ap := eq_true c11; have aq : decide (ab.size + ag.size ≤ 9223372036854775807) = true := decide_eq_true c11; (try have ar : (9223372036854775807 < ab.size + ag.size) = False := eq_false (Nat.not_lt.2 c11)); have H' := A_ H; clear H; obtain ⟨p187, q187, ad187, e187, af⟩ := a2_ (Kd.at_int HR0.out aa); cases e187; replace af := (HB.out.cell (World.block_lt_of_cell? w _ af)).trans af; go_wp2_with (first | ((with_reducible refine gate_callee (f := 79) rfl ?_); refine gl_ (some 20) Tryz.func79 #[.int .i64 (rd l0 aa)] ?_; (with_reducible refine (spec_l1Number.calls k1 (rd l0 aa) ag _ A10.out).mono ?_); rintro e aB ⟨rfl, hb⟩; refine ⟨_, rfl, ?_⟩; replace HB := bs_ HB hb; (try clear hb)))
     go_roundg k1
     case measure => have := HK1.out; omega
     case rel => exact ⟨(ab ++ ag), (wrap64 (aa + 1)), tx_, tx_, H', ⟨by have := HK1.out; omega⟩, ⟨(tb_ HB.out)⟩⟩
   ·
    by_cases c13 : (l0.length : Int) = 0
    ·
     rw [if_pos c13] at H; have aj : ((l0.length : Int) == 0) = true := beq_iff_eq.mpr c13; have ak : ((l0.length : Int) != 0) = false := bne_eq_false_iff_eq.mpr c13; clear c13; obtain rfl := Option.some.inj H; go_wp2; go_ret; exact ⟨tw_, (tb_ HB.out)⟩
    ·
     rw [if_neg c13] at H; have aj : ((l0.length : Int) == 0) = false := beq_eq_false_iff_ne.mpr c13; have ak : ((l0.length : Int) != 0) = true := bne_iff_ne.mpr c13; have au : ¬ (l0 = []) := fun h_ => c13 (by rw [h_]; rfl); obtain rfl := Option.some.inj H; go_wp2; go_ret; exact ⟨tw_, (tb_ HB.out)⟩

/-! ### spec_l15Step: function 60 -/
def spec_l15Step.f (k : Nat) (a0 : Int) : Option (ByteArray) := if a0 < 0 then ((spec_l1Number.f k (wrap64 (-a0))).bind fun ac => (if 1 + ac.size ≤ 9223372036854775807 then (some ((⟨#[45]⟩ : ByteArray) ++ ac)) else (none))) else ((spec_l1Number.f k a0).bind fun ah => (some ah))
theorem spec_l15Step.mono : ∀ a0 k, LeO (spec_l15Step.f k a0) (spec_l15Step.f (k + 1) a0) := by
 intro a0 k; unfold spec_l15Step.f; repeat' (with_reducible first | exact spec_l1Number.mono _ _ | exact mr_ | exact mn_ | refine mi_ ?_ ?_ | refine mb_ ?_ (fun _ => ?_))
theorem spec_l15Step.calls (k : Nat) (a0 : Int) (r : ByteArray) (w : World) (h : spec_l15Step.f k a0 = some r) :
  Calls Tryz.prog 60 #[.int .i64 a0] w fun e w' => e = .returned (.string r) ∧ Below w.heap.size w w' := by
 have HB := A_ (Below.refl w.heap.size w); have H : (if a0 < 0 then ((spec_l1Number.f k (wrap64 (-a0))).bind fun ac => (if 1 + ac.size ≤ 9223372036854775807 then (some ((⟨#[45]⟩ : ByteArray) ++ ac)) else (none))) else ((spec_l1Number.f k a0).bind fun ah => (some ah))) = some r := h; clear h; replace H := it_ H; rcases H with ⟨ai, H⟩ | ⟨ai, H⟩
 ·
  obtain ⟨ac, A3, H⟩ := bnd_ H; (try dsimp only at H); replace H := i0_ H; obtain ⟨c4, H⟩ := H; have am := eq_true c4; have an : decide (1 + ac.size ≤ 9223372036854775807) = true := decide_eq_true c4; (try have ao : (9223372036854775807 < 1 + ac.size) = False := eq_false (Nat.not_lt.2 c4)); obtain rfl := Option.some.inj H; go_enter Tryz.func60, Tryz.ntmps60; go_wp2_with (first | ((with_reducible refine gate_callee (f := 79) rfl ?_); refine gl_ (some 7) Tryz.func79 #[.int .i64 (wrap64 (-a0))] ?_; (with_reducible refine (spec_l1Number.calls k (wrap64 (-a0)) ac _ A3.out).mono ?_); rintro e w5 ⟨rfl, hb⟩; refine ⟨_, rfl, ?_⟩; replace HB := bs_ HB hb; (try clear hb))); go_ret; exact ⟨tw_, (tb_ HB.out)⟩
 ·
  obtain ⟨ah, A6, H⟩ := bnd_ H; (try dsimp only at H); obtain rfl := Option.some.inj H; go_enter Tryz.func60, Tryz.ntmps60; go_wp2_with (first | ((with_reducible refine gate_callee (f := 79) rfl ?_); refine gl_ (some 10) Tryz.func79 #[.int .i64 a0] ?_; (with_reducible refine (spec_l1Number.calls k a0 ah _ A6.out).mono ?_); rintro e w7 ⟨rfl, hb⟩; refine ⟨_, rfl, ?_⟩; replace HB := bs_ HB hb; (try clear hb))); go_ret; exact ⟨tw_, (tb_ HB.out)⟩

end Go.Proofs.YtmcibffagofkjaaGreatDoor.MFnStoreSync
