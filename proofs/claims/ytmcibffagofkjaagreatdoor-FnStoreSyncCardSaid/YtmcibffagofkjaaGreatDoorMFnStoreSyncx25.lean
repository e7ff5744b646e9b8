/- For the law FnStoreSync: walks of the functions that it reaches: each call returns what the plain function beside it tells. The conditions stand in each statement. -/
import Derived.Test.YtmcibffagofkjaaGreatDoorV
import Derived.Test.YtmcibffagofkjaaGreatDoorMFnStoreSyncx0
import Derived.Test.YtmcibffagofkjaaGreatDoorMFnStoreSyncx3
import Derived.Test.YtmcibffagofkjaaGreatDoorMFnStoreSyncx10
import Derived.Test.YtmcibffagofkjaaGreatDoorMFnStoreSyncx24
namespace Go.Proofs.YtmcibffagofkjaaGreatDoor.MFnStoreSync
open Go.RowKit Go.Proofs.YtmcibffagofkjaaGreatDoorW.PrintWords Go.Proofs.YtmcibffagofkjaaGreatDoorW.PrintLast Go.Proofs.YtmcibffagofkjaaGreatDoorW.PrintMore
attribute [local go_sem] max2_int min2_int max_two min_two max_three min_three max_four min_four   -- for this text's walks alone
set_option linter.unusedVariables false
set_option linter.unusedSimpArgs false
set_option maxHeartbeats 8000000
set_option maxRecDepth 100000

/-! ### spec_l20Open: function 24 -/
def spec_l20Open.f (l0 : List Int) : Option (List Int × Int) := if (l0.length : Int) > 2000 then (if 2000 ≤ (l0.length : Int) then (some (l0.take 2000, 0)) else (none)) else (some (l0, 0))
theorem spec_l20Open.calls (A0 : Option Addr) (c0 : Nat) (l0 : List Int) (r1 : List Int) (r2 : Int) (w0 w : World) (hB : Below w0.heap.size w0 w) (hr0 : Kd.C (Kd.int .u8) w0 A0 l0.length l0) (hc0 : l0.length ≤ c0) (h : spec_l20Open.f l0 = some (r1, r2)) :
  Calls Tryz.prog 24 #[.slice A0 l0.length c0] w fun e w' => ∃ g_ : Nat, e = .returned (.pointer (some ⟨g_, 0, none⟩)) ∧ IsS67 w0 w' g_ r1 r2 ∧ Below w0.heap.size w0 w' ∧ Below w.heap.size w w' := by
 have hu67 := Tryz.underlying67; have HR0 := A_ hr0; have HC0 := A_ hc0; clear hr0 hc0; have HBW := A_ (Below.refl w.heap.size w); have HW0 := A_ hB.size; have HB := A_ hB; clear hB; have H : (if (l0.length : Int) > 2000 then (if 2000 ≤ (l0.length : Int) then (some (l0.take 2000, 0)) else (none)) else (some (l0, 0))) = some (r1, r2) := h; clear h; by_cases c2 : (l0.length : Int) > 2000
 ·
  rw [if_pos c2] at H; have aM : decide (2000 < (l0.length : Int)) = true := decide_eq_true c2; have bk : decide (2000 < l0.length) = true := decide_eq_true (by omega); clear c2; replace H := i0_ H; obtain ⟨c3, H⟩ := H; have aN := eq_true c3; have bM : decide (2000 ≤ (l0.length : Int)) = true := decide_eq_true c3; clear c3; simp only [Option.some.injEq, Prod.mk.injEq] at H; obtain ⟨rfl, rfl⟩ := H; obtain ⟨i04, hi04, _, hsz4, _⟩ := info_parts info5; obtain ⟨hcut4, hA4, hC4⟩ := print_take_of (P := Tryz.prog) (Value.int .u8) 0 22 5 .i64 Tryz.underlying22 hi04 hsz4 A0 c0 l0 2000 (by omega) (od_) HC0.out; have HR658 := A_ (Kd.C_of_reads (h1 := fun _ => rfl) (hA4 _ (Kd.reads_of_C HR0.out))); have HC658 := A_ hC4; clear hA4 hC4 hi04 hsz4; go_enter Tryz.func24, Tryz.ntmps24; go_wp2_with (first | ((with_reducible refine gate_dst (N := 10) rfl ?_); refine be_ 10 #[.slice A0 (l0.take 2000).length c0, .int .i64 0] 67 ?_; intro aw hg w5 aW hb; replace HB := bs_ HB hb; have aX := A_ ((by rw [hg]; exact (below_size (by repeat (first | (with_reducible first | exact HBW.out | apply la_ | apply ln_ | apply ld_) | exact HBW.out))) : w.heap.size ≤ aw)); have aY := A_ ((Nat.le_trans HW0.out (by rw [hg]; exact (below_size (by repeat (first | (with_reducible first | exact HBW.out | apply la_ | apply ln_ | apply ld_) | exact HBW.out))) : w.heap.size ≤ aw) : w0.heap.size ≤ aw)); replace HBW := A_ (below_step HBW.out hb); clear hb hg)); go_ret; exact ⟨_, rfl, (show IsS67 w0 _ aw (l0.take 2000) 0 from ⟨_, _, by exact tk_ aW.out, aY.out, HR658.out⟩), (tb_ HB.out), by repeat (first | (with_reducible first | exact HBW.out | apply la_ | apply ln_ | apply ld_ | refine below_set ?_ aX.out) | exact HBW.out)⟩
 ·
  rw [if_neg c2] at H; have aM : decide (2000 < (l0.length : Int)) = false := decide_eq_false c2; have bk : decide (2000 < l0.length) = false := decide_eq_false (by omega); clear c2; simp only [Option.some.injEq, Prod.mk.injEq] at H; obtain ⟨rfl, rfl⟩ := H; go_enter Tryz.func24, Tryz.ntmps24; go_wp2_with (first | ((with_reducible refine gate_dst (N := 10) rfl ?_); refine be_ 10 #[.slice A0 l0.length c0, .int .i64 0] 67 ?_; intro ax hg w6 aZ hb; replace HB := bs_ HB hb; have a3 := A_ ((by rw [hg]; exact (below_size (by repeat (first | (with_reducible first | exact HBW.out | apply la_ | apply ln_ | apply ld_) | exact HBW.out))) : w.heap.size ≤ ax)); have a4 := A_ ((Nat.le_trans HW0.out (by rw [hg]; exact (below_size (by repeat (first | (with_reducible first | exact HBW.out | apply la_ | apply ln_ | apply ld_) | exact HBW.out))) : w.heap.size ≤ ax) : w0.heap.size ≤ ax)); replace HBW := A_ (below_step HBW.out hb); clear hb hg)); go_ret; exact ⟨_, rfl, (show IsS67 w0 _ ax l0 0 from ⟨_, _, by exact tk_ aZ.out, a4.out, HR0.out⟩), (tb_ HB.out), by repeat (first | (with_reducible first | exact HBW.out | apply la_ | apply ln_ | apply ld_ | refine below_set ?_ a3.out) | exact HBW.out)⟩

/-! ### spec_DrawStoreSync: function 11 -/
def spec_DrawStoreSync.f (k : Nat) (l0 : List Int) : Option (ByteArray × ByteArray × Int) := (spec_l20Open.f l0).bind fun aq => ((spec_l20Store.f k aq.1 aq.2 9).bind fun aj => (some (aj.1, aj.2.1, aj.2.2.1)))
theorem spec_DrawStoreSync.mono : ∀ a0 k, LeO (spec_DrawStoreSync.f k a0) (spec_DrawStoreSync.f (k + 1) a0) := by
 intro a0 k; unfold spec_DrawStoreSync.f; repeat' (with_reducible first | exact spec_l20Store.mono _ _ _ _ | exact mr_ | exact mn_ | refine mi_ ?_ ?_ | refine mb_ ?_ (fun _ => ?_))
theorem spec_DrawStoreSync.calls (k : Nat) (A0 : Option Addr) (c0 : Nat) (l0 : List Int) (r1 : ByteArray) (r2 : ByteArray) (r3 : Int) (w : World) (hr0 : Kd.C (Kd.int .u8) w A0 l0.length l0) (hc0 : l0.length ≤ c0) (h : spec_DrawStoreSync.f k l0 = some (r1, r2, r3)) :
  Calls Tryz.prog 11 #[.slice A0 l0.length c0] w fun e w' => e = .returned (.agg #[.string r1, .string r2, .int .i64 r3]) ∧ Below w.heap.size w w' := by
 have hu24 := Tryz.underlying24; have HR0 := A_ hr0; have HC0 := A_ hc0; clear hr0 hc0; have HB := A_ (Below.refl w.heap.size w); have H : ((spec_l20Open.f l0).bind fun aq => ((spec_l20Store.f k aq.1 aq.2 9).bind fun aj => (some (aj.1, aj.2.1, aj.2.2.1)))) = some (r1, r2, r3) := h; clear h; obtain ⟨⟨a5, a6⟩, A2, H⟩ := bnd_ H; (try dsimp only at H); obtain ⟨⟨a7, a8, a9, bl⟩, A3, H⟩ := bnd_ H; (try dsimp only at H); simp only [Option.some.injEq, Prod.mk.injEq] at H; obtain ⟨rfl, rfl, rfl⟩ := H; go_enter Tryz.func11, Tryz.ntmps11; go_wp2_with (first | ((with_reducible refine gate_dst (N := 2) rfl ?_); refine be_ 2 #[.string (⟨#[]⟩ : ByteArray), .string (⟨#[]⟩ : ByteArray), .int .i64 0] 24 ?_; intro ay hg w4 af hb; have bG := gx_ HB hg; have bH := gx_ HB hg; replace HB := bs_ HB hb; clear hb hg) | ((with_reducible refine gate_callee (f := 24) rfl ?_); refine gl_ (some 4) Tryz.func24 #[.slice A0 l0.length c0] ?_; (with_reducible refine (spec_l20Open.calls _ _ l0 a5 a6 w _ ?s1 ?s2 ?s3 A2.out).mono ?_); (case s1 => exact tb_ HB.out); (case s2 => exact HR0.out); (case s3 => exact HC0.out); rintro e w5 ⟨g664, rfl, hi, hb, hb2⟩; refine ⟨_, rfl, ?_⟩; replace HB := A_ (hb); have HI664 := A_ (hi); have aA := A_ (IsS67.ne_blk hi (blk_below (g := ay) (o := .cells #[.string (⟨#[]⟩ : ByteArray), .string (⟨#[]⟩ : ByteArray), .int .i64 0] 24 (0, 0)) (tk_ af.out) hb2) (by decide)); have ak := A_ (Ne.symm (IsS67.ne_blk hi (blk_below (g := ay) (o := .cells #[.string (⟨#[]⟩ : ByteArray), .string (⟨#[]⟩ : ByteArray), .int .i64 0] 24 (0, 0)) (tk_ af.out) hb2) (by decide))); replace af := A_ (blk_below (g := ay) (o := .cells #[.string (⟨#[]⟩ : ByteArray), .string (⟨#[]⟩ : ByteArray), .int .i64 0] 24 (0, 0)) (tk_ af.out) hb2); (try clear hb hb2 hi)) | ((with_reducible refine gate_callee (f := 23) rfl ?_); refine gl_ (some 5) Tryz.func23 #[.pointer (some ⟨g664, 0, none⟩), .int .i64 9] ?_; (with_reducible refine (spec_l20Store.calls k g664 a5 a6 9 a7 a8 a9 bl w _ ?s1 ?s2 A3.out).mono ?_); (case s1 => exact ti67_ HI664.out); (case s2 => exact tu67_ HB.out); rintro e w6 ⟨rfl, hi, hb, hk⟩; refine ⟨_, rfl, ?_⟩; replace af := kb_ af hk ak; replace HB := A_ (hb); replace HI664 := A_ (hi); (try clear hb hb2 hk hi); have bN := ak.out; have bO := aA.out; obtain ⟨bm, bn, bo, bp, bq, br⟩ := cf3_ af)); refine bodyPost_ret (results_cell_row rfl _ _ ay 24 #[.string a7, .string a8, .int .i64 a9] (0, 0) _ rfl (ps_ af.out) Tryz.underlying24 rfl (by kernel_rfl)) rfl ?_; exact ⟨tw_, tu67_ HB.out⟩

/-! ### impl_StartOk: function 50 -/
def impl_StartOk.l0 : Nat → List Int → List Int → Int → Int → Option (Bool)
 | 0, _, _, _, _ => none
 | k + 1, x0, x5, x6, x7 => if x7 < x6 then (if 0 ≤ x7 then (if x7 < (x5.length : Int) then (if (rd x5 x7) > 10 then (some false) else (impl_StartOk.l0 k x0 x5 x6 (wrap64 (x7 + 1)))) else (none)) else (none)) else ((impl_UrnOk.f k x0).bind fun aO => (some aO))
def impl_StartOk.f (k : Nat) (l0 : List Int) : Option (Bool) := impl_StartOk.l0 k l0 l0 (l0.length : Int) 0
theorem impl_StartOk.mono_l : ∀ k, (∀ y0 y1 y2 y3, LeO (impl_StartOk.l0 k y0 y1 y2 y3) (impl_StartOk.l0 (k + 1) y0 y1 y2 y3))
 | 0 => fun _ _ _ _ r h => by simp [impl_StartOk.l0] at h
 | k + 1 => by
  have ih0 := impl_StartOk.mono_l k
  ·
   intro y0 y1 y2 y3
   unfold impl_StartOk.l0
   repeat' (with_reducible first | exact ih0 _ _ _ _ | exact impl_UrnOk.mono _ _ | exact mr_ | exact mn_ | refine mi_ ?_ ?_ | refine mb_ ?_ (fun _ => ?_))
theorem impl_StartOk.mono : ∀ a0 k, LeO (impl_StartOk.f k a0) (impl_StartOk.f (k + 1) a0) := by
 intro a0 k; have ih0 := impl_StartOk.mono_l k; unfold impl_StartOk.f; repeat' (with_reducible first | exact ih0 _ _ _ _ | exact impl_UrnOk.mono _ _ | exact mr_ | exact mn_ | refine mi_ ?_ ?_ | refine mb_ ?_ (fun _ => ?_))
theorem impl_StartOk.calls (k : Nat) (A0 : Option Addr) (c0 : Nat) (l0 : List Int) (r : Bool) (w : World) (hr0 : Kd.C (Kd.int .i64) w A0 l0.length l0) (hc0 : l0.length ≤ c0) (h : impl_StartOk.f k l0 = some r) :
  Calls Tryz.prog 50 #[.slice A0 l0.length c0] w fun e w' => e = .returned (.bool r) ∧ Drawn0 w w' := by
 have HR0 := A_ hr0; have HC0 := A_ hc0; clear hr0 hc0; have H : (impl_StartOk.l0 k l0 l0 (l0.length : Int) 0) = some r := h; clear h; have H' := A_ H; clear H; go_enter Tryz.func50, Tryz.ntmps50; go_wp2
 go_loopg [7] k (fun kq v7 w' => ∃ (ab : Int), v7 = .int .i64 ab ∧ Aside0 (impl_StartOk.l0 kq l0 l0 (l0.length : Int) ab = some r) ∧ Aside0 (kq ≤ k) ∧ Drawn0 w w')
 case atStart => exact ⟨(0), tx_, H', ⟨Nat.le_refl _⟩, dz_⟩
 case round =>
  clear H'; obtain ⟨ab, rfl, HA, HK1, ⟨m1, rfl⟩⟩ := hrel
  cases gk with
  | zero => exact absurd HA.out (by simp [impl_StartOk.l0])
  | succ k1 =>
   have H := HA.out; clear HA; simp only [impl_StartOk.l0] at H; replace H := it_ H; rcases H with ⟨aM, H⟩ | ⟨aM, H⟩
   ·
    replace H := in_ H; obtain ⟨aN, H⟩ := H; replace H := in_ H; obtain ⟨aP, H⟩ := H; replace H := ig_ H; rcases H with ⟨aD, H⟩ | ⟨aD, H⟩
    ·
     obtain rfl := Option.some.inj H; obtain ⟨p669, q669, ad669, e669, aG⟩ := a2_ (Kd.at_int HR0.out ab); cases e669; go_wp2; go_ret; exact ⟨tx_, dz_⟩
    ·
     have H' := A_ H; clear H; obtain ⟨p669, q669, ad669, e669, aG⟩ := a2_ (Kd.at_int HR0.out ab); cases e669; go_wp2
     go_roundg k1
     case measure => have := HK1.out; omega
     case rel => exact ⟨(wrap64 (ab + 1)), tx_, H', ⟨by have := HK1.out; omega⟩, dz_⟩
   ·
    obtain ⟨aO, A6, H⟩ := bnd_ H; (try dsimp only at H); obtain rfl := Option.some.inj H; go_wp2_with (first | ((with_reducible refine gate_callee (f := 28) rfl ?_); refine gl_ (some 15) Tryz.func28 #[.slice A0 l0.length c0] ?_; (with_reducible refine (impl_UrnOk.calls k1 _ _ l0 aO _ ?s1 ?s2 A6.out).mono ?_); (case s1 => exact td_); (case s2 => exact HC0.out); rintro e w' ⟨rfl, ⟨nd, rfl⟩⟩; refine ⟨_, rfl, ?_⟩)); go_ret; exact ⟨tx_, dz_⟩

/-! ### impl_WordOk: function 51 -/
def impl_WordOk.l0 : Nat → Int → List Int → List Int → Int → Int → Option (Bool)
 | 0, _, _, _, _, _ => none
 | k + 1, x0, x1, x7, x8, x9 => if x9 < x8 then (if 0 ≤ x9 then (if x9 < (x7.length : Int) then (if (rd x7 x9) < 0 then (some false) else (if (rd x7 x9) ≥ x0 then (some false) else (impl_WordOk.l0 k x0 x1 x7 x8 (wrap64 (x9 + 1))))) else (none)) else (none)) else ((impl_coloursOk.f x0).bind fun aQ => (if aQ = true then (some (decide ((x1.length : Int) ≤ 6))) else (some false)))
def impl_WordOk.f (k : Nat) (a0 : Int) (l1 : List Int) : Option (Bool) := impl_WordOk.l0 k a0 l1 l1 (l1.length : Int) 0
theorem impl_WordOk.mono_l : ∀ k, (∀ y0 y1 y2 y3 y4, LeO (impl_WordOk.l0 k y0 y1 y2 y3 y4) (impl_WordOk.l0 (k + 1) y0 y1 y2 y3 y4))
 | 0 => fun _ _ _ _ _ r h => by simp [impl_WordOk.l0] at h
 | k + 1 => by
  have ih0 := impl_WordOk.mono_l k
  ·
   intro y0 y1 y2 y3 y4
   unfold impl_WordOk.l0
   repeat' (with_reducible first | exact ih0 _ _ _ _ _ | exact mr_ | exact mn_ | refine mi_ ?_ ?_ | refine mb_ ?_ (fun _ => ?_))
theorem impl_WordOk.mono : ∀ a0 a1 k, LeO (impl_WordOk.f k a0 a1) (impl_WordOk.f (k + 1) a0 a1) := by
 intro a0 a1 k; have ih0 := impl_WordOk.mono_l k; unfold impl_WordOk.f; repeat' (with_reducible first | exact ih0 _ _ _ _ _ | exact mr_ | exact mn_ | refine mi_ ?_ ?_ | refine mb_ ?_ (fun _ => ?_))
theorem impl_WordOk.calls (k : Nat) (a0 : Int) (A1 : Option Addr) (c1 : Nat) (l1 : List Int) (r : Bool) (w : World) (hr1 : Kd.C (Kd.int .i64) w A1 l1.length l1) (hc1 : l1.length ≤ c1) (h : impl_WordOk.f k a0 l1 = some r) :
  Calls Tryz.prog 51 #[.int .i64 a0, .slice A1 l1.length c1] w fun e w' => e = .returned (.bool r) ∧ Drawn0 w w' := by
 have HR1 := A_ hr1; have HC1 := A_ hc1; clear hr1 hc1; have H : (impl_WordOk.l0 k a0 l1 l1 (l1.length : Int) 0) = some r := h; clear h; have H' := A_ H; clear H; go_enter Tryz.func51, Tryz.ntmps51; go_wp2
 go_loopg [9] k (fun kq v9 w' => ∃ (ae : Int), v9 = .int .i64 ae ∧ Aside0 (impl_WordOk.l0 kq a0 l1 l1 (l1.length : Int) ae = some r) ∧ Aside0 (kq ≤ k) ∧ Drawn0 w w')
 case atStart => exact ⟨(0), tx_, H', ⟨Nat.le_refl _⟩, dz_⟩
 case round =>
  clear H'; obtain ⟨ae, rfl, HA, HK1, ⟨m1, rfl⟩⟩ := hrel
  cases gk with
  | zero => exact absurd HA.out (by simp [impl_WordOk.l0])
  | succ k1 =>
   have H := HA.out; clear HA; simp only [impl_WordOk.l0] at H; replace H := it_ H; rcases H with ⟨aN, H⟩ | ⟨aN, H⟩
   ·
    replace H := in_ H; obtain ⟨aP, H⟩ := H; replace H := in_ H; obtain ⟨aD, H⟩ := H; replace H := it_ H; rcases H with ⟨aE, H⟩ | ⟨aE, H⟩
    ·
     obtain rfl := Option.some.inj H; obtain ⟨p671, q671, ad671, e671, az⟩ := a2_ (Kd.at_int HR1.out ae); cases e671; go_wp2; go_ret; exact ⟨tx_, dz_⟩
    ·
     replace H := ih_ H; rcases H with ⟨aH, H⟩ | ⟨aH, H⟩
     ·
      obtain rfl := Option.some.inj H; obtain ⟨p671, q671, ad671, e671, az⟩ := a2_ (Kd.at_int HR1.out ae); cases e671; go_wp2; go_ret; exact ⟨tx_, dz_⟩
     ·
      have H' := A_ H; clear H; obtain ⟨p671, q671, ad671, e671, az⟩ := a2_ (Kd.at_int HR1.out ae); cases e671; go_wp2
      go_roundg k1
      case measure => have := HK1.out; omega
      case rel => exact ⟨(wrap64 (ae + 1)), tx_, H', ⟨by have := HK1.out; omega⟩, dz_⟩
   ·
    obtain ⟨aQ, A8, H⟩ := bnd_ H; (try dsimp only at H); by_cases c9 : aQ = true
    ·
     subst c9; replace H : (some (decide ((l1.length : Int) ≤ 6))) = some r := by rw [if_pos rfl] at H; exact H
     obtain rfl := Option.some.inj H; go_wp2_with (first | ((with_reducible refine gate_callee (f := 48) rfl ?_); refine gl_ (some 22) Tryz.func48 #[.int .i64 a0] ?_; (with_reducible refine (impl_coloursOk.calls a0 true _ A8.out).mono ?_); rintro e w' ⟨rfl, ⟨nd, rfl⟩⟩; refine ⟨_, rfl, ?_⟩)); go_ret; exact ⟨tx_, dz_⟩
    ·
     replace c9 := Bool.eq_false_iff.mpr c9; subst c9; replace H : (some false) = some r := by rw [if_neg (show ¬ (false = true) by decide)] at H; exact H
     obtain rfl := Option.some.inj H; go_wp2_with (first | ((with_reducible refine gate_callee (f := 48) rfl ?_); refine gl_ (some 22) Tryz.func48 #[.int .i64 a0] ?_; (with_reducible refine (impl_coloursOk.calls a0 false _ A8.out).mono ?_); rintro e w' ⟨rfl, ⟨nd, rfl⟩⟩; refine ⟨_, rfl, ?_⟩)); go_ret; exact ⟨tx_, dz_⟩

/-! ### slices_Clone_int_int: function 63 -/
def slices_Clone_int_int.f (l0 : List Int) : Option (List Int) := if l0.length * 8 ≤ 140737488355328 then some l0 else none
theorem slices_Clone_int_int.calls (A0 : Option Addr) (c0 : Nat) (l0 : List Int) (r : List Int) (w : World) (hr0 : Kd.C (Kd.int .i64) w A0 l0.length l0) (hc0 : l0.length ≤ c0) (h : slices_Clone_int_int.f l0 = some r) :
  Calls Tryz.prog 63 #[.slice A0 l0.length c0] w fun e w' => ∃ v0_ : Value, e = .returned (v0_) ∧ Kd.R (Kd.int .i64) 3 w' w.heap.size (fun _ => True) v0_ r ∧ Below w.heap.size w w' := by
 unfold slices_Clone_int_int.f at h; by_cases hl : l0.length * 8 ≤ 140737488355328
 ·
  rw [if_pos hl] at h; obtain rfl := Option.some.inj h; rcases Nat.eq_zero_or_pos l0.length with h0 | h0
  ·
   obtain rfl : l0 = [] := List.eq_nil_of_length_eq_zero h0
   cases A0 with
   | none => exact (Sh.Tryz.slices_Clone_int_nil 0 c0 w).mono fun e w' ⟨he, hw⟩ => ⟨.slice none 0 0, he, Kd.R_nil _ _ _ _ _, hw ▸ Below.refl _ _⟩
   | some ad => exact (Sh.Tryz.slices_Clone_int_zero ad c0 w).mono fun e w' ⟨v, he, ho, _, hb⟩ => ⟨v, he, Kd.R_of_own (xs := []) ho (fun _ _ => trivial), hb⟩
  ·
   obtain ⟨ad, rfl, hc⟩ := hr0.2.2 h0
   have hcell : ∀ j, j < l0.length → w.cell? (ad.add j) = some (.int .i64 (l0.getD j 0)) := by
    intro j hj; obtain ⟨c, hc1, hc2, hc3⟩ := hc j _ (List.getElem?_eq_getElem hj); have e1 : c = [.int .i64 l0[j]] := hc2; have := hc3 0 _ (by rw [e1]; rfl); rw [List.getD_eq_getElem?_getD, List.getElem?_eq_getElem hj]; simpa [Kd.int, Kd.scalar] using this
   have hs := hcell 0 h0
   have hsp : ad.spot = none := by
    cases hq : ad.spot with
    | none => rfl
    | some q => simp [World.cell?, Addr.add, hq] at hs; split at hs <;> simp at hs
   obtain ⟨b, o, sp⟩ := ad; simp only at hsp; subst hsp; refine (Sh.Tryz.slices_Clone_int b o l0.length c0 l0 w (Nat.le_refl _) hl (fun j hj => by have := hcell j hj; unfold Addr.add at this; split at this <;> simp_all)).mono fun e w' ⟨v, he, ho, _, hb⟩ => ⟨v, he, Kd.R_of_own (by rw [List.take_length] at ho; exact ho) (fun _ _ => trivial), hb⟩
 ·
  rw [if_neg hl] at h; exact absurd h (by simp)

/-! ### impl_added: function 96 -/
def impl_added.l0 : Nat → List Int → List Int → Int → Int → Option (List Int)
 | 0, _, _, _, _ => none
 | k + 1, x5, x10, x11, x12 => if x12 < x11 then (if 0 ≤ x12 then (if x12 < (x10.length : Int) then (if x12 < (x5.length : Int) then (impl_added.l0 k (x5.set (x12 : Int).toNat (wrap64 ((rd x5 x12) + (rd x10 x12)))) x10 x11 (wrap64 (x12 + 1))) else (none)) else (none)) else (none)) else (some x5)
def impl_added.f (k : Nat) (l0 : List Int) (l1 : List Int) : Option (List Int) := (slices_Clone_int_int.f l0).bind fun aB => (impl_added.l0 k aB l1 (l1.length : Int) 0)
theorem impl_added.mono_l : ∀ k, (∀ y0 y1 y2 y3, LeO (impl_added.l0 k y0 y1 y2 y3) (impl_added.l0 (k + 1) y0 y1 y2 y3))
 | 0 => fun _ _ _ _ r h => by simp [impl_added.l0] at h
 | k + 1 => by
  have ih0 := impl_added.mono_l k
  ·
   intro y0 y1 y2 y3
   unfold impl_added.l0
   repeat' (with_reducible first | exact ih0 _ _ _ _ | exact mr_ | exact mn_ | refine mi_ ?_ ?_ | refine mb_ ?_ (fun _ => ?_))
theorem impl_added.mono : ∀ a0 a1 k, LeO (impl_added.f k a0 a1) (impl_added.f (k + 1) a0 a1) := by
 intro a0 a1 k; have ih0 := impl_added.mono_l k; unfold impl_added.f; repeat' (with_reducible first | exact ih0 _ _ _ _ | exact mr_ | exact mn_ | refine mi_ ?_ ?_ | refine mb_ ?_ (fun _ => ?_))
theorem impl_added.calls (k : Nat) (A0 : Option Addr) (c0 : Nat) (l0 : List Int) (A1 : Option Addr) (c1 : Nat) (l1 : List Int) (r : List Int) (w : World) (hr0 : Kd.C (Kd.int .i64) w A0 l0.length l0) (hc0 : l0.length ≤ c0) (hr1 : Kd.C (Kd.int .i64) w A1 l1.length l1) (hc1 : l1.length ≤ c1) (h : impl_added.f k l0 l1 = some r) :
  Calls Tryz.prog 96 #[.slice A0 l0.length c0, .slice A1 l1.length c1] w fun e w' => ∃ v0_ : Value, e = .returned (v0_) ∧ Kd.R (Kd.int .i64) 3 w' w.heap.size (fun _ => True) v0_ r ∧ Below w.heap.size w w' := by
 have HR0 := A_ hr0; have HC0 := A_ hc0; clear hr0 hc0; have HR1 := A_ hr1; have HC1 := A_ hc1; clear hr1 hc1; have HB := A_ (Below.refl w.heap.size w); have H : ((slices_Clone_int_int.f l0).bind fun aB => (impl_added.l0 k aB l1 (l1.length : Int) 0)) = some r := h; clear h; obtain ⟨aB, A3, H⟩ := bnd_ H; (try dsimp only at H); have H' := A_ H; clear H; go_enter Tryz.func96, Tryz.ntmps96; go_wp2_with (first | ((with_reducible refine gate_callee (f := 63) rfl ?_); refine gl_ (some 9) Tryz.func63 #[.slice A0 l0.length c0] ?_; (with_reducible refine (slices_Clone_int_int.calls _ _ l0 aB _ ?s1 ?s2 A3.out).mono ?_); (case s1 => exact td_); (case s2 => exact HC0.out); rintro e w4 ⟨bs, rfl, ho0, hb⟩; refine ⟨_, rfl, ?_⟩; have bb := rx_ ho0 HB; replace HB := bs_ HB hb; (try clear hb ho0)))
 go_loopg [12] k (fun kq bu w' => ∃ (ai : List Int) (aa : Int), bu = .int .i64 aa ∧ Aside0 (impl_added.l0 kq ai l1 (l1.length : Int) aa = some r) ∧ Aside0 (kq ≤ k) ∧ Aside0 (Kd.R (Kd.int .i64) 3 w' w.heap.size (fun _ => True) bs ai) ∧ Aside0 (Below w.heap.size w w'))
 case atStart => exact ⟨(aB), (0), tx_, H', ⟨Nat.le_refl _⟩, ⟨rR_ bb.out⟩, ⟨(tb_ HB.out)⟩⟩
 case round =>
  clear H'; obtain ⟨ai, aa, rfl, HA, HK1, ar, HB⟩ := hrel
  cases gk with
  | zero => exact absurd HA.out (by simp [impl_added.l0])
  | succ k1 =>
   have H := HA.out; clear HA; simp only [impl_added.l0] at H; replace H := it_ H; rcases H with ⟨aD, H⟩ | ⟨aD, H⟩
   ·
    replace H := in_ H; obtain ⟨aE, H⟩ := H; replace H := in_ H; obtain ⟨aH, H⟩ := H; replace H := in_ H; obtain ⟨bc, H⟩ := H; obtain ⟨aR, aF⟩ : ∃ y_ : List Int, y_ = (ai.set (aa : Int).toNat (wrap64 ((rd ai aa) + (rd l1 aa)))) := ⟨_, rfl⟩
    replace H : (impl_added.l0 k1 aR l1 (l1.length : Int) (wrap64 (aa + 1))) = some r := yq_ aF H; have bd := A_ aF; clear aF; have H' := A_ H; clear H; obtain ⟨p676, q676, ad676, e676, am⟩ := a2_ (Kd.at_int HR1.out aa); cases e676; replace am := (HB.out.cell (World.block_lt_of_cell? w _ am)).trans am; obtain ⟨bP, bv, bw⟩ := Kd.R_slice ar.out; subst bw; obtain ⟨p677, q677, ad677, e677, aI⟩ := a2_ (Kd.at_int (Kd.R_reads' ar.out).2.2 aa); cases e677; have p9 : 0 ≤ (aa : Int) := od_; have q9 : (aa : Int) < ((ai.length : Int) : Int) := od_; obtain ⟨go9, co9, bI, bJ, gl9, cl9, HG9⟩ := Kd.R_form ar.out (by omega); (first | cases bI | (injection bI with ea_ en_ ec_; (first | subst ea_ | (injection ea_ with ea_; subst ea_)); subst ec_; clear en_)); have GB9 := A_ bJ; have GG9 := A_ HG9; clear bJ gl9 HG9; (first | simp only [add_plain] at aI | skip); obtain ⟨bK, hf9_0⟩ := Kd.R_celln 0 ar.out (aa : Int) p9 q9; replace p9 := eq_true p9; replace q9 := eq_true q9; have HP11 := Kd.R_putg ar.out (aa : Int) (wrap64 ((rd ai aa) + (rd l1 aa))); go_wp2_with (first | ((with_reducible refine gate_store (t := 3) (p := 23) rfl ?_); refine store_event (t := 3) (p := 23) (v := ?vo_w12) (w1 := (wr.setCell ⟨go9, (aa : Int).toNat, none⟩ (.int .i64 (wrap64 ((rd ai aa) + (rd l1 aa)))))) ?hg ?ho ?hn ?hr ?_; (case ho => rfl); (case hg => rfl); (case hn => rfl); (case hr => first | (go_simp; done) | (go_simp; rfl)); intro bx hw; have hg : wr.grownBy bx (some go9) := (by rw [hw]; exact HP11.2); have hp_ : Kd.R (Kd.int .i64) 3 bx w.heap.size (fun _ => True) (.slice (some ⟨go9, 0, none⟩) ai.length bv) aR := (by rw [hw, bd.out]; exact HP11.1); clear HP11; replace ar := A_ (hp_); replace HB := A_ ((by rw [hw]; exact below_set (HB.out) GB9.out : Below w.heap.size w bx)); clear hg hw hp_))
    go_roundg k1
    case measure => have := HK1.out; omega
    case rel => exact ⟨(aR), (wrap64 (aa + 1)), tx_, H', ⟨by have := HK1.out; omega⟩, ⟨rR_ ar.out⟩, ⟨(tb_ HB.out)⟩⟩
   ·
    obtain rfl := Option.some.inj H; go_wp2; go_ret; exact ⟨_, tw_, by refine qR_ ?_; exact ar.out, (tb_ HB.out)⟩

/-! ### impl_after: function 72 -/
def impl_after.l0 : Nat → List (List Int) → List Int → List Int → Int → Int → Option (List Int)
 | 0, _, _, _, _, _ => none
 | k + 1, x1, x7, x12, x13, x14 => if x14 < x13 then (if 0 ≤ x14 then (if x14 < (x12.length : Int) then (if 0 ≤ (rd x12 x14) then (if (rd x12 x14) < (x1.length : Int) then ((impl_added.f k x7 (rd_L1 x1 (rd x12 x14))).bind fun aJ => (impl_after.l0 k x1 aJ x12 x13 (wrap64 (x14 + 1)))) else (none)) else (none)) else (none)) else (none)) else (some x7)
def impl_after.f (k : Nat) (l0 : List Int) (l1 : List (List Int)) (l2 : List Int) : Option (List Int) := (slices_Clone_int_int.f l0).bind fun aC => (impl_after.l0 k l1 aC l2 (l2.length : Int) 0)
theorem impl_after.mono_l : ∀ k, (∀ y0 y1 y2 y3 y4, LeO (impl_after.l0 k y0 y1 y2 y3 y4) (impl_after.l0 (k + 1) y0 y1 y2 y3 y4))
 | 0 => fun _ _ _ _ _ r h => by simp [impl_after.l0] at h
 | k + 1 => by
  have ih0 := impl_after.mono_l k
  ·
   intro y0 y1 y2 y3 y4
   unfold impl_after.l0
   repeat' (with_reducible first | exact ih0 _ _ _ _ _ | exact impl_added.mono _ _ _ | exact mr_ | exact mn_ | refine mi_ ?_ ?_ | refine mb_ ?_ (fun _ => ?_))
theorem impl_after.mono : ∀ a0 a1 a2 k, LeO (impl_after.f k a0 a1 a2) (impl_after.f (k + 1) a0 a1 a2) := by
 intro a0 a1 a2 k; have ih0 := impl_after.mono_l k; unfold impl_after.f; repeat' (with_reducible first | exact ih0 _ _ _ _ _ | exact impl_added.mono _ _ _ | exact mr_ | exact mn_ | refine mi_ ?_ ?_ | refine mb_ ?_ (fun _ => ?_))
theorem impl_after.calls (k : Nat) (A0 : Option Addr) (c0 : Nat) (l0 : List Int) (A1 : Option Addr) (c1 : Nat) (l1 : List (List Int)) (A2 : Option Addr) (c2 : Nat) (l2 : List Int) (r : List Int) (w : World) (hr0 : Kd.C (Kd.int .i64) w A0 l0.length l0) (hc0 : l0.length ≤ c0) (hr1 : Kd.C (Kd.slice 3 (Kd.int .i64)) w A1 l1.length l1) (hc1 : l1.length ≤ c1) (hr2 : Kd.C (Kd.int .i64) w A2 l2.length l2) (hc2 : l2.length ≤ c2) (h : impl_after.f k l0 l1 l2 = some r) :
  Calls Tryz.prog 72 #[.slice A0 l0.length c0, .slice A1 l1.length c1, .slice A2 l2.length c2] w fun e w' => ∃ v0_ : Value, e = .returned (v0_) ∧ Kd.R (Kd.int .i64) 3 w' w.heap.size (fun _ => True) v0_ r ∧ Below w.heap.size w w' := by
 have HR0 := A_ hr0; have HC0 := A_ hc0; clear hr0 hc0; have HR1 := A_ hr1; have HC1 := A_ hc1; clear hr1 hc1; have HR2 := A_ hr2; have HC2 := A_ hc2; clear hr2 hc2; have HB := A_ (Below.refl w.heap.size w); have H : ((slices_Clone_int_int.f l0).bind fun aC => (impl_after.l0 k l1 aC l2 (l2.length : Int) 0)) = some r := h; clear h; obtain ⟨aC, A4, H⟩ := bnd_ H; (try dsimp only at H); have H' := A_ H; clear H; go_enter Tryz.func72, Tryz.ntmps72; go_wp2_with (first | ((with_reducible refine gate_callee (f := 63) rfl ?_); refine gl_ (some 11) Tryz.func63 #[.slice A0 l0.length c0] ?_; (with_reducible refine (slices_Clone_int_int.calls _ _ l0 aC _ ?s1 ?s2 A4.out).mono ?_); (case s1 => exact td_); (case s2 => exact HC0.out); rintro e w5 ⟨bQ, rfl, ho0, hb⟩; refine ⟨_, rfl, ?_⟩; have be := rx_ ho0 HB; replace HB := bs_ HB hb; (try clear hb ho0)))
 go_loopg [7, 14] k (fun kq v7 bR w' => ∃ (ab : List Int) (ac : Int), bR = .int .i64 ac ∧ Aside0 (impl_after.l0 kq l1 ab l2 (l2.length : Int) ac = some r) ∧ Aside0 (kq ≤ k) ∧ Aside0 (Kd.R (Kd.int .i64) 3 w' w.heap.size (fun _ => True) v7 ab) ∧ Aside0 (Below w.heap.size w w'))
 case atStart => exact ⟨(aC), (0), tx_, H', ⟨Nat.le_refl _⟩, ⟨rR_ be.out⟩, ⟨(tb_ HB.out)⟩⟩
 case round =>
  clear H'; obtain ⟨ab, ac, rfl, HA, HK1, av, HB⟩ := hrel
  cases gk with
  | zero => exact absurd HA.out (by simp [impl_after.l0])
  | succ k1 =>
   have H := HA.out; clear HA; simp only [impl_after.l0] at H; replace H := it_ H; rcases H with ⟨aE, H⟩ | ⟨aE, H⟩
   ·
    replace H := in_ H; obtain ⟨aH, H⟩ := H; replace H := in_ H; obtain ⟨bc, H⟩ := H; replace H := in_ H; obtain ⟨bS, H⟩ := H; replace H := in_ H; obtain ⟨bf, H⟩ := H; obtain ⟨aJ, A11, H⟩ := bnd_ H; (try dsimp only at H); have H' := A_ H; clear H; obtain ⟨p682, q682, ad682, e682, an⟩ := a2_ (Kd.at_int HR2.out ac); cases e682; replace an := (HB.out.cell (World.block_lt_of_cell? w _ an)).trans an; obtain ⟨p683, q683, ad683, aU, aV, e683, ao, hl683_0, hi683_0⟩ := a2_ (at_L1 HR1.out (rd l2 ac)); cases e683; replace ao := (HB.out.cell (World.block_lt_of_cell? w _ ao)).trans ao; have bj := A_ hi683_0; have aK := A_ hl683_0; clear hi683_0 hl683_0; obtain ⟨bz, bB, bC⟩ := Kd.R_slice av.out; subst bC; go_wp2_with (first | ((with_reducible refine gate_callee (f := 96) rfl ?_); refine gl_ (some 23) Tryz.func96 #[.slice bz ab.length bB, .slice aU (rd_L1 l1 (rd l2 ac)).length aV] ?_; (with_reducible refine (impl_added.calls k1 _ _ ab _ _ (rd_L1 l1 (rd l2 ac)) aJ _ ?s1 ?s2 ?s3 ?s4 A11.out).mono ?_); (case s1 => exact rc_ av); (case s2 => exact (ll_ av)); (case s3 => exact tD_); (case s4 => exact aK.out); rintro e b1 ⟨bU, rfl, ho0, hb⟩; refine ⟨_, rfl, ?_⟩; have bg := rx_ (nR_ ho0 (Kd.R_lt (rR_ av.out))) HB; replace av := A_ (Kd.R_elder' (rR_ av.out) (Kd.R_base ho0) hb); replace HB := bs_ HB hb; (try clear hb ho0)))
    go_roundg k1
    case measure => have := HK1.out; omega
    case rel => exact ⟨(aJ), (wrap64 (ac + 1)), tx_, H', ⟨by have := HK1.out; omega⟩, ⟨by refine qR_ ?_; exact Kd.R_mono bg.out (fun _ hk => trivial)⟩, ⟨(tb_ HB.out)⟩⟩
   ·
    obtain rfl := Option.some.inj H; go_wp2; go_ret; exact ⟨_, tw_, by refine qR_ ?_; exact av.out, (tb_ HB.out)⟩

/-! ### impl_ruleWays: function 52 -/
def impl_ruleWays.l0 : Nat → List Int → List (List Int) → List Int → Int → List Int → Int → Int → Option (Int)
 | 0, _, _, _, _, _, _, _ => none
 | k + 1, x0, x1, x2, x7, x10, x11, x12 => if x12 < x11 then (if 0 ≤ x12 then (if x12 < (x10.length : Int) then (if x12 ≤ (x2.length : Int) then ((impl_after.f k x0 x1 (x2.take (x12 : Int).toNat)).bind fun ah => (if 0 ≤ (rd x10 x12) then (if (rd x10 x12) < (ah.length : Int) then (if (wrap64 (x7 * (mx 0 (rd ah (rd x10 x12))))) = 0 then (some 0) else (impl_ruleWays.l0 k x0 x1 x2 (wrap64 (x7 * (mx 0 (rd ah (rd x10 x12))))) x10 x11 (wrap64 (x12 + 1)))) else (none)) else (none))) else (none)) else (none)) else (none)) else (some x7)
def impl_ruleWays.f (k : Nat) (l0 : List Int) (l1 : List (List Int)) (l2 : List Int) : Option (Int) := impl_ruleWays.l0 k l0 l1 l2 1 l2 (l2.length : Int) 0
theorem impl_ruleWays.mono_l : ∀ k, (∀ y0 y1 y2 y3 y4 y5 y6, LeO (impl_ruleWays.l0 k y0 y1 y2 y3 y4 y5 y6) (impl_ruleWays.l0 (k + 1) y0 y1 y2 y3 y4 y5 y6))
 | 0 => fun _ _ _ _ _ _ _ r h => by simp [impl_ruleWays.l0] at h
 | k + 1 => by
  have ih0 := impl_ruleWays.mono_l k
  ·
   intro y0 y1 y2 y3 y4 y5 y6
   unfold impl_ruleWays.l0
   repeat' (with_reducible first | exact ih0 _ _ _ _ _ _ _ | exact impl_after.mono _ _ _ _ | exact mr_ | exact mn_ | refine mi_ ?_ ?_ | refine mb_ ?_ (fun _ => ?_))
theorem impl_ruleWays.mono : ∀ a0 a1 a2 k, LeO (impl_ruleWays.f k a0 a1 a2) (impl_ruleWays.f (k + 1) a0 a1 a2) := by
 intro a0 a1 a2 k; have ih0 := impl_ruleWays.mono_l k; unfold impl_ruleWays.f; repeat' (with_reducible first | exact ih0 _ _ _ _ _ _ _ | exact impl_after.mono _ _ _ _ | exact mr_ | exact mn_ | refine mi_ ?_ ?_ | refine mb_ ?_ (fun _ => ?_))
theorem impl_ruleWays.calls (k : Nat) (A0 : Option Addr) (c0 : Nat) (l0 : List Int) (A1 : Option Addr) (c1 : Nat) (l1 : List (List Int)) (A2 : Option Addr) (c2 : Nat) (l2 : List Int) (r : Int) (w : World) (hr0 : Kd.C (Kd.int .i64) w A0 l0.length l0) (hc0 : l0.length ≤ c0) (hr1 : Kd.C (Kd.slice 3 (Kd.int .i64)) w A1 l1.length l1) (hc1 : l1.length ≤ c1) (hr2 : Kd.C (Kd.int .i64) w A2 l2.length l2) (hc2 : l2.length ≤ c2) (h : impl_ruleWays.f k l0 l1 l2 = some r) :
  Calls Tryz.prog 52 #[.slice A0 l0.length c0, .slice A1 l1.length c1, .slice A2 l2.length c2] w fun e w' => e = .returned (.int .i64 r) ∧ Below w.heap.size w w' := by
 have HR0 := A_ hr0; have HC0 := A_ hc0; clear hr0 hc0; have HR1 := A_ hr1; have HC1 := A_ hc1; clear hr1 hc1; have HR2 := A_ hr2; have HC2 := A_ hc2; clear hr2 hc2; have HB := A_ (Below.refl w.heap.size w); have H : (impl_ruleWays.l0 k l0 l1 l2 1 l2 (l2.length : Int) 0) = some r := h; clear h; have H' := A_ H; clear H; go_enter Tryz.func52, Tryz.ntmps52; go_wp2
 go_loopg [7, 12] k (fun kq v7 bu w' => ∃ (ab : Int) (aa : Int), v7 = .int .i64 ab ∧ bu = .int .i64 aa ∧ Aside0 (impl_ruleWays.l0 kq l0 l1 l2 ab l2 (l2.length : Int) aa = some r) ∧ Aside0 (kq ≤ k) ∧ Aside0 (Below w.heap.size w w'))
 case atStart => exact ⟨(1), (0), tx_, tx_, H', ⟨Nat.le_refl _⟩, ⟨(tb_ HB.out)⟩⟩
 case round =>
  clear H'; obtain ⟨ab, aa, rfl, rfl, HA, HK1, HB⟩ := hrel
  cases gk with
  | zero => exact absurd HA.out (by simp [impl_ruleWays.l0])
  | succ k1 =>
   have H := HA.out; clear HA; simp only [impl_ruleWays.l0] at H; replace H := it_ H; rcases H with ⟨aP, H⟩ | ⟨aP, H⟩
   ·
    replace H := in_ H; obtain ⟨aD, H⟩ := H; replace H := in_ H; obtain ⟨aE, H⟩ := H; have aH := eq_true (od_ : 0 ≤ aa); replace H := i0_ H; obtain ⟨c8, H⟩ := H; have bc := eq_true c8; have bV : decide (aa ≤ (l2.length : Int)) = true := decide_eq_true c8; clear c8; obtain ⟨ah, A9, H⟩ := bnd_ H; (try dsimp only at H); replace H := in_ H; obtain ⟨bf, H⟩ := H; replace H := in_ H; obtain ⟨bL, H⟩ := H; obtain ⟨ap, al⟩ : ∃ j_ : Int, (mx 0 (rd ah (rd l2 aa))) = j_ := ⟨_, rfl⟩
    replace H : (if (wrap64 (ab * (ap))) = 0 then (some 0) else (impl_ruleWays.l0 k1 l0 l1 l2 (wrap64 (ab * (ap))) l2 (l2.length : Int) (wrap64 (aa + 1)))) = some r := by first | (rw [al] at H; exact H) | (simp only [al] at H ⊢; exact H)
    (try rw [al] at A9); have hji12_ : (if 0 < (rd ah (rd l2 aa)) then (rd ah (rd l2 aa)) else 0) = ap := al; by_cases c13 : (wrap64 (ab * (ap))) = 0
    ·
     rw [if_pos c13] at H; have bh : ((wrap64 (ab * (ap))) == 0) = true := beq_iff_eq.mpr c13; have bi : ((wrap64 (ab * (ap))) != 0) = false := bne_eq_false_iff_eq.mpr c13; clear c13; obtain rfl := Option.some.inj H; obtain ⟨p687, q687, ad687, e687, ag⟩ := a2_ (Kd.at_int HR2.out aa); cases e687; replace ag := (HB.out.cell (World.block_lt_of_cell? w _ ag)).trans ag; obtain ⟨i014, hi014, _, hsz14, _⟩ := info_parts info3; obtain ⟨hcut14, hA14, hC14⟩ := print_take_of (P := Tryz.prog) (Value.int .i64) 0 34 3 .i64 Tryz.underlying34 hi014 hsz14 (some ad687) c2 l2 aa (od_) (od_) HC2.out; have HR688 := A_ (Kd.C_of_reads (h1 := fun _ => rfl) (hA14 _ (Kd.reads_of_C HR2.out))); have HC688 := A_ hC14; clear hA14 hC14 hi014 hsz14; go_wp2_with (first | ((with_reducible refine gate_callee (f := 72) rfl ?_); refine goesL_ (some 23) rfl rfl Tryz.func72 (by kernel_rfl) rfl #[.slice A0 l0.length c0, .slice A1 l1.length c1, .slice (some ad687) (l2.take (aa : Int).toNat).length c2] rfl (by (try simp only [List.map_toArray, List.map_cons, List.map_nil]); first | done | (rw [show (l2.take (aa : Int).toNat).length = aa.toNat from (by rw [List.length_take]; have h_ : (aa : Int) ≤ (l2.length : Int) := od_; omega)] <;> rfl) | rfl | (simp only [List.length_drop, List.length_take]; rfl)) ?_; (with_reducible refine (impl_after.calls k1 _ _ l0 _ _ l1 _ _ (l2.take (aa : Int).toNat) ah _ ?s1 ?s2 ?s3 ?s4 ?s5 ?s6 A9.out).mono ?_); (case s1 => exact tD_); (case s2 => exact HC0.out); (case s3 => exact tD_); (case s4 => exact HC1.out); (case s5 => exact tD_); (case s6 => exact HC688.out); rintro e b2 ⟨bD, rfl, ho0, hb⟩; refine ⟨_, rfl, ?_⟩; have au := rx_ ho0 HB; replace HB := bs_ HB hb; (try clear hb ho0); obtain ⟨bW, bX, bE⟩ := Kd.R_slice au.out; subst bE; obtain ⟨p692, q692, ad692, e692, aL⟩ := a2_ (Kd.at_int (Kd.R_reads' au.out).2.2 (rd l2 aa)); cases e692)); go_ret; exact ⟨by first | rfl | (simp [errW_none, errW_some, Option.map_none, Option.map_some] <;> rfl) | (simp only [← al]; first | rfl | (simp [errW_none, errW_some, Option.map_none, Option.map_some] <;> rfl)) | (simp [*, errW_none, errW_some] <;> rfl), (tb_ HB.out)⟩
    ·
     rw [if_neg c13] at H; have bh : ((wrap64 (ab * (ap))) == 0) = false := beq_eq_false_iff_ne.mpr c13; have bi : ((wrap64 (ab * (ap))) != 0) = true := bne_iff_ne.mpr c13; have H' := A_ H; clear H; obtain ⟨p687, q687, ad687, e687, ag⟩ := a2_ (Kd.at_int HR2.out aa); cases e687; replace ag := (HB.out.cell (World.block_lt_of_cell? w _ ag)).trans ag; obtain ⟨i017, hi017, _, hsz17, _⟩ := info_parts info3; obtain ⟨hcut17, hA17, hC17⟩ := print_take_of (P := Tryz.prog) (Value.int .i64) 0 34 3 .i64 Tryz.underlying34 hi017 hsz17 (some ad687) c2 l2 aa (od_) (od_) HC2.out; have HR688 := A_ (Kd.C_of_reads (h1 := fun _ => rfl) (hA17 _ (Kd.reads_of_C HR2.out))); have HC688 := A_ hC17; clear hA17 hC17 hi017 hsz17; go_wp2_with (first | ((with_reducible refine gate_callee (f := 72) rfl ?_); refine goesL_ (some 23) rfl rfl Tryz.func72 (by kernel_rfl) rfl #[.slice A0 l0.length c0, .slice A1 l1.length c1, .slice (some ad687) (l2.take (aa : Int).toNat).length c2] rfl (by (try simp only [List.map_toArray, List.map_cons, List.map_nil]); first | done | (rw [show (l2.take (aa : Int).toNat).length = aa.toNat from (by rw [List.length_take]; have h_ : (aa : Int) ≤ (l2.length : Int) := od_; omega)] <;> rfl) | rfl | (simp only [List.length_drop, List.length_take]; rfl)) ?_; (with_reducible refine (impl_after.calls k1 _ _ l0 _ _ l1 _ _ (l2.take (aa : Int).toNat) ah _ ?s1 ?s2 ?s3 ?s4 ?s5 ?s6 A9.out).mono ?_); (case s1 => exact tD_); (case s2 => exact HC0.out); (case s3 => exact tD_); (case s4 => exact HC1.out); (case s5 => exact tD_); (case s6 => exact HC688.out); rintro e b3 ⟨bD, rfl, ho0, hb⟩; refine ⟨_, rfl, ?_⟩; have au := rx_ ho0 HB; replace HB := bs_ HB hb; (try clear hb ho0); obtain ⟨bZ, b0, bF⟩ := Kd.R_slice au.out; subst bF; obtain ⟨p692, q692, ad692, e692, aL⟩ := a2_ (Kd.at_int (Kd.R_reads' au.out).2.2 (rd l2 aa)); cases e692))
     go_roundg k1
     case measure => have := HK1.out; omega
     case rel => exact ⟨(wrap64 (ab * (ap))), (wrap64 (aa + 1)), (by first | rfl | (simp; done) | (simp only [← al] <;> (first | rfl | simp)) | (simp [*]; done)), tx_, H', ⟨by have := HK1.out; omega⟩, ⟨(tb_ HB.out)⟩⟩
   ·
    obtain rfl := Option.some.inj H; go_wp2; go_ret; exact ⟨tw_, (tb_ HB.out)⟩

end Go.Proofs.YtmcibffagofkjaaGreatDoor.MFnStoreSync
