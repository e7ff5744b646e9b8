/- For the law FnJournalText: walks of the functions that it reaches: each call returns what the plain function beside it tells. The conditions stand in each statement. -/
import Derived.Test.YtlhiienanbpdlaaDoorV
import Derived.Test.YtlhiienanbpdlaaDoorMFnJournalTextx0
namespace Go.Proofs.YtlhiienanbpdlaaDoor.MFnJournalText
open Go.RowKit Go.Proofs.YtlhiienanbpdlaaDoorW.PrintWords Go.Proofs.YtlhiienanbpdlaaDoorW.PrintLast Go.Proofs.YtlhiienanbpdlaaDoorW.PrintMore
attribute [local go_sem] max2_int min2_int max_two min_two max_three min_three max_four min_four   -- for this text's walks alone
set_option linter.unusedVariables false
set_option linter.unusedSimpArgs false

/-! ### impl_coloursOk: function 75 -/
def impl_coloursOk.f (a0 : Int) : Option (Bool) := if a0 ≥ 1 then (some (decide (a0 ≤ 3))) else (some false)
set_option maxHeartbeats 8000000 in
set_option maxRecDepth 100000 in
theorem impl_coloursOk.calls (a0 : Int) (r : Bool) (w : World) (h : impl_coloursOk.f a0 = some r) :
  Calls Tryd.prog 75 #[.int .i64 a0] w fun e w' => e = .returned (.bool r) ∧ Drawn0 w w' := by
 have H : (if a0 ≥ 1 then (some (decide (a0 ≤ 3))) else (some false)) = some r := h
 clear h
 by_cases c2 : a0 ≥ 1
 ·
  rw [if_pos c2] at H
  have aE : decide (1 ≤ a0) = true := decide_eq_true c2
  clear c2
  obtain rfl := Option.some.inj H
  go_enter Tryd.func75, Tryd.ntmps75
  go_wp2
  go_ret
  exact ⟨tx_, by repeat (first | exact Drawn0.refl _ | apply Drawn0.step)⟩
 ·
  rw [if_neg c2] at H
  have aE : decide (1 ≤ a0) = false := decide_eq_false c2
  clear c2
  obtain rfl := Option.some.inj H
  go_enter Tryd.func75, Tryd.ntmps75
  go_wp2
  go_ret
  exact ⟨tx_, by repeat (first | exact Drawn0.refl _ | apply Drawn0.step)⟩

/-! ### impl_UrnOk: function 74 -/
def impl_UrnOk.l0 : Nat → List Int → List Int → Int → Int → Option (Bool)
 | 0, _, _, _, _ => none
 | k + 1, x0, x5, x6, x7 => if x7 < x6 then (if 0 ≤ x7 then (if x7 < (x5.length : Int) then (if (rd x5 x7) < 0 then (some false) else (if (rd x5 x7) > 40 then (some false) else (impl_UrnOk.l0 k x0 x5 x6 (wrap64 (x7 + 1))))) else (none)) else (none)) else ((impl_coloursOk.f (x0.length : Int)).bind fun aF => (some aF))
def impl_UrnOk.f (k : Nat) (l0 : List Int) : Option (Bool) := impl_UrnOk.l0 k l0 l0 (l0.length : Int) 0
theorem impl_UrnOk.mono_l : ∀ k, (∀ y0 y1 y2 y3, LeO (impl_UrnOk.l0 k y0 y1 y2 y3) (impl_UrnOk.l0 (k + 1) y0 y1 y2 y3))
 | 0 => fun _ _ _ _ r h => by simp [impl_UrnOk.l0] at h
 | k + 1 => by
  have ih0 := impl_UrnOk.mono_l k
  ·
   intro y0 y1 y2 y3
   unfold impl_UrnOk.l0
   repeat' (with_reducible first | exact ih0 _ _ _ _ | exact mr_ | exact mn_ | refine mi_ ?_ ?_ | refine mb_ ?_ (fun _ => ?_))
theorem impl_UrnOk.mono : ∀ a0 k, LeO (impl_UrnOk.f k a0) (impl_UrnOk.f (k + 1) a0) := by
 intro a0 k
 have ih0 := impl_UrnOk.mono_l k
 unfold impl_UrnOk.f
 repeat' (with_reducible first | exact ih0 _ _ _ _ | exact mr_ | exact mn_ | refine mi_ ?_ ?_ | refine mb_ ?_ (fun _ => ?_))
set_option maxHeartbeats 8000000 in
set_option maxRecDepth 100000 in
theorem impl_UrnOk.calls (k : Nat) (A0 : Option Addr) (c0 : Nat) (l0 : List Int) (r : Bool) (w : World) (hr0 : Kd.C (Kd.int .i64) w A0 l0.length l0) (hc0 : l0.length ≤ c0) (h : impl_UrnOk.f k l0 = some r) :
  Calls Tryd.prog 74 #[.slice A0 l0.length c0] w fun e w' => e = .returned (.bool r) ∧ Drawn0 w w' := by
 have HR0 := Aside0.mk hr0
 have HC0 := Aside0.mk hc0
 clear hr0 hc0
 have H : (impl_UrnOk.l0 k l0 l0 (l0.length : Int) 0) = some r := h
 clear h
 have H' := Aside0.mk H
 clear H
 go_enter Tryd.func74, Tryd.ntmps74
 go_wp2
 go_loopg [7] k (fun kq v7 w' => ∃ (ac : Int), v7 = .int .i64 ac ∧ Aside0 (impl_UrnOk.l0 kq l0 l0 (l0.length : Int) ac = some r) ∧ Aside0 (kq ≤ k) ∧ Drawn0 w w')
 case atStart => exact ⟨(0), tx_, H', ⟨Nat.le_refl _⟩, by repeat (first | exact Drawn0.refl _ | apply Drawn0.step)⟩
 case round =>
  clear H'
  obtain ⟨ac, rfl, HA, HK1, ⟨m1, rfl⟩⟩ := hrel
  cases gk with
  | zero => exact absurd HA.out (by simp [impl_UrnOk.l0])
  | succ k1 =>
   have H := HA.out
   clear HA
   simp only [impl_UrnOk.l0] at H
   by_cases c2 : ac < (l0.length : Int)
   ·
    rw [if_pos c2] at H
    have aE : decide (ac < (l0.length : Int)) = true := decide_eq_true c2
    clear c2
    by_cases c3 : 0 ≤ ac
    ·
     rw [if_pos c3] at H
     have a3 : decide (0 ≤ ac) = true := decide_eq_true c3
     clear c3
     by_cases c4 : ac < (l0.length : Int)
     ·
      rw [if_pos c4] at H
      have ai : decide (ac < (l0.length : Int)) = true := decide_eq_true c4
      clear c4
      by_cases c5 : (rd l0 ac) < 0
      ·
       rw [if_pos c5] at H
       have a4 : decide ((rd l0 ac) < 0) = true := decide_eq_true c5
       clear c5
       obtain rfl := Option.some.inj H
       have p101 : 0 ≤ (ac : Int) := od_
       have q101 : ac < (l0.length : Int) := od_
       obtain ⟨ad101, e101, ak⟩ := Kd.at_int HR0.out ac p101 q101
       cases e101
       replace p101 := eq_true p101
       replace q101 := eq_true q101
       go_wp2
       go_ret
       exact ⟨tx_, by repeat (first | exact Drawn0.refl _ | apply Drawn0.step)⟩
      ·
       rw [if_neg c5] at H
       have a4 : decide ((rd l0 ac) < 0) = false := decide_eq_false c5
       clear c5
       by_cases c6 : (rd l0 ac) > 40
       ·
        rw [if_pos c6] at H
        have ap : decide (40 < (rd l0 ac)) = true := decide_eq_true c6
        clear c6
        obtain rfl := Option.some.inj H
        have p101 : 0 ≤ (ac : Int) := od_
        have q101 : ac < (l0.length : Int) := od_
        obtain ⟨ad101, e101, ak⟩ := Kd.at_int HR0.out ac p101 q101
        cases e101
        replace p101 := eq_true p101
        replace q101 := eq_true q101
        go_wp2
        go_ret
        exact ⟨tx_, by repeat (first | exact Drawn0.refl _ | apply Drawn0.step)⟩
       ·
        rw [if_neg c6] at H
        have ap : decide (40 < (rd l0 ac)) = false := decide_eq_false c6
        clear c6
        have H' := Aside0.mk H
        clear H
        have p101 : 0 ≤ (ac : Int) := od_
        have q101 : ac < (l0.length : Int) := od_
        obtain ⟨ad101, e101, ak⟩ := Kd.at_int HR0.out ac p101 q101
        cases e101
        replace p101 := eq_true p101
        replace q101 := eq_true q101
        go_wp2
        go_roundg k1
        case measure => have := HK1.out; omega
        case rel => exact ⟨(wrap64 (ac + 1)), tx_, H', ⟨by have := HK1.out; omega⟩, by repeat (first | exact Drawn0.refl _ | apply Drawn0.step)⟩
     ·
      rw [if_neg c4] at H
      exact absurd H (by simp)
    ·
     rw [if_neg c3] at H
     exact absurd H (by simp)
   ·
    rw [if_neg c2] at H
    have aE : decide (ac < (l0.length : Int)) = false := decide_eq_false c2
    clear c2
    obtain ⟨aF, A7, H⟩ := bnd_ H
    try dsimp only at H
    obtain rfl := Option.some.inj H
    go_wp2_with (first | ((with_reducible refine gate_callee (f := 75) rfl ?_); refine gl_ (some 20) Tryd.func75 #[.int .i64 (l0.length : Int)] ?_; (with_reducible refine (impl_coloursOk.calls (l0.length : Int) aF _ A7.out).mono ?_); rintro e w' ⟨rfl, ⟨nd, rfl⟩⟩; refine ⟨_, rfl, ?_⟩))
    go_ret
    exact ⟨tx_, by repeat (first | exact Drawn0.refl _ | apply Drawn0.step)⟩

/-! ### laws_alive: function 20 -/
def laws_alive.f (k : Nat)  : Option (Bool) := (impl_UrnOk.f k (([1] : List Int))).bind fun aj => (if aj = true then ((impl_UrnOk.f k (([] : List Int))).bind fun ag => (some (!ag))) else (some false))
theorem laws_alive.mono : ∀ k, LeO (laws_alive.f k ) (laws_alive.f (k + 1) ) := by
 intro  k
 unfold laws_alive.f
 repeat' (with_reducible first | exact impl_UrnOk.mono _ _ | exact mr_ | exact mn_ | refine mi_ ?_ ?_ | refine mb_ ?_ (fun _ => ?_))
set_option maxHeartbeats 8000000 in
set_option maxRecDepth 100000 in
theorem laws_alive.calls (k : Nat)  (r : Bool) (w : World) (h : laws_alive.f k  = some r) :
  Calls Tryd.prog 20 #[] w fun e w' => e = .returned (.bool r) ∧ Below w.heap.size w w' := by
 have HB := Aside0.mk (Below.refl w.heap.size w)
 have H : ((impl_UrnOk.f k (([1] : List Int))).bind fun aj => (if aj = true then ((impl_UrnOk.f k (([] : List Int))).bind fun ag => (some (!ag))) else (some false))) = some r := h
 clear h
 obtain ⟨aq, ar⟩ : ∃ y_ : List Int, y_ = (([1] : List Int)) := ⟨_, rfl⟩
 replace H : ((impl_UrnOk.f k aq).bind fun aj => (if aj = true then ((impl_UrnOk.f k (([] : List Int))).bind fun ag => (some (!ag))) else (some false))) = some r := yq_ ar H
 have al := Aside0.mk ar
 clear ar
 obtain ⟨aj, A1, H⟩ := bnd_ H
 try dsimp only at H
 by_cases c2 : aj = true
 ·
  subst c2
  have H1 : ((impl_UrnOk.f k (([] : List Int))).bind fun ag => (some (!ag))) = some r := by rw [if_pos rfl] at H; exact H
  clear H
  have H := H1
  clear H1
  obtain ⟨a5, au⟩ : ∃ y_ : List Int, y_ = (([] : List Int)) := ⟨_, rfl⟩
  replace H : ((impl_UrnOk.f k a5).bind fun ag => (some (!ag))) = some r := yq_ au H
  have aD := Aside0.mk au
  clear au
  obtain ⟨ag, A3, H⟩ := bnd_ H
  try dsimp only at H
  obtain rfl := Option.some.inj H
  go_enter Tryd.func20, Tryd.ntmps20
  go_wp2_with (first | ((with_reducible refine gate_dst (N := 1) rfl ?_); (try (refine gate_guard (by rfl) ?_; dsimp only)); refine Kd.R_lit (Kd.int .i64) _ 3 ?hg (N := 1) ?hd (xs := ([1] : List Int)) (inner := [.int .i64 1]) (ok := fun _ => True) (okp := fun _ => True) ?hr ?hp (fun _ hk => hk) trivial (Below.refl _ _) (Nat.le_refl _) (by simp) ?_; (case hd => rfl); (case hg => rfl); (case hr => first | (go_simp; done) | (go_simp; rfl)); (case hp => exact (Reps.one (show Kd.M (Kd.int .i64) _ _ _ 1 [.int .i64 1] from rfl) (Reps.none _ _))); intro c7 w4 ho5 hb hg_ hnew_; clear hg_ hnew_; (first | rw [← al.out] at ho5 | (simp only [Int.reduceToNat] at ho5; rw [← al.out] at ho5)); have ae := rx_ ho5 HB; replace HB := bs_ HB hb; clear hb ho5; obtain ⟨dD, co6, dE⟩ := Kd.R_slice ae.out; subst dE) | ((with_reducible refine gate_callee (f := 74) rfl ?_); refine gl_ (some 2) Tryd.func74 #[.slice dD aq.length co6] ?_; (with_reducible refine (impl_UrnOk.calls k _ _ aq true _ ?s1 ?s2 A1.out).mono ?_); (case s1 => repeat (first | exact (Kd.R_reads' ae.out).2.2 | (with_reducible refine Kd.C_alloc ?_ _) | (with_reducible refine Kd.C_drewN ?_ _) | (with_reducible refine Kd.C_drew ?_))); (case s2 => exact (Kd.R_reads' ae.out).2.1); rintro e w' ⟨rfl, ⟨nd, rfl⟩⟩; refine ⟨_, rfl, ?_⟩) | ((with_reducible refine gate_dst (N := 4) rfl ?_); (try (refine gate_guard (by rfl) ?_; dsimp only)); refine Kd.R_lit (Kd.int .i64) _ 3 ?hg (N := 4) ?hd (xs := ([] : List Int)) (inner := []) (ok := fun _ => True) (okp := fun _ => True) ?hr ?hp (fun _ hk => hk) trivial (Below.refl _ _) (Nat.le_refl _) (by simp) ?_; (case hd => rfl); (case hg => rfl); (case hr => first | (go_simp; done) | (go_simp; rfl)); (case hp => exact (Reps.none _ _)); intro dF w7 ho8 hb hg_ hnew_; clear hg_ hnew_; (first | rw [← aD.out] at ho8 | (simp only [Int.reduceToNat] at ho8; rw [← aD.out] at ho8)); have av := Aside0.mk (Kd.R_lower (Kd.R_new' ho8 (Kd.R_lt (rR_ ae.out))) (below_size (tb_ HB.out))); replace ae := Aside0.mk (Kd.R_elder' (rR_ ae.out) (Kd.R_base ho8) hb); replace HB := bs_ HB hb; clear hb ho8; obtain ⟨dI, co9, dG⟩ := Kd.R_slice av.out; subst dG) | (go_at_call 74; (with_reducible refine (impl_UrnOk.calls k _ _ a5 ag _ ?s1 ?s2 A3.out).mono ?_); (case s1 => repeat (first | exact (Kd.R_reads' av.out).2.2 | (with_reducible refine Kd.C_alloc ?_ _) | (with_reducible refine Kd.C_drewN ?_ _) | (with_reducible refine Kd.C_drew ?_))); (case s2 => exact (Kd.R_reads' av.out).2.1); rintro e w' ⟨rfl, ⟨nd, rfl⟩⟩))
  go_ret
  exact ⟨tw_, (tb_ HB.out)⟩
 ·
  replace c2 := Bool.eq_false_iff.mpr c2
  subst c2
  have H1 : (some false) = some r := by rw [if_neg (show ¬ (false = true) by decide)] at H; exact H
  clear H
  have H := H1
  clear H1
  obtain rfl := Option.some.inj H
  go_enter Tryd.func20, Tryd.ntmps20
  go_wp2_with (first | ((with_reducible refine gate_dst (N := 1) rfl ?_); (try (refine gate_guard (by rfl) ?_; dsimp only)); refine Kd.R_lit (Kd.int .i64) _ 3 ?hg (N := 1) ?hd (xs := ([1] : List Int)) (inner := [.int .i64 1]) (ok := fun _ => True) (okp := fun _ => True) ?hr ?hp (fun _ hk => hk) trivial (Below.refl _ _) (Nat.le_refl _) (by simp) ?_; (case hd => rfl); (case hg => rfl); (case hr => first | (go_simp; done) | (go_simp; rfl)); (case hp => exact (Reps.one (show Kd.M (Kd.int .i64) _ _ _ 1 [.int .i64 1] from rfl) (Reps.none _ _))); intro c7 dJ ho11 hb hg_ hnew_; clear hg_ hnew_; (first | rw [← al.out] at ho11 | (simp only [Int.reduceToNat] at ho11; rw [← al.out] at ho11)); have ae := rx_ ho11 HB; replace HB := bs_ HB hb; clear hb ho11; obtain ⟨c9, da, db⟩ := Kd.R_slice ae.out; subst db) | ((with_reducible refine gate_callee (f := 74) rfl ?_); refine gl_ (some 2) Tryd.func74 #[.slice c9 aq.length da] ?_; (with_reducible refine (impl_UrnOk.calls k _ _ aq false _ ?s1 ?s2 A1.out).mono ?_); (case s1 => repeat (first | exact (Kd.R_reads' ae.out).2.2 | (with_reducible refine Kd.C_alloc ?_ _) | (with_reducible refine Kd.C_drewN ?_ _) | (with_reducible refine Kd.C_drew ?_))); (case s2 => exact (Kd.R_reads' ae.out).2.1); rintro e w' ⟨rfl, ⟨nd, rfl⟩⟩; refine ⟨_, rfl, ?_⟩))
  go_ret
  exact ⟨tw_, (tb_ HB.out)⟩

/-! ### strconv_Itoa: function 98 -/
def strconv_Itoa.f (a0 : Int) : Option (ByteArray) := if -9223372036854775808 ≤ a0 ∧ a0 ≤ 9223372036854775807 then some ⟨(Lib.itoa a0).toArray⟩ else none
theorem strconv_Itoa.calls (a0 : Int) (r : ByteArray) (w : World) (hG : GWb w) (h : strconv_Itoa.f a0 = some r) :
  Calls Tryd.prog 98 #[.int .i64 a0] w fun e w' => e = .returned (.string r) ∧ Below w.heap.size w w' := by
 unfold strconv_Itoa.f at h
 split at h
 ·
  rename_i hb
  obtain rfl := Option.some.inj h
  refine (Sh.Tryd.strconv_Itoa a0 hb.1 hb.2 w hG.tab).mono fun e w' ⟨he, k, os, hw⟩ => ⟨he, hw ▸ Lib.below_grow _ w (Nat.le_refl _) k os⟩
 ·
  cases h

/-! ### impl_DeedText: function 46 -/
def impl_DeedText.j0 : Nat → Bool → Int → Int → Int → Option (ByteArray)
 | 0, _, _, _, _ => none
 | k + 1, x21, af, am, an => if x21 = true then (some (⟨#[]⟩ : ByteArray)) else ((strconv_Itoa.f am).bind fun ab => (if 1 + ab.size ≤ 9223372036854775807 then (if af = 0 then (if 3 + ((⟨#[32]⟩ : ByteArray) ++ ab).size ≤ 9223372036854775807 then (if ((⟨#[112, 117, 116]⟩ : ByteArray) ++ ((⟨#[32]⟩ : ByteArray) ++ ab)).size + 1 ≤ 9223372036854775807 then ((strconv_Itoa.f an).bind fun ah => (if (((⟨#[112, 117, 116]⟩ : ByteArray) ++ ((⟨#[32]⟩ : ByteArray) ++ ab)) ++ (⟨#[32]⟩ : ByteArray)).size + ah.size ≤ 9223372036854775807 then (some ((((⟨#[112, 117, 116]⟩ : ByteArray) ++ ((⟨#[32]⟩ : ByteArray) ++ ab)) ++ (⟨#[32]⟩ : ByteArray)) ++ ah)) else (none))) else (none)) else (none)) else (if an = 0 then (if af = 1 then (if 4 + ((⟨#[32]⟩ : ByteArray) ++ ab).size ≤ 9223372036854775807 then (some ((⟨#[115, 116, 101, 112]⟩ : ByteArray) ++ ((⟨#[32]⟩ : ByteArray) ++ ab))) else (none)) else (if af = 2 then (if 4 + ((⟨#[32]⟩ : ByteArray) ++ ab).size ≤ 9223372036854775807 then (some ((⟨#[100, 114, 97, 119]⟩ : ByteArray) ++ ((⟨#[32]⟩ : ByteArray) ++ ab))) else (none)) else (if am = 0 then (if af = 3 then (some (⟨#[97, 103, 97, 105, 110]⟩ : ByteArray)) else (if af = 4 then (some (⟨#[98, 97, 99, 107]⟩ : ByteArray)) else (some (⟨#[]⟩ : ByteArray)))) else (some (⟨#[]⟩ : ByteArray))))) else (some (⟨#[]⟩ : ByteArray)))) else (none)))
def impl_DeedText.f (k : Nat) (a0_0 : Int) (a0_1 : Int) (a0_2 : Int) : Option (ByteArray) := if a0_1 < (-99) then (impl_DeedText.j0 k true a0_0 a0_1 a0_2) else (if a0_1 > 99 then (impl_DeedText.j0 k true a0_0 a0_1 a0_2) else (if a0_2 < (-99) then (impl_DeedText.j0 k true a0_0 a0_1 a0_2) else (impl_DeedText.j0 k (decide (a0_2 > 99)) a0_0 a0_1 a0_2)))
theorem impl_DeedText.mono_l : ∀ k, (∀ y0 y1 y2 y3, LeO (impl_DeedText.j0 k y0 y1 y2 y3) (impl_DeedText.j0 (k + 1) y0 y1 y2 y3))
 | 0 => fun _ _ _ _ r h => by simp [impl_DeedText.j0] at h
 | k + 1 => by
  have ih0 := impl_DeedText.mono_l k
  ·
   intro y0 y1 y2 y3
   unfold impl_DeedText.j0
   repeat' (with_reducible first | exact ih0 _ _ _ _ | exact mr_ | exact mn_ | refine mi_ ?_ ?_ | refine mb_ ?_ (fun _ => ?_))
theorem impl_DeedText.mono : ∀ a0 a1 a2 k, LeO (impl_DeedText.f k a0 a1 a2) (impl_DeedText.f (k + 1) a0 a1 a2) := by
 intro a0 a1 a2 k
 have ih0 := impl_DeedText.mono_l k
 unfold impl_DeedText.f
 repeat' (with_reducible first | exact ih0 _ _ _ _ | exact mr_ | exact mn_ | refine mi_ ?_ ?_ | refine mb_ ?_ (fun _ => ?_))
set_option maxHeartbeats 8000000 in
set_option maxRecDepth 100000 in
theorem impl_DeedText.calls (k : Nat) (a0_0 : Int) (a0_1 : Int) (a0_2 : Int) (r : ByteArray) (w : World) (hG : GWb w) (h : impl_DeedText.f k a0_0 a0_1 a0_2 = some r) :
  Calls Tryd.prog 46 #[.agg #[.int .i64 a0_0, .int .i64 a0_1, .int .i64 a0_2]] w fun e w' => e = .returned (.string r) ∧ Below w.heap.size w w' := by
 have HG := Aside0.mk hG
 clear hG
 have hu30 := Tryd.underlying30
 have HB := Aside0.mk (Below.refl w.heap.size w)
 have H : (if a0_1 < (-99) then (impl_DeedText.j0 k true a0_0 a0_1 a0_2) else (if a0_1 > 99 then (impl_DeedText.j0 k true a0_0 a0_1 a0_2) else (if a0_2 < (-99) then (impl_DeedText.j0 k true a0_0 a0_1 a0_2) else (impl_DeedText.j0 k (decide (a0_2 > 99)) a0_0 a0_1 a0_2)))) = some r := h
 clear h
 have HC2 := Aside0.mk H
 clear H
 go_enter Tryd.func46, Tryd.ntmps46
 go_upto_region 1 with (first | ((with_reducible refine gate_dst (N := 1) rfl ?_); refine box_event ?hg (N := 1) ?hd (cs := #[.int .i64 a0_0, .int .i64 a0_1, .int .i64 a0_2]) (t := 30) ?hr ?_; (case hd => rfl); (case hg => rfl); (case hr => first | (go_simp; done) | (go_simp; rfl)); intro a6 hg w3 hbox hb; have aa := Aside0.mk (hbox); have dd := gx_ HB hg; have de := gx_ HB hg; replace HB := bs_ HB hb; clear hb hbox hg))
 (try simp only [Act.put, sa_, sb_, sc_])
 go_cut [21] (fun dH wc => ∃ (kq : Nat) (ao : Bool), dH = .bool ao ∧ Aside0 (impl_DeedText.j0 kq ao a0_0 a0_1 a0_2 = some r) ∧ Aside0 (kq ≤ k) ∧ Aside0 (wc.heap[a6]? = some (.cells #[.int .i64 a0_0, .int .i64 a0_1, .int .i64 a0_2] 30 (0, 0))) ∧ Aside0 (Below w.heap.size w wc))
 case first =>
  have H := HC2.out
  clear HC2
  by_cases c4 : a0_1 < (-99)
  ·
   rw [if_pos c4] at H
   have ai : decide (a0_1 < (-99)) = true := decide_eq_true c4
   clear c4
   (first | rw [ai] | (simp only [i64_w, i32_w]; rw [ai]) | skip)
   have H' := Aside0.mk H
   clear H
   have aG := cz_ aa 0
   have aH := cz_ aa 1
   have aI := cz_ aa 2
   have aJ := blk_frozen aa.out 0
   have aK := blk_frozen aa.out 1
   have aL := blk_frozen aa.out 2
   go_wp2
   go_meet
   case rel => exact ⟨_, (true), tx_, H', ⟨by first | omega | exact Nat.le_refl _⟩, ⟨tk_ aa.out⟩, ⟨(tb_ HB.out)⟩⟩
  ·
   rw [if_neg c4] at H
   have ai : decide (a0_1 < (-99)) = false := decide_eq_false c4
   clear c4
   (first | rw [ai] | (simp only [i64_w, i32_w]; rw [ai]) | skip)
   by_cases c6 : a0_1 > 99
   ·
    rw [if_pos c6] at H
    have ap : decide (99 < a0_1) = true := decide_eq_true c6
    clear c6
    have H' := Aside0.mk H
    clear H
    have aM := cz_ aa 0
    have aN := cz_ aa 1
    have aO := cz_ aa 2
    have aP := blk_frozen aa.out 0
    have aQ := blk_frozen aa.out 1
    have aR := blk_frozen aa.out 2
    go_wp2
    go_meet
    case rel => exact ⟨_, (true), tx_, H', ⟨by first | omega | exact Nat.le_refl _⟩, ⟨tk_ aa.out⟩, ⟨(tb_ HB.out)⟩⟩
   ·
    rw [if_neg c6] at H
    have ap : decide (99 < a0_1) = false := decide_eq_false c6
    clear c6
    by_cases c8 : a0_2 < (-99)
    ·
     rw [if_pos c8] at H
     have a7 : decide (a0_2 < (-99)) = true := decide_eq_true c8
     clear c8
     have H' := Aside0.mk H
     clear H
     have aU := cz_ aa 0
     have aV := cz_ aa 1
     have aW := cz_ aa 2
     have aX := blk_frozen aa.out 0
     have aY := blk_frozen aa.out 1
     have aZ := blk_frozen aa.out 2
     go_wp2
     go_meet
     case rel => exact ⟨_, (true), tx_, H', ⟨by first | omega | exact Nat.le_refl _⟩, ⟨tk_ aa.out⟩, ⟨(tb_ HB.out)⟩⟩
    ·
     rw [if_neg c8] at H
     have a7 : decide (a0_2 < (-99)) = false := decide_eq_false c8
     clear c8
     have H' := Aside0.mk H
     clear H
     have aw := cz_ aa 0
     have ax := cz_ aa 1
     have ay := cz_ aa 2
     have az := blk_frozen aa.out 0
     have aA := blk_frozen aa.out 1
     have aB := blk_frozen aa.out 2
     go_wp2
     go_meet
     case rel => exact ⟨_, (decide (a0_2 > 99)), tx_, H', ⟨by first | omega | exact Nat.le_refl _⟩, ⟨tk_ aa.out⟩, ⟨(tb_ HB.out)⟩⟩
 case rest =>
  clear HC2
  try clear p2
  try clear c4
  try clear ai
  try clear c6
  try clear ap
  try clear c8
  try clear a7
  try clear aw
  try clear ax
  try clear ay
  try clear aG
  try clear aH
  try clear aI
  try clear aM
  try clear aN
  try clear aO
  try clear aU
  try clear aV
  try clear aW
  try clear az
  try clear aA
  try clear aB
  try clear aJ
  try clear aK
  try clear aL
  try clear aP
  try clear aQ
  try clear aR
  try clear aX
  try clear aY
  try clear aZ
  obtain ⟨kq, ao, rfl, HA, HJ1, aa, HB⟩ := hcut
  cases kq with
  | zero => exact absurd HA.out (by simp [impl_DeedText.j0])
  | succ kj1 =>
   have H := HA.out
   clear HA
   simp only [impl_DeedText.j0] at H
   by_cases c11 : ao = true
   ·
    subst c11
    have H1 : (some (⟨#[]⟩ : ByteArray)) = some r := by rw [if_pos rfl] at H; exact H
    clear H
    have H := H1
    clear H1
    obtain rfl := Option.some.inj H
    go_wp2
    go_ret
    exact ⟨tw_, (tb_ HB.out)⟩
   ·
    replace c11 := Bool.eq_false_iff.mpr c11
    subst c11
    have H1 : ((strconv_Itoa.f a0_1).bind fun ab => (if 1 + ab.size ≤ 9223372036854775807 then (if a0_0 = 0 then (if 3 + ((⟨#[32]⟩ : ByteArray) ++ ab).size ≤ 9223372036854775807 then (if ((⟨#[112, 117, 116]⟩ : ByteArray) ++ ((⟨#[32]⟩ : ByteArray) ++ ab)).size + 1 ≤ 9223372036854775807 then ((strconv_Itoa.f a0_2).bind fun ah => (if (((⟨#[112, 117, 116]⟩ : ByteArray) ++ ((⟨#[32]⟩ : ByteArray) ++ ab)) ++ (⟨#[32]⟩ : ByteArray)).size + ah.size ≤ 9223372036854775807 then (some ((((⟨#[112, 117, 116]⟩ : ByteArray) ++ ((⟨#[32]⟩ : ByteArray) ++ ab)) ++ (⟨#[32]⟩ : ByteArray)) ++ ah)) else (none))) else (none)) else (none)) else (if a0_2 = 0 then (if a0_0 = 1 then (if 4 + ((⟨#[32]⟩ : ByteArray) ++ ab).size ≤ 9223372036854775807 then (some ((⟨#[115, 116, 101, 112]⟩ : ByteArray) ++ ((⟨#[32]⟩ : ByteArray) ++ ab))) else (none)) else (if a0_0 = 2 then (if 4 + ((⟨#[32]⟩ : ByteArray) ++ ab).size ≤ 9223372036854775807 then (some ((⟨#[100, 114, 97, 119]⟩ : ByteArray) ++ ((⟨#[32]⟩ : ByteArray) ++ ab))) else (none)) else (if a0_1 = 0 then (if a0_0 = 3 then (some (⟨#[97, 103, 97, 105, 110]⟩ : ByteArray)) else (if a0_0 = 4 then (some (⟨#[98, 97, 99, 107]⟩ : ByteArray)) else (some (⟨#[]⟩ : ByteArray)))) else (some (⟨#[]⟩ : ByteArray))))) else (some (⟨#[]⟩ : ByteArray)))) else (none))) = some r := by rw [if_neg (show ¬ (false = true) by decide)] at H; exact H
    clear H
    have H := H1
    clear H1
    obtain ⟨ab, A12, H⟩ := bnd_ H
    try dsimp only at H
    by_cases c13 : 1 + ab.size ≤ 9223372036854775807
    ·
     rw [if_pos c13] at H
     have df := eq_true c13
     have dg : decide (1 + ab.size ≤ 9223372036854775807) = true := decide_eq_true c13
     try have dh : (9223372036854775807 < 1 + ab.size) = False := eq_false (Nat.not_lt.2 c13)
     by_cases c14 : a0_0 = 0
     ·
      rw [if_pos c14] at H
      have a8 : (a0_0 == 0) = true := beq_iff_eq.mpr c14
      have a9 : (a0_0 != 0) = false := bne_eq_false_iff_eq.mpr c14
      clear c14
      by_cases c15 : 3 + ((⟨#[32]⟩ : ByteArray) ++ ab).size ≤ 9223372036854775807
      ·
       rw [if_pos c15] at H
       have di := eq_true c15
       have dj : decide (3 + ((⟨#[32]⟩ : ByteArray) ++ ab).size ≤ 9223372036854775807) = true := decide_eq_true c15
       try have dk : (9223372036854775807 < 3 + ((⟨#[32]⟩ : ByteArray) ++ ab).size) = False := eq_false (Nat.not_lt.2 c15)
       try have dl : (9223372036854775807 < 3 + (1 + ab.size)) = False := eq_false (by have h := c15; simp only [ByteArray.size_append] at h; simp only [ByteArray.size] at h ⊢; simp at h ⊢; omega)
       by_cases c16 : ((⟨#[112, 117, 116]⟩ : ByteArray) ++ ((⟨#[32]⟩ : ByteArray) ++ ab)).size + 1 ≤ 9223372036854775807
       ·
        rw [if_pos c16] at H
        have dm := eq_true c16
        have dn : decide (((⟨#[112, 117, 116]⟩ : ByteArray) ++ ((⟨#[32]⟩ : ByteArray) ++ ab)).size + 1 ≤ 9223372036854775807) = true := decide_eq_true c16
        try have dp : (9223372036854775807 < ((⟨#[112, 117, 116]⟩ : ByteArray) ++ ((⟨#[32]⟩ : ByteArray) ++ ab)).size + 1) = False := eq_false (Nat.not_lt.2 c16)
        try have dq : (9223372036854775807 < 3 + (1 + ab.size) + 1) = False := eq_false (by have h := c16; simp only [ByteArray.size_append] at h; simp only [ByteArray.size] at h ⊢; simp at h ⊢; omega)
        obtain ⟨ah, A17, H⟩ := bnd_ H
        try dsimp only at H
        by_cases c18 : (((⟨#[112, 117, 116]⟩ : ByteArray) ++ ((⟨#[32]⟩ : ByteArray) ++ ab)) ++ (⟨#[32]⟩ : ByteArray)).size + ah.size ≤ 9223372036854775807
        ·
         rw [if_pos c18] at H
         have dr := eq_true c18
         have ds : decide ((((⟨#[112, 117, 116]⟩ : ByteArray) ++ ((⟨#[32]⟩ : ByteArray) ++ ab)) ++ (⟨#[32]⟩ : ByteArray)).size + ah.size ≤ 9223372036854775807) = true := decide_eq_true c18
         try have dt : (9223372036854775807 < (((⟨#[112, 117, 116]⟩ : ByteArray) ++ ((⟨#[32]⟩ : ByteArray) ++ ab)) ++ (⟨#[32]⟩ : ByteArray)).size + ah.size) = False := eq_false (Nat.not_lt.2 c18)
         try have du : (9223372036854775807 < 3 + (1 + ab.size) + 1 + ah.size) = False := eq_false (by have h := c18; simp only [ByteArray.size_append] at h; simp only [ByteArray.size] at h ⊢; simp at h ⊢; omega)
         obtain rfl := Option.some.inj H
         have bn := cz_ aa 0
         have bo := cz_ aa 1
         have bp := cz_ aa 2
         have bq := blk_frozen aa.out 0
         have br := blk_frozen aa.out 1
         have bs := blk_frozen aa.out 2
         go_wp2_with (first | ((with_reducible refine gate_callee (f := 98) rfl ?_); refine gl_ (some 24) Tryd.func98 #[.int .i64 a0_1] ?_; (with_reducible refine (strconv_Itoa.calls a0_1 ab _ ?s1 A12.out).mono ?_); (case s1 => exact GWb.below HG.out (tb_ HB.out)); rintro e dK ⟨rfl, hb⟩; refine ⟨_, rfl, ?_⟩; replace aa := bb_ aa hb; replace HB := bs_ HB hb; (try clear hb); (try clear hb2); (try clear hk); (try clear hi); have bu := cz_ aa 0; have bv := cz_ aa 1; have bw := cz_ aa 2; have bx := blk_frozen aa.out 0; have bz := blk_frozen aa.out 1; have bB := blk_frozen aa.out 2) | ((with_reducible refine gate_callee (f := 98) rfl ?_); refine gl_ (some 35) Tryd.func98 #[.int .i64 a0_2] ?_; (with_reducible refine (strconv_Itoa.calls a0_2 ah _ ?s1 A17.out).mono ?_); (case s1 => exact GWb.below HG.out (tb_ HB.out)); rintro e dL ⟨rfl, hb⟩; refine ⟨_, rfl, ?_⟩; replace aa := bb_ aa hb; replace HB := bs_ HB hb; (try clear hb); (try clear hb2); (try clear hk); (try clear hi)))
         go_ret
         exact ⟨tw_, (tb_ HB.out)⟩
        ·
         rw [if_neg c18] at H
         exact absurd H (by simp)
       ·
        rw [if_neg c16] at H
        exact absurd H (by simp)
      ·
       rw [if_neg c15] at H
       exact absurd H (by simp)
     ·
      rw [if_neg c14] at H
      have a8 : (a0_0 == 0) = false := beq_eq_false_iff_ne.mpr c14
      have a9 : (a0_0 != 0) = true := bne_iff_ne.mpr c14
      by_cases c23 : a0_2 = 0
      ·
       rw [if_pos c23] at H
       have bb : (a0_2 == 0) = true := beq_iff_eq.mpr c23
       have bc : (a0_2 != 0) = false := bne_eq_false_iff_eq.mpr c23
       clear c23
       by_cases c24 : a0_0 = 1
       ·
        rw [if_pos c24] at H
        have bd : (a0_0 == 1) = true := beq_iff_eq.mpr c24
        have be : (a0_0 != 1) = false := bne_eq_false_iff_eq.mpr c24
        clear c24
        by_cases c25 : 4 + ((⟨#[32]⟩ : ByteArray) ++ ab).size ≤ 9223372036854775807
        ·
         rw [if_pos c25] at H
         have dv := eq_true c25
         have dw : decide (4 + ((⟨#[32]⟩ : ByteArray) ++ ab).size ≤ 9223372036854775807) = true := decide_eq_true c25
         try have dx : (9223372036854775807 < 4 + ((⟨#[32]⟩ : ByteArray) ++ ab).size) = False := eq_false (Nat.not_lt.2 c25)
         try have dy : (9223372036854775807 < 4 + (1 + ab.size)) = False := eq_false (by have h := c25; simp only [ByteArray.size_append] at h; simp only [ByteArray.size] at h ⊢; simp at h ⊢; omega)
         obtain rfl := Option.some.inj H
         have bC := cz_ aa 0
         have bD := cz_ aa 1
         have bE := cz_ aa 2
         have bF := blk_frozen aa.out 0
         have bG := blk_frozen aa.out 1
         have bH := blk_frozen aa.out 2
         go_wp2_with (first | ((with_reducible refine gate_callee (f := 98) rfl ?_); refine gl_ (some 24) Tryd.func98 #[.int .i64 a0_1] ?_; (with_reducible refine (strconv_Itoa.calls a0_1 ab _ ?s1 A12.out).mono ?_); (case s1 => exact GWb.below HG.out (tb_ HB.out)); rintro e dM ⟨rfl, hb⟩; refine ⟨_, rfl, ?_⟩; replace aa := bb_ aa hb; replace HB := bs_ HB hb; (try clear hb); (try clear hb2); (try clear hk); (try clear hi); have bI := cz_ aa 0; have bJ := cz_ aa 1; have bK := cz_ aa 2; have bL := blk_frozen aa.out 0; have bM := blk_frozen aa.out 1; have bN := blk_frozen aa.out 2))
         go_ret
         exact ⟨tw_, (tb_ HB.out)⟩
        ·
         rw [if_neg c25] at H
         exact absurd H (by simp)
       ·
        rw [if_neg c24] at H
        have bd : (a0_0 == 1) = false := beq_eq_false_iff_ne.mpr c24
        have be : (a0_0 != 1) = true := bne_iff_ne.mpr c24
        by_cases c29 : a0_0 = 2
        ·
         rw [if_pos c29] at H
         have bf : (a0_0 == 2) = true := beq_iff_eq.mpr c29
         have bg : (a0_0 != 2) = false := bne_eq_false_iff_eq.mpr c29
         clear c29
         by_cases c30 : 4 + ((⟨#[32]⟩ : ByteArray) ++ ab).size ≤ 9223372036854775807
         ·
          rw [if_pos c30] at H
          have dz := eq_true c30
          have dA : decide (4 + ((⟨#[32]⟩ : ByteArray) ++ ab).size ≤ 9223372036854775807) = true := decide_eq_true c30
          try have dB : (9223372036854775807 < 4 + ((⟨#[32]⟩ : ByteArray) ++ ab).size) = False := eq_false (Nat.not_lt.2 c30)
          try have dC : (9223372036854775807 < 4 + (1 + ab.size)) = False := eq_false (by have h := c30; simp only [ByteArray.size_append] at h; simp only [ByteArray.size] at h ⊢; simp at h ⊢; omega)
          obtain rfl := Option.some.inj H
          have bO := cz_ aa 0
          have bP := cz_ aa 1
          have bQ := cz_ aa 2
          have bR := blk_frozen aa.out 0
          have bS := blk_frozen aa.out 1
          have bU := blk_frozen aa.out 2
          go_wp2_with (first | ((with_reducible refine gate_callee (f := 98) rfl ?_); refine gl_ (some 24) Tryd.func98 #[.int .i64 a0_1] ?_; (with_reducible refine (strconv_Itoa.calls a0_1 ab _ ?s1 A12.out).mono ?_); (case s1 => exact GWb.below HG.out (tb_ HB.out)); rintro e dN ⟨rfl, hb⟩; refine ⟨_, rfl, ?_⟩; replace aa := bb_ aa hb; replace HB := bs_ HB hb; (try clear hb); (try clear hb2); (try clear hk); (try clear hi); have bV := cz_ aa 0; have bW := cz_ aa 1; have bX := cz_ aa 2; have bZ := blk_frozen aa.out 0; have b0 := blk_frozen aa.out 1; have b1 := blk_frozen aa.out 2))
          go_ret
          exact ⟨tw_, (tb_ HB.out)⟩
         ·
          rw [if_neg c30] at H
          exact absurd H (by simp)
        ·
         rw [if_neg c29] at H
         have bf : (a0_0 == 2) = false := beq_eq_false_iff_ne.mpr c29
         have bg : (a0_0 != 2) = true := bne_iff_ne.mpr c29
         by_cases c34 : a0_1 = 0
         ·
          rw [if_pos c34] at H
          have bh : (a0_1 == 0) = true := beq_iff_eq.mpr c34
          have bi : (a0_1 != 0) = false := bne_eq_false_iff_eq.mpr c34
          clear c34
          by_cases c35 : a0_0 = 3
          ·
           rw [if_pos c35] at H
           have bj : (a0_0 == 3) = true := beq_iff_eq.mpr c35
           have bk : (a0_0 != 3) = false := bne_eq_false_iff_eq.mpr c35
           clear c35
           obtain rfl := Option.some.inj H
           have b2 := cz_ aa 0
           have b3 := cz_ aa 1
           have b4 := cz_ aa 2
           have b5 := blk_frozen aa.out 0
           have b6 := blk_frozen aa.out 1
           have b7 := blk_frozen aa.out 2
           go_wp2_with (first | ((with_reducible refine gate_callee (f := 98) rfl ?_); refine gl_ (some 24) Tryd.func98 #[.int .i64 a0_1] ?_; (with_reducible refine (strconv_Itoa.calls a0_1 ab _ ?s1 A12.out).mono ?_); (case s1 => exact GWb.below HG.out (tb_ HB.out)); rintro e dP ⟨rfl, hb⟩; refine ⟨_, rfl, ?_⟩; replace aa := bb_ aa hb; replace HB := bs_ HB hb; (try clear hb); (try clear hb2); (try clear hk); (try clear hi); have b8 := cz_ aa 0; have b9 := cz_ aa 1; have ca := cz_ aa 2; have cb := blk_frozen aa.out 0; have cc := blk_frozen aa.out 1; have cd := blk_frozen aa.out 2))
           go_ret
           exact ⟨tw_, (tb_ HB.out)⟩
          ·
           rw [if_neg c35] at H
           have bj : (a0_0 == 3) = false := beq_eq_false_iff_ne.mpr c35
           have bk : (a0_0 != 3) = true := bne_iff_ne.mpr c35
           by_cases c39 : a0_0 = 4
           ·
            rw [if_pos c39] at H
            have bl : (a0_0 == 4) = true := beq_iff_eq.mpr c39
            have bm : (a0_0 != 4) = false := bne_eq_false_iff_eq.mpr c39
            clear c39
            obtain rfl := Option.some.inj H
            have ce := cz_ aa 0
            have cf := cz_ aa 1
            have cg := cz_ aa 2
            have ch := blk_frozen aa.out 0
            have ci := blk_frozen aa.out 1
            have cj := blk_frozen aa.out 2
            go_wp2_with (first | ((with_reducible refine gate_callee (f := 98) rfl ?_); refine gl_ (some 24) Tryd.func98 #[.int .i64 a0_1] ?_; (with_reducible refine (strconv_Itoa.calls a0_1 ab _ ?s1 A12.out).mono ?_); (case s1 => exact GWb.below HG.out (tb_ HB.out)); rintro e dQ ⟨rfl, hb⟩; refine ⟨_, rfl, ?_⟩; replace aa := bb_ aa hb; replace HB := bs_ HB hb; (try clear hb); (try clear hb2); (try clear hk); (try clear hi); have ck := cz_ aa 0; have cl := cz_ aa 1; have cm := cz_ aa 2; have cn := blk_frozen aa.out 0; have co := blk_frozen aa.out 1; have cp := blk_frozen aa.out 2))
            go_ret
            exact ⟨tw_, (tb_ HB.out)⟩
           ·
            rw [if_neg c39] at H
            have bl : (a0_0 == 4) = false := beq_eq_false_iff_ne.mpr c39
            have bm : (a0_0 != 4) = true := bne_iff_ne.mpr c39
            obtain rfl := Option.some.inj H
            have cq := cz_ aa 0
            have cr := cz_ aa 1
            have ct := cz_ aa 2
            have cu := blk_frozen aa.out 0
            have cv := blk_frozen aa.out 1
            have cw := blk_frozen aa.out 2
            go_wp2_with (first | ((with_reducible refine gate_callee (f := 98) rfl ?_); refine gl_ (some 24) Tryd.func98 #[.int .i64 a0_1] ?_; (with_reducible refine (strconv_Itoa.calls a0_1 ab _ ?s1 A12.out).mono ?_); (case s1 => exact GWb.below HG.out (tb_ HB.out)); rintro e dR ⟨rfl, hb⟩; refine ⟨_, rfl, ?_⟩; replace aa := bb_ aa hb; replace HB := bs_ HB hb; (try clear hb); (try clear hb2); (try clear hk); (try clear hi); have cx := cz_ aa 0; have cy := cz_ aa 1; have cz := cz_ aa 2; have cA := blk_frozen aa.out 0; have cB := blk_frozen aa.out 1; have cC := blk_frozen aa.out 2))
            go_ret
            exact ⟨tw_, (tb_ HB.out)⟩
         ·
          rw [if_neg c34] at H
          have bh : (a0_1 == 0) = false := beq_eq_false_iff_ne.mpr c34
          have bi : (a0_1 != 0) = true := bne_iff_ne.mpr c34
          obtain rfl := Option.some.inj H
          have cD := cz_ aa 0
          have cE := cz_ aa 1
          have cF := cz_ aa 2
          have cG := blk_frozen aa.out 0
          have cH := blk_frozen aa.out 1
          have cI := blk_frozen aa.out 2
          go_wp2_with (first | ((with_reducible refine gate_callee (f := 98) rfl ?_); refine gl_ (some 24) Tryd.func98 #[.int .i64 a0_1] ?_; (with_reducible refine (strconv_Itoa.calls a0_1 ab _ ?s1 A12.out).mono ?_); (case s1 => exact GWb.below HG.out (tb_ HB.out)); rintro e dS ⟨rfl, hb⟩; refine ⟨_, rfl, ?_⟩; replace aa := bb_ aa hb; replace HB := bs_ HB hb; (try clear hb); (try clear hb2); (try clear hk); (try clear hi); have cJ := cz_ aa 0; have cK := cz_ aa 1; have cL := cz_ aa 2; have cM := blk_frozen aa.out 0; have cN := blk_frozen aa.out 1; have cO := blk_frozen aa.out 2))
          go_ret
          exact ⟨tw_, (tb_ HB.out)⟩
      ·
       rw [if_neg c23] at H
       have bb : (a0_2 == 0) = false := beq_eq_false_iff_ne.mpr c23
       have bc : (a0_2 != 0) = true := bne_iff_ne.mpr c23
       obtain rfl := Option.some.inj H
       have cP := cz_ aa 0
       have cQ := cz_ aa 1
       have cR := cz_ aa 2
       have cS := blk_frozen aa.out 0
       have cT := blk_frozen aa.out 1
       have cU := blk_frozen aa.out 2
       go_wp2_with (first | ((with_reducible refine gate_callee (f := 98) rfl ?_); refine gl_ (some 24) Tryd.func98 #[.int .i64 a0_1] ?_; (with_reducible refine (strconv_Itoa.calls a0_1 ab _ ?s1 A12.out).mono ?_); (case s1 => exact GWb.below HG.out (tb_ HB.out)); rintro e dT ⟨rfl, hb⟩; refine ⟨_, rfl, ?_⟩; replace aa := bb_ aa hb; replace HB := bs_ HB hb; (try clear hb); (try clear hb2); (try clear hk); (try clear hi); have cV := cz_ aa 0; have cW := cz_ aa 1; have cX := cz_ aa 2; have cY := blk_frozen aa.out 0; have cZ := blk_frozen aa.out 1; have c1 := blk_frozen aa.out 2))
       go_ret
       exact ⟨tw_, (tb_ HB.out)⟩
    ·
     rw [if_neg c13] at H
     exact absurd H (by simp)

/-! ### strings_Split: function 93 -/
def strings_Split.f (a0 : ByteArray) (a1 : ByteArray) : Option (List ByteArray) := if a0.size < 4294967281 ∧ 1 ≤ a1.size then some (Lib.splitB a1 0 (Lib.countB a0 a1) a0) else none
theorem strings_Split.calls (a0 : ByteArray) (a1 : ByteArray) (r : List ByteArray) (w : World) (hG : GWb w) (h : strings_Split.f a0 a1 = some r) :
  Calls Tryd.prog 93 #[.string a0, .string a1] w fun e w' => ∃ v0_ : Value, e = .returned (v0_) ∧ Kd.R Kd.string 9 w' w.heap.size (fun _ => True) v0_ r ∧ Below w.heap.size w w' := by
 unfold strings_Split.f at h
 split at h
 ·
  rename_i hb
  obtain rfl := Option.some.inj h
  refine (Sh.Tryd.strings_Split_shaped a0 a1 w hG.shape hb.1 hb.2).mono fun e w' ⟨he, hw⟩ => ?_
  have hl : (Lib.splitB a1 0 (Lib.countB a0 a1) a0).length = Lib.countB a0 a1 + 1 := Lib.splitB_all a1 hb.2 0 _ a0 rfl
  have hle := Lib.countB_le a1 hb.2 a0.size a0 (Nat.le_refl _)
  have ho := own_lit_of (enc := Value.string) w w.heap.size 9 (Lib.splitB a1 0 (Lib.countB a0 a1) a0) (Nat.le_refl _) (by rw [hl]; omega)
  refine ⟨_, he, ?_, ?_⟩
  ·
   rw [hw]
   rw [hl] at ho
   exact Kd.R_of_own (by rw [hl]; exact ho) (fun _ _ => trivial)
  ·
   rw [hw]
   exact (Below.refl _ _).alloc (Nat.le_refl _) _
 ·
  cases h

/-! ### slices_Index_string_string: function 94 -/
def slices_Index_string_string.l0 : Nat → List ByteArray → ByteArray → Int → Int → Option (Int)
 | 0, _, _, _, _ => none
 | k + 1, x0, x1, x7, x8 => if x8 < x7 then (if 0 ≤ x8 then (if x8 < (x0.length : Int) then (if x1.toList = (rdOf ByteArray.empty x0 x8).toList then (some x8) else (slices_Index_string_string.l0 k x0 x1 x7 (wrap64 (x8 + 1)))) else (none)) else (none)) else (some (-1))
def slices_Index_string_string.f (k : Nat) (l0 : List ByteArray) (a1 : ByteArray) : Option (Int) := slices_Index_string_string.l0 k l0 a1 (l0.length : Int) 0
theorem slices_Index_string_string.mono_l : ∀ k, (∀ y0 y1 y2 y3, LeO (slices_Index_string_string.l0 k y0 y1 y2 y3) (slices_Index_string_string.l0 (k + 1) y0 y1 y2 y3))
 | 0 => fun _ _ _ _ r h => by simp [slices_Index_string_string.l0] at h
 | k + 1 => by
  have ih0 := slices_Index_string_string.mono_l k
  ·
   intro y0 y1 y2 y3
   unfold slices_Index_string_string.l0
   repeat' (with_reducible first | exact ih0 _ _ _ _ | exact mr_ | exact mn_ | refine mi_ ?_ ?_ | refine mb_ ?_ (fun _ => ?_))
theorem slices_Index_string_string.mono : ∀ a0 a1 k, LeO (slices_Index_string_string.f k a0 a1) (slices_Index_string_string.f (k + 1) a0 a1) := by
 intro a0 a1 k
 have ih0 := slices_Index_string_string.mono_l k
 unfold slices_Index_string_string.f
 repeat' (with_reducible first | exact ih0 _ _ _ _ | exact mr_ | exact mn_ | refine mi_ ?_ ?_ | refine mb_ ?_ (fun _ => ?_))
set_option maxHeartbeats 8000000 in
set_option maxRecDepth 100000 in
theorem slices_Index_string_string.calls (k : Nat) (A0 : Option Addr) (c0 : Nat) (l0 : List ByteArray) (a1 : ByteArray) (r : Int) (w : World) (hr0 : Kd.C Kd.string w A0 l0.length l0) (hc0 : l0.length ≤ c0) (h : slices_Index_string_string.f k l0 a1 = some r) :
  Calls Tryd.prog 94 #[.slice A0 l0.length c0, .string a1] w fun e w' => e = .returned (.int .i64 r) ∧ Drawn0 w w' := by
 have HR0 := Aside0.mk hr0
 have HC0 := Aside0.mk hc0
 clear hr0 hc0
 have H : (slices_Index_string_string.l0 k l0 a1 (l0.length : Int) 0) = some r := h
 clear h
 have H' := Aside0.mk H
 clear H
 go_enter Tryd.func94, Tryd.ntmps94
 go_wp2
 go_loopg [8] k (fun kq v8 w' => ∃ (ad : Int), v8 = .int .i64 ad ∧ Aside0 (slices_Index_string_string.l0 kq l0 a1 (l0.length : Int) ad = some r) ∧ Aside0 (kq ≤ k) ∧ Drawn0 w w')
 case atStart => exact ⟨(0), tx_, H', ⟨Nat.le_refl _⟩, by repeat (first | exact Drawn0.refl _ | apply Drawn0.step)⟩
 case round =>
  clear H'
  try clear p2
  obtain ⟨ad, rfl, HA, HK1, ⟨m1, rfl⟩⟩ := hrel
  cases gk with
  | zero => exact absurd HA.out (by simp [slices_Index_string_string.l0])
  | succ k1 =>
   have H := HA.out
   clear HA
   simp only [slices_Index_string_string.l0] at H
   by_cases c3 : ad < (l0.length : Int)
   ·
    rw [if_pos c3] at H
    have a3 : decide (ad < (l0.length : Int)) = true := decide_eq_true c3
    clear c3
    by_cases c4 : 0 ≤ ad
    ·
     rw [if_pos c4] at H
     have ai : decide (0 ≤ ad) = true := decide_eq_true c4
     clear c4
     by_cases c5 : ad < (l0.length : Int)
     ·
      rw [if_pos c5] at H
      have a4 : decide (ad < (l0.length : Int)) = true := decide_eq_true c5
      clear c5
      by_cases c6 : a1.toList = (rdOf ByteArray.empty l0 ad).toList
      ·
       rw [if_pos c6] at H
       have ap : (a1.toList == (rdOf ByteArray.empty l0 ad).toList) = true := beq_iff_eq.mpr c6
       have dc : (a1.toList != (rdOf ByteArray.empty l0 ad).toList) = false := bne_eq_false_iff_eq.mpr c6
       clear c6
       obtain rfl := Option.some.inj H
       have p114 : 0 ≤ (ad : Int) := od_
       have q114 : ad < (l0.length : Int) := od_
       obtain ⟨ad114, e114, aC⟩ := Kd.at_string HR0.out ad p114 q114
       cases e114
       replace p114 := eq_true p114
       replace q114 := eq_true q114
       go_wp2
       go_ret
       exact ⟨tx_, by repeat (first | exact Drawn0.refl _ | apply Drawn0.step)⟩
      ·
       rw [if_neg c6] at H
       have ap : (a1.toList == (rdOf ByteArray.empty l0 ad).toList) = false := beq_eq_false_iff_ne.mpr c6
       have dc : (a1.toList != (rdOf ByteArray.empty l0 ad).toList) = true := bne_iff_ne.mpr c6
       have H' := Aside0.mk H
       clear H
       have p114 : 0 ≤ (ad : Int) := od_
       have q114 : ad < (l0.length : Int) := od_
       obtain ⟨ad114, e114, aC⟩ := Kd.at_string HR0.out ad p114 q114
       cases e114
       replace p114 := eq_true p114
       replace q114 := eq_true q114
       go_wp2
       go_roundg k1
       case measure => have := HK1.out; omega
       case rel => exact ⟨(wrap64 (ad + 1)), tx_, H', ⟨by have := HK1.out; omega⟩, by repeat (first | exact Drawn0.refl _ | apply Drawn0.step)⟩
     ·
      rw [if_neg c5] at H
      exact absurd H (by simp)
    ·
     rw [if_neg c4] at H
     exact absurd H (by simp)
   ·
    rw [if_neg c3] at H
    have a3 : decide (ad < (l0.length : Int)) = false := decide_eq_false c3
    clear c3
    obtain rfl := Option.some.inj H
    go_wp2
    go_ret
    exact ⟨tx_, by repeat (first | exact Drawn0.refl _ | apply Drawn0.step)⟩

/-! ### strconv_Atoi: function 95 -/
def strconv_Atoi.f (a0 : ByteArray) : Option (Int × Option Int) := if a0.size ≤ 140737488355328 then some (match Lib.atoiAll a0.data.toList with | .ok v => (v, none) | Lib.NumEnd.syntax => (0, some 0) | .range => (Lib.atoiSat a0.data.toList, some 0)) else none
theorem strconv_Atoi.calls (a0 : ByteArray) (r1 : Int) (r2 : Option Int) (w : World) (hG : GWb w) (h : strconv_Atoi.f a0 = some (r1, r2)) :
  Calls Tryd.prog 95 #[.string a0] w fun e w' => ∃ N_ : Int, e = .returned (.tuple #[.int .i64 r1, errW (r2.map fun _ => N_)]) ∧ Below w.heap.size w w' := by
 unfold strconv_Atoi.f at h
 split at h
 ·
  rename_i hb
  rcases ha : Lib.atoiAll a0.data.toList with v | _ | _
  ·
   simp only [ha, Option.some.injEq, Prod.mk.injEq] at h
   obtain ⟨rfl, rfl⟩ := h
   exact (Sh.Tryd.strconv_Atoi_ok a0 (by omega) v ha w).mono fun e w' ⟨he, hw⟩ => ⟨0, he, atoi_below hw⟩
  ·
   simp only [ha, Option.some.injEq, Prod.mk.injEq] at h
   obtain ⟨rfl, rfl⟩ := h
   obtain ⟨t, p, hv⟩ := hG.esyn
   exact (Sh.Tryd.strconv_Atoi_syntax_var a0 (by omega) ha t p w hv).mono fun e w' ⟨N, he, _, _, hw⟩ => ⟨(N : Int), he, hw⟩
  ·
   simp only [ha, Option.some.injEq, Prod.mk.injEq] at h
   obtain ⟨rfl, rfl⟩ := h
   obtain ⟨t, p, hv⟩ := hG.erng
   exact (Sh.Tryd.strconv_Atoi_range_var a0 (by omega) ha t p w hv).mono fun e w' ⟨N, he, _, _, hw⟩ => ⟨(N : Int), he, hw⟩
 ·
  cases h

end Go.Proofs.YtlhiienanbpdlaaDoor.MFnJournalText
