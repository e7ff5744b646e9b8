/- For the law FnExactDeskDo: walks of the functions that it reaches: each call returns what the plain function beside it tells. The conditions stand in each statement. -/
import Derived.Test.YtmodbemkflkbeaaDoorV
import Derived.Test.YtmodbemkflkbeaaDoorMFnExactDeskDox0
namespace Go.Proofs.YtmodbemkflkbeaaDoor.MFnExactDeskDo
open Go.RowKit Go.Proofs.YtmodbemkflkbeaaDoorW.PrintWords Go.Proofs.YtmodbemkflkbeaaDoorW.PrintLast Go.Proofs.YtmodbemkflkbeaaDoorW.PrintMore
attribute [local go_sem] max2_int min2_int max_two min_two max_three min_three max_four min_four   -- for this text's walks alone
set_option linter.unusedVariables false
set_option linter.unusedSimpArgs false
set_option maxHeartbeats 8000000
set_option maxRecDepth 100000

/-! ### laws_szIntS: function 44 -/
def laws_szIntS.f (l0 : List Int) (a1 : Int) : Option (Int) := if (wrap64 (a1 - (l0.length : Int))) < 0 then (some (-1)) else (some (wrap64 (a1 - (l0.length : Int))))
theorem laws_szIntS.calls (A0 : Option Addr) (c0 : Nat) (l0 : List Int) (a1 : Int) (r : Int) (w : World) (hr0 : Kd.C (Kd.int .i64) w A0 l0.length l0) (hc0 : l0.length ≤ c0) (h : laws_szIntS.f l0 a1 = some r) :
  Calls Tryd.prog 44 #[.slice A0 l0.length c0, .int .i64 a1] w fun e w' => e = .returned (.int .i64 r) ∧ Drawn0 w w' := by
 have HR0 := A_ hr0; have HC0 := A_ hc0; clear hr0 hc0; have H : (if (wrap64 (a1 - (l0.length : Int))) < 0 then (some (-1)) else (some (wrap64 (a1 - (l0.length : Int))))) = some r := h; clear h; replace H := it_ H; rcases H with ⟨aj, H⟩ | ⟨aj, H⟩
 ·
  obtain rfl := Option.some.inj H; go_enter Tryd.func44, Tryd.ntmps44; go_wp2; go_ret; exact ⟨tx_, dz_⟩
 ·
  obtain rfl := Option.some.inj H; go_enter Tryd.func44, Tryd.ntmps44; go_wp2; go_ret; exact ⟨tx_, dz_⟩

/-! ### laws_szPlace: function 19 -/
def laws_szPlace.f (af : List Int) (a0_1 : Int) (ag : List Int) (a1 : Int) : Option (Int) := (laws_szIntS.f af a1).bind fun aA => (if aA < 0 then (some (-1)) else ((laws_szIntS.f ag aA).bind fun aB => (if aB < 0 then (some (-1)) else (some aB))))
theorem laws_szPlace.z0 {P_ : Prop} (h_ : P_ := by go_wp2_with (first | ((with_reducible refine gate_dst (N := 2) rfl ?_); refine al_ st ?_; clear st cl; intro g2 w_ st; have cl := cl_ st) | ((with_reducible refine gate_callee (f := 44) rfl ?_); refine ca_ (some 8) Tryd.func44 _ (laws_szIntS.calls an ao _ _ _ _ (gt_ st) (gt_ st) A_8.out) ?_; rintro e w_ ⟨rfl, hb⟩; refine ⟨_, rfl, ?_⟩; replace hb := hb.below; replace st := st.ev hb; clear cl hb; have cl := cl_ st) | ((with_reducible refine gate_callee (f := 44) rfl ?_); refine ca_ (some 14) Tryd.func44 _ (laws_szIntS.calls ap aq _ _ _ _ (gt_ st) (gt_ st) A_14.out) ?_; rintro e w_ ⟨rfl, hb⟩; refine ⟨_, rfl, ?_⟩; replace hb := hb.below; replace st := st.ev hb; clear cl hb; have cl := cl_ st)); (go_ret; exact ⟨tw_, st.b⟩)) : P_ := h_
theorem laws_szPlace.calls (an : Option Addr) (ao : Nat) (af : List Int) (a0_1 : Int) (ap : Option Addr) (aq : Nat) (ag : List Int) (a1 : Int) (r : Int) (w : World) (hr0_0 : Kd.C (Kd.int .i64) w an af.length af) (hc0_0 : af.length ≤ ao) (hr0_2 : Kd.C (Kd.int .i64) w ap ag.length ag) (hc0_2 : ag.length ≤ aq) (h : laws_szPlace.f af a0_1 ag a1 = some r) :
  Calls Tryd.prog 19 #[.agg #[.slice an af.length ao, .int .i64 a0_1, .slice ap ag.length aq], .int .i64 a1] w fun e w' => e = .returned (.int .i64 r) ∧ Below w.heap.size w w' := by
 have hu24 := Tryd.underlying24; have st := ((ST.nil w).c hr0_0 hc0_0).c hr0_2 hc0_2; have s0 := st; have cl := cl_ st; have H := h; clear h; unfold laws_szPlace.f at H; go_enter Tryd.func19, Tryd.ntmps19; obtain ⟨aA, A_8, H⟩ := bnd_ H; replace H := it_ H; rcases H with ⟨aj, H⟩ | ⟨aj, H⟩
 ·
  obtain rfl := Option.some.inj H; exact laws_szPlace.z0
 ·
  obtain ⟨aB, A_14, H⟩ := bnd_ H; replace H := it_ H; rcases H with ⟨ak, H⟩ | ⟨ak, H⟩
  ·
   obtain rfl := Option.some.inj H; exact laws_szPlace.z0
  ·
   obtain rfl := Option.some.inj H; exact laws_szPlace.z0

/-! ### laws_szPlaceS: function 20 -/
def laws_szPlaceS.l0 : Nat → List (S24) → Int → Int → Option (Int)
 | 0, _, _, _ => none
 | k + 1, x0, x1, x5 => if x5 < (x0.length : Int) then (if 0 ≤ x5 then ((laws_szPlace.f ((rd_T24 x0 x5).f0) ((rd_T24 x0 x5).f1) ((rd_T24 x0 x5).f2) x1).bind fun ar => (if ar < 0 then (some (-1)) else (laws_szPlaceS.l0 k x0 ar (wrap64 (x5 + 1))))) else (none)) else (some x1)
def laws_szPlaceS.f (k : Nat) (l0 : List (S24)) (a1 : Int) : Option (Int) := if (wrap64 (a1 - (l0.length : Int))) < 0 then (some (-1)) else (laws_szPlaceS.l0 k l0 (wrap64 (a1 - (l0.length : Int))) 0)
theorem laws_szPlaceS.mono_l : ∀ k, (∀ y0 y1 y2, LeO (laws_szPlaceS.l0 k y0 y1 y2) (laws_szPlaceS.l0 (k + 1) y0 y1 y2))
 | 0 => fun _ _ _ r h => by simp [laws_szPlaceS.l0] at h
 | k + 1 => by
  have ih0 := laws_szPlaceS.mono_l k
  ·
   intro y0 y1 y2
   unfold laws_szPlaceS.l0
   repeat' (with_reducible first | exact ih0 _ _ _ | exact mr_ | exact mn_ | refine mi_ ?_ ?_ | refine mb_ ?_ (fun _ => ?_))
theorem laws_szPlaceS.mono : ∀ a0 a1 k, LeO (laws_szPlaceS.f k a0 a1) (laws_szPlaceS.f (k + 1) a0 a1) := by
 intro a0 a1 k; have ih0 := laws_szPlaceS.mono_l k; unfold laws_szPlaceS.f; repeat' (with_reducible first | exact ih0 _ _ _ | exact mr_ | exact mn_ | refine mi_ ?_ ?_ | refine mb_ ?_ (fun _ => ?_))
theorem laws_szPlaceS.z0 {P_ : Prop} (h_ : P_ := by go_wp2_with (first | ((with_reducible refine gate_dst (N := 20) rfl ?_); obtain ⟨p_, q_, ad_, aL, aM, aN, aO, e_, x0, x1, x2, l0_, C0_, l2_, C2_⟩ := a2_ (at_T24 (gC_ s0 k24 A0 l0) aa); replace x0 := cb_ st x0; replace x1 := cb_ st x1; replace x2 := cb_ st x2; replace st := st.c C0_ l0_; replace st := st.c C2_ l2_; have ix_ := ix3_ Tryd.underlying25 e_ p_ q_ (c := c0); clear e_; go_step) | ((with_reducible refine gate_callee (f := 19) rfl ?_); refine ca_ (some 23) Tryd.func19 _ (laws_szPlace.calls aL aM _ _ aN aO _ _ _ _ (gt_ st) (gt_ st) (gt_ st) (gt_ st) A_23.out) ?_; rintro e w_ ⟨rfl, hb⟩; refine ⟨_, rfl, ?_⟩; replace st := st.ev hb; clear cl hb; have cl := cl_ st)); first | (go_ret; exact ⟨tw_, st.b⟩) | (go_roundg k1; (case measure => have := HK1.out; omega); (case rel => exact ⟨(ar), (wrap64 (aa + 1)), tx_, tx_, H', ⟨by have := HK1.out; omega⟩, st.en⟩))) : P_ := h_
theorem laws_szPlaceS.calls (k : Nat) (A0 : Option Addr) (c0 : Nat) (l0 : List (S24)) (a1 : Int) (r : Int) (w : World) (hr0 : Kd.C k24 w A0 l0.length l0) (hc0 : l0.length ≤ c0) (h : laws_szPlaceS.f k l0 a1 = some r) :
  Calls Tryd.prog 20 #[.slice A0 l0.length c0, .int .i64 a1] w fun e w' => e = .returned (.int .i64 r) ∧ Below w.heap.size w w' := by
 have hu24 := Tryd.underlying24; have st := (ST.nil w).c hr0 hc0; have s0 := st; have cl := cl_ st; have H := h; clear h; unfold laws_szPlaceS.f at H; go_enter Tryd.func20, Tryd.ntmps20; replace H := it_ H; rcases H with ⟨aj, H⟩ | ⟨aj, H⟩
 ·
  obtain rfl := Option.some.inj H; go_wp2; go_ret; exact ⟨tw_, st.b⟩
 ·
  have H' := A_ H; clear H; go_wp2
  go_loopg [1, 5] k (fun kq v1 v5 w' => ∃ (aP : Int) (aa : Int), v1 = .int .i64 aP ∧ v5 = .int .i64 aa ∧ Aside0 (laws_szPlaceS.l0 kq l0 aP aa = some r) ∧ Aside0 (kq ≤ k) ∧ ST w [CA k24 w A0 l0 c0] [] w')
  case atStart => exact ⟨(wrap64 (a1 - (l0.length : Int))), (0), tx_, tx_, H', ⟨Nat.le_refl _⟩, st.en⟩
  case round =>
   clear H' st cl; obtain ⟨aP, aa, rfl, rfl, HA, HK1, st⟩ := hrel; have cl := cl_ st
   cases gk with
   | zero => exact absurd HA.out (by simp [laws_szPlaceS.l0])
   | succ k1 =>
    have H := HA.out; clear HA; simp only [laws_szPlaceS.l0] at H; replace H := it_ H; rcases H with ⟨aG, H⟩ | ⟨aG, H⟩
    ·
     replace H := in_ H; obtain ⟨a7, H⟩ := H; obtain ⟨ar, A_23, H⟩ := bnd_ H; replace H := it_ H; rcases H with ⟨a8, H⟩ | ⟨a8, H⟩
     ·
      obtain rfl := Option.some.inj H; exact laws_szPlaceS.z0
     ·
      have H' := A_ H; clear H; exact laws_szPlaceS.z0
    ·
     obtain rfl := Option.some.inj H; exact laws_szPlaceS.z0

/-! ### laws_szDesk: function 5 -/
def laws_szDesk.f (k : Nat) (af : List Int) (a0_1 : Int) (ag : List Int) (au : List (S24)) (a1 : Int) : Option (Int) := (laws_szPlace.f af a0_1 ag a1).bind fun aC => (if aC < 0 then (some (-1)) else ((laws_szPlaceS.f k au aC).bind fun aD => (if aD < 0 then (some (-1)) else (some aD))))
theorem laws_szDesk.mono : ∀ a0 a1 a2 a3 a4 k, LeO (laws_szDesk.f k a0 a1 a2 a3 a4) (laws_szDesk.f (k + 1) a0 a1 a2 a3 a4) := by
 intro a0 a1 a2 a3 a4 k; unfold laws_szDesk.f; repeat' (with_reducible first | exact laws_szPlaceS.mono _ _ _ | exact mr_ | exact mn_ | refine mi_ ?_ ?_ | refine mb_ ?_ (fun _ => ?_))
theorem laws_szDesk.z0 {P_ : Prop} (h_ : P_ := by go_wp2_with (first | ((with_reducible refine gate_dst (N := 2) rfl ?_); refine al_ st ?_; clear st cl; intro g2 w_ st; have cl := cl_ st) | ((with_reducible refine gate_callee (f := 19) rfl ?_); refine ca_ (some 8) Tryd.func19 _ (laws_szPlace.calls an ao _ _ ap aq _ _ _ _ (gt_ st) (gt_ st) (gt_ st) (gt_ st) A_8.out) ?_; rintro e w_ ⟨rfl, hb⟩; refine ⟨_, rfl, ?_⟩; replace st := st.ev hb; clear cl hb; have cl := cl_ st) | ((with_reducible refine gate_callee (f := 20) rfl ?_); refine ca_ (some 14) Tryd.func20 _ (laws_szPlaceS.calls k aQ aR _ _ _ _ (gt_ st) (gt_ st) A_14.out) ?_; rintro e w_ ⟨rfl, hb⟩; refine ⟨_, rfl, ?_⟩; replace st := st.ev hb; clear cl hb; have cl := cl_ st)); (go_ret; exact ⟨tw_, st.b⟩)) : P_ := h_
theorem laws_szDesk.calls (k : Nat) (an : Option Addr) (ao : Nat) (af : List Int) (a0_1 : Int) (ap : Option Addr) (aq : Nat) (ag : List Int) (aQ : Option Addr) (aR : Nat) (au : List (S24)) (a1 : Int) (r : Int) (w : World) (hr0_0 : Kd.C (Kd.int .i64) w an af.length af) (hc0_0 : af.length ≤ ao) (hr0_2 : Kd.C (Kd.int .i64) w ap ag.length ag) (hc0_2 : ag.length ≤ aq) (hr0_3 : Kd.C k24 w aQ au.length au) (hc0_3 : au.length ≤ aR) (h : laws_szDesk.f k af a0_1 ag au a1 = some r) :
  Calls Tryd.prog 5 #[.agg #[.slice an af.length ao, .int .i64 a0_1, .slice ap ag.length aq, .slice aQ au.length aR], .int .i64 a1] w fun e w' => e = .returned (.int .i64 r) ∧ Below w.heap.size w w' := by
 have hu27 := Tryd.underlying27; have hu24 := Tryd.underlying24; have st := (((ST.nil w).c hr0_0 hc0_0).c hr0_2 hc0_2).c hr0_3 hc0_3; have s0 := st; have cl := cl_ st; have H := h; clear h; unfold laws_szDesk.f at H; go_enter Tryd.func5, Tryd.ntmps5; obtain ⟨aC, A_8, H⟩ := bnd_ H; replace H := it_ H; rcases H with ⟨aj, H⟩ | ⟨aj, H⟩
 ·
  obtain rfl := Option.some.inj H; exact laws_szDesk.z0
 ·
  obtain ⟨aD, A_14, H⟩ := bnd_ H; replace H := it_ H; rcases H with ⟨ak, H⟩ | ⟨ak, H⟩
  ·
   obtain rfl := Option.some.inj H; exact laws_szDesk.z0
  ·
   obtain rfl := Option.some.inj H; exact laws_szDesk.z0

/-! ### spec_l1In: function 48 -/
def spec_l1In.f (a0 : Int) (a1 : Int) (a2 : Int) : Option (Bool) := if a0 ≥ a1 then (some (decide (a0 ≤ a2))) else (some false)
theorem spec_l1In.calls (a0 : Int) (a1 : Int) (a2 : Int) (r : Bool) (w : World) (h : spec_l1In.f a0 a1 a2 = some r) :
  Calls Tryd.prog 48 #[.int .i64 a0, .int .i64 a1, .int .i64 a2] w fun e w' => e = .returned (.bool r) ∧ Drawn0 w w' := by
 have H : (if a0 ≥ a1 then (some (decide (a0 ≤ a2))) else (some false)) = some r := h; clear h; replace H := ih_ H; rcases H with ⟨ak, H⟩ | ⟨ak, H⟩
 ·
  obtain rfl := Option.some.inj H; go_enter Tryd.func48, Tryd.ntmps48; go_wp2; go_ret; exact ⟨tx_, dz_⟩
 ·
  obtain rfl := Option.some.inj H; go_enter Tryd.func48, Tryd.ntmps48; go_wp2; go_ret; exact ⟨tx_, dz_⟩

/-! ### spec_UrnOk: function 65 -/
def spec_UrnOk.l0 : Nat → List Int → Int → Option (Bool)
 | 0, _, _ => none
 | k + 1, x0, x3 => if x3 < (x0.length : Int) then (if 0 ≤ x3 then ((spec_l1In.f (rd x0 x3) 0 40).bind fun aU => (if aU = true then (spec_UrnOk.l0 k x0 (wrap64 (x3 + 1))) else (some false))) else (none)) else ((spec_l1In.f (x0.length : Int) 1 3).bind fun aV => (some aV))
def spec_UrnOk.f (k : Nat) (l0 : List Int) : Option (Bool) := spec_UrnOk.l0 k l0 0
theorem spec_UrnOk.mono_l : ∀ k, (∀ y0 y1, LeO (spec_UrnOk.l0 k y0 y1) (spec_UrnOk.l0 (k + 1) y0 y1))
 | 0 => fun _ _ r h => by simp [spec_UrnOk.l0] at h
 | k + 1 => by
  have ih0 := spec_UrnOk.mono_l k
  ·
   intro y0 y1
   unfold spec_UrnOk.l0
   repeat' (with_reducible first | exact ih0 _ _ | exact mr_ | exact mn_ | refine mi_ ?_ ?_ | refine mb_ ?_ (fun _ => ?_))
theorem spec_UrnOk.mono : ∀ a0 k, LeO (spec_UrnOk.f k a0) (spec_UrnOk.f (k + 1) a0) := by
 intro a0 k; have ih0 := spec_UrnOk.mono_l k; unfold spec_UrnOk.f; repeat' (with_reducible first | exact ih0 _ _ | exact mr_ | exact mn_ | refine mi_ ?_ ?_ | refine mb_ ?_ (fun _ => ?_))
theorem spec_UrnOk.calls (k : Nat) (A0 : Option Addr) (c0 : Nat) (l0 : List Int) (r : Bool) (w : World) (hr0 : Kd.C (Kd.int .i64) w A0 l0.length l0) (hc0 : l0.length ≤ c0) (h : spec_UrnOk.f k l0 = some r) :
  Calls Tryd.prog 65 #[.slice A0 l0.length c0] w fun e w' => e = .returned (.bool r) ∧ Drawn0 w w' := by
 have HR0 := A_ hr0; have HC0 := A_ hc0; clear hr0 hc0; have H : (spec_UrnOk.l0 k l0 0) = some r := h; clear h; have H' := A_ H; clear H; go_enter Tryd.func65, Tryd.ntmps65; go_wp2
 go_loopg [3] k (fun kq v3 w' => ∃ (ac : Int), v3 = .int .i64 ac ∧ Aside0 (spec_UrnOk.l0 kq l0 ac = some r) ∧ Aside0 (kq ≤ k) ∧ Drawn0 w w')
 case atStart => exact ⟨(0), tx_, H', ⟨Nat.le_refl _⟩, dz_⟩
 case round =>
  clear H'; obtain ⟨ac, rfl, HA, HK1, ⟨m1, rfl⟩⟩ := hrel
  cases gk with
  | zero => exact absurd HA.out (by simp [spec_UrnOk.l0])
  | succ k1 =>
   have H := HA.out; clear HA; simp only [spec_UrnOk.l0] at H; replace H := it_ H; rcases H with ⟨aW, H⟩ | ⟨aW, H⟩
   ·
    replace H := in_ H; obtain ⟨aj, H⟩ := H; obtain ⟨aU, A4, H⟩ := bnd_ H; (try dsimp only at H); by_cases c5 : aU = true
    ·
     subst c5; replace H : (spec_UrnOk.l0 k1 l0 (wrap64 (ac + 1))) = some r := by rw [if_pos rfl] at H; exact H
     have H' := A_ H; clear H; obtain ⟨p109, q109, ad109, e109, aH⟩ := a2_ (Kd.at_int HR0.out ac); cases e109; go_wp2_with (first | ((with_reducible refine gate_callee (f := 48) rfl ?_); refine gl_ (some 14) Tryd.func48 #[.int .i64 (rd l0 ac), .int .i64 0, .int .i64 40] ?_; (with_reducible refine (spec_l1In.calls (rd l0 ac) 0 40 true _ A4.out).mono ?_); rintro e w' ⟨rfl, ⟨nd, rfl⟩⟩; refine ⟨_, rfl, ?_⟩))
     go_roundg k1
     case measure => have := HK1.out; omega
     case rel => exact ⟨(wrap64 (ac + 1)), tx_, H', ⟨by have := HK1.out; omega⟩, dz_⟩
    ·
     replace c5 := Bool.eq_false_iff.mpr c5; subst c5; replace H : (some false) = some r := by rw [if_neg (show ¬ (false = true) by decide)] at H; exact H
     obtain rfl := Option.some.inj H; obtain ⟨p109, q109, ad109, e109, aH⟩ := a2_ (Kd.at_int HR0.out ac); cases e109; go_wp2_with (first | ((with_reducible refine gate_callee (f := 48) rfl ?_); refine gl_ (some 14) Tryd.func48 #[.int .i64 (rd l0 ac), .int .i64 0, .int .i64 40] ?_; (with_reducible refine (spec_l1In.calls (rd l0 ac) 0 40 false _ A4.out).mono ?_); rintro e w' ⟨rfl, ⟨nd, rfl⟩⟩; refine ⟨_, rfl, ?_⟩)); go_ret; exact ⟨tx_, dz_⟩
   ·
    obtain ⟨aV, A6, H⟩ := bnd_ H; (try dsimp only at H); obtain rfl := Option.some.inj H; go_wp2_with (first | ((with_reducible refine gate_callee (f := 48) rfl ?_); refine gl_ (some 18) Tryd.func48 #[.int .i64 (l0.length : Int), .int .i64 1, .int .i64 3] ?_; (with_reducible refine (spec_l1In.calls (l0.length : Int) 1 3 aV _ A6.out).mono ?_); rintro e w' ⟨rfl, ⟨nd, rfl⟩⟩; refine ⟨_, rfl, ?_⟩)); go_ret; exact ⟨tx_, dz_⟩

/-! ### spec_StartOk: function 47 -/
def spec_StartOk.l0 : Nat → List Int → Int → Option (Bool)
 | 0, _, _ => none
 | k + 1, x0, x3 => if x3 < (x0.length : Int) then (if 0 ≤ x3 then (if (rd x0 x3) > 10 then (some false) else (spec_StartOk.l0 k x0 (wrap64 (x3 + 1)))) else (none)) else ((spec_UrnOk.f k x0).bind fun aX => (some aX))
def spec_StartOk.f (k : Nat) (l0 : List Int) : Option (Bool) := spec_StartOk.l0 k l0 0
theorem spec_StartOk.mono_l : ∀ k, (∀ y0 y1, LeO (spec_StartOk.l0 k y0 y1) (spec_StartOk.l0 (k + 1) y0 y1))
 | 0 => fun _ _ r h => by simp [spec_StartOk.l0] at h
 | k + 1 => by
  have ih0 := spec_StartOk.mono_l k
  ·
   intro y0 y1
   unfold spec_StartOk.l0
   repeat' (with_reducible first | exact ih0 _ _ | exact spec_UrnOk.mono _ _ | exact mr_ | exact mn_ | refine mi_ ?_ ?_ | refine mb_ ?_ (fun _ => ?_))
theorem spec_StartOk.mono : ∀ a0 k, LeO (spec_StartOk.f k a0) (spec_StartOk.f (k + 1) a0) := by
 intro a0 k; have ih0 := spec_StartOk.mono_l k; unfold spec_StartOk.f; repeat' (with_reducible first | exact ih0 _ _ | exact spec_UrnOk.mono _ _ | exact mr_ | exact mn_ | refine mi_ ?_ ?_ | refine mb_ ?_ (fun _ => ?_))
theorem spec_StartOk.calls (k : Nat) (A0 : Option Addr) (c0 : Nat) (l0 : List Int) (r : Bool) (w : World) (hr0 : Kd.C (Kd.int .i64) w A0 l0.length l0) (hc0 : l0.length ≤ c0) (h : spec_StartOk.f k l0 = some r) :
  Calls Tryd.prog 47 #[.slice A0 l0.length c0] w fun e w' => e = .returned (.bool r) ∧ Drawn0 w w' := by
 have HR0 := A_ hr0; have HC0 := A_ hc0; clear hr0 hc0; have H : (spec_StartOk.l0 k l0 0) = some r := h; clear h; have H' := A_ H; clear H; go_enter Tryd.func47, Tryd.ntmps47; go_wp2
 go_loopg [3] k (fun kq v3 w' => ∃ (ac : Int), v3 = .int .i64 ac ∧ Aside0 (spec_StartOk.l0 kq l0 ac = some r) ∧ Aside0 (kq ≤ k) ∧ Drawn0 w w')
 case atStart => exact ⟨(0), tx_, H', ⟨Nat.le_refl _⟩, dz_⟩
 case round =>
  clear H'; obtain ⟨ac, rfl, HA, HK1, ⟨m1, rfl⟩⟩ := hrel
  cases gk with
  | zero => exact absurd HA.out (by simp [spec_StartOk.l0])
  | succ k1 =>
   have H := HA.out; clear HA; simp only [spec_StartOk.l0] at H; replace H := it_ H; rcases H with ⟨aW, H⟩ | ⟨aW, H⟩
   ·
    replace H := in_ H; obtain ⟨aj, H⟩ := H; replace H := ig_ H; rcases H with ⟨ak, H⟩ | ⟨ak, H⟩
    ·
     obtain rfl := Option.some.inj H; obtain ⟨p112, q112, ad112, e112, aI⟩ := a2_ (Kd.at_int HR0.out ac); cases e112; go_wp2; go_ret; exact ⟨tx_, dz_⟩
    ·
     have H' := A_ H; clear H; obtain ⟨p112, q112, ad112, e112, aI⟩ := a2_ (Kd.at_int HR0.out ac); cases e112; go_wp2
     go_roundg k1
     case measure => have := HK1.out; omega
     case rel => exact ⟨(wrap64 (ac + 1)), tx_, H', ⟨by have := HK1.out; omega⟩, dz_⟩
   ·
    obtain ⟨aX, A5, H⟩ := bnd_ H; (try dsimp only at H); obtain rfl := Option.some.inj H; go_wp2_with (first | ((with_reducible refine gate_callee (f := 65) rfl ?_); refine gl_ (some 16) Tryd.func65 #[.slice A0 l0.length c0] ?_; (with_reducible refine (spec_UrnOk.calls k1 _ _ l0 aX _ ?s1 ?s2 A5.out).mono ?_); (case s1 => exact td_); (case s2 => exact HC0.out); rintro e w' ⟨rfl, ⟨nd, rfl⟩⟩; refine ⟨_, rfl, ?_⟩)); go_ret; exact ⟨tx_, dz_⟩

/-! ### spec_RuleOk: function 66 -/
mutual
def spec_RuleOk.l0 : Nat → Int → List (List Int) → Int → Option (Bool)
 | 0, _, _, _ => none
 | k + 1, x0, x1, x5 => if x5 < (x1.length : Int) then (if 0 ≤ x5 then (if ((rd_L1 x1 x5).length : Int) = x0 then (spec_RuleOk.l1 k x0 x1 x5 0) else (some false)) else (none)) else ((spec_l1In.f x0 1 3).bind fun aY => (if aY = true then (some ((x1.length : Int) == x0)) else (some false)))
def spec_RuleOk.l1 : Nat → Int → List (List Int) → Int → Int → Option (Bool)
 | 0, _, _, _, _ => none
 | k + 1, x0, x1, x5, x6 => if x6 < x0 then (if 0 ≤ x5 then (if x5 < (x1.length : Int) then (if 0 ≤ x6 then (if x6 < ((rd_L1 x1 x5).length : Int) then ((spec_l1In.f (rd (rd_L1 x1 x5) x6) 0 3).bind fun aZ => (if aZ = true then (spec_RuleOk.l1 k x0 x1 x5 (wrap64 (x6 + 1))) else (if (rd (rd_L1 x1 x5) x6) = (-1) then (if x6 = x5 then (spec_RuleOk.l1 k x0 x1 x5 (wrap64 (x6 + 1))) else (some false)) else (some false)))) else (none)) else (none)) else (none)) else (none)) else (spec_RuleOk.l0 k x0 x1 (wrap64 (x5 + 1)))
end
def spec_RuleOk.f (k : Nat) (a0 : Int) (l1 : List (List Int)) : Option (Bool) := spec_RuleOk.l0 k a0 l1 0
theorem spec_RuleOk.mono_l : ∀ k, (∀ y0 y1 y2, LeO (spec_RuleOk.l0 k y0 y1 y2) (spec_RuleOk.l0 (k + 1) y0 y1 y2)) ∧ (∀ y0 y1 y2 y3, LeO (spec_RuleOk.l1 k y0 y1 y2 y3) (spec_RuleOk.l1 (k + 1) y0 y1 y2 y3))
 | 0 => ⟨fun _ _ _ r h => by simp [spec_RuleOk.l0] at h, fun _ _ _ _ r h => by simp [spec_RuleOk.l1] at h⟩
 | k + 1 => by
  obtain ⟨ih0, ih1⟩ := spec_RuleOk.mono_l k
  refine ⟨?_, ?_⟩
  ·
   intro y0 y1 y2
   unfold spec_RuleOk.l0
   repeat' (with_reducible first | exact ih0 _ _ _ | exact ih1 _ _ _ _ | exact mr_ | exact mn_ | refine mi_ ?_ ?_ | refine mb_ ?_ (fun _ => ?_))
  ·
   intro y0 y1 y2 y3
   unfold spec_RuleOk.l1
   repeat' (with_reducible first | exact ih0 _ _ _ | exact ih1 _ _ _ _ | exact mr_ | exact mn_ | refine mi_ ?_ ?_ | refine mb_ ?_ (fun _ => ?_))
theorem spec_RuleOk.mono : ∀ a0 a1 k, LeO (spec_RuleOk.f k a0 a1) (spec_RuleOk.f (k + 1) a0 a1) := by
 intro a0 a1 k; obtain ⟨ih0, ih1⟩ := spec_RuleOk.mono_l k; unfold spec_RuleOk.f; repeat' (with_reducible first | exact ih0 _ _ _ | exact ih1 _ _ _ _ | exact mr_ | exact mn_ | refine mi_ ?_ ?_ | refine mb_ ?_ (fun _ => ?_))
theorem spec_RuleOk.calls (k : Nat) (a0 : Int) (A1 : Option Addr) (c1 : Nat) (l1 : List (List Int)) (r : Bool) (w : World) (hr1 : Kd.C (Kd.slice 3 (Kd.int .i64)) w A1 l1.length l1) (hc1 : l1.length ≤ c1) (h : spec_RuleOk.f k a0 l1 = some r) :
  Calls Tryd.prog 66 #[.int .i64 a0, .slice A1 l1.length c1] w fun e w' => e = .returned (.bool r) ∧ Drawn0 w w' := by
 have HR1 := A_ hr1; have HC1 := A_ hc1; clear hr1 hc1; have H : (spec_RuleOk.l0 k a0 l1 0) = some r := h; clear h; have H' := A_ H; clear H; go_enter Tryd.func66, Tryd.ntmps66; go_wp2
 go_loopg [5] k (fun kq v5 w' => ∃ (aa : Int), v5 = .int .i64 aa ∧ Aside0 (spec_RuleOk.l0 kq a0 l1 aa = some r) ∧ Aside0 (kq ≤ k) ∧ Drawn0 w w')
 case atStart => exact ⟨(0), tx_, H', ⟨Nat.le_refl _⟩, dz_⟩
 case round =>
  clear H'; obtain ⟨aa, rfl, HA, HK1, ⟨m1, rfl⟩⟩ := hrel
  cases gk with
  | zero => exact absurd HA.out (by simp [spec_RuleOk.l0])
  | succ k1 =>
   have H := HA.out; clear HA; simp only [spec_RuleOk.l0] at H; replace H := it_ H; rcases H with ⟨aj, H⟩ | ⟨aj, H⟩
   ·
    replace H := in_ H; obtain ⟨ak, H⟩ := H; by_cases c5 : ((rd_L1 l1 aa).length : Int) = a0
    ·
     rw [if_pos c5] at H; have aG : (((rd_L1 l1 aa).length : Int) == a0) = true := beq_iff_eq.mpr c5; have a9 : (((rd_L1 l1 aa).length : Int) != a0) = false := bne_eq_false_iff_eq.mpr c5; clear c5; have H' := A_ H; clear H; obtain ⟨p115, q115, ad115, a5, a6, e115, ax, hl115_0, hi115_0⟩ := a2_ (at_L1 HR1.out aa); cases e115; have aJ := A_ hi115_0; have aK := A_ hl115_0; clear hi115_0 hl115_0; go_wp2
     go_loopg [6] k1 (fun kq v6 w' => ∃ (ab : Int), v6 = .int .i64 ab ∧ Aside0 (spec_RuleOk.l1 kq a0 l1 aa ab = some r) ∧ Aside0 (kq ≤ k1) ∧ Drawn0 w w')
     case atStart => exact ⟨(0), tx_, H', ⟨Nat.le_refl _⟩, dz_⟩
     case round =>
      clear H'; (try clear c3); (try clear aj); (try clear c4); (try clear ak); (try clear c5); (try clear aG); (try clear a9); (try clear ax); (try clear p115); (try clear q115); obtain ⟨ab, rfl, HA, HK2, ⟨m2, rfl⟩⟩ := hrel
      cases gk with
      | zero => exact absurd HA.out (by simp [spec_RuleOk.l1])
      | succ k2 =>
       have H := HA.out; clear HA; simp only [spec_RuleOk.l1] at H; replace H := it_ H; rcases H with ⟨a7, H⟩ | ⟨a7, H⟩
       ·
        replace H := in_ H; obtain ⟨a8, H⟩ := H; replace H := in_ H; obtain ⟨bg, H⟩ := H; replace H := in_ H; obtain ⟨bh, H⟩ := H; replace H := in_ H; obtain ⟨bf, H⟩ := H; obtain ⟨aZ, A11, H⟩ := bnd_ H; (try dsimp only at H); by_cases c12 : aZ = true
        ·
         subst c12; replace H : (spec_RuleOk.l1 k2 a0 l1 aa (wrap64 (ab + 1))) = some r := by rw [if_pos rfl] at H; exact H
         have H' := A_ H; clear H; have p116 : 0 ≤ (aa : Int) := od_; have q116 : aa < (l1.length : Int) := od_; obtain ⟨ad116, av, aw, e116, ae, hl116_0, hi116_0⟩ := at_L1 HR1.out aa p116 q116; obtain rfl : ad115 = ad116 := (by injection e116)
         have ad := A_ hi116_0; have al := A_ hl116_0; clear hi116_0 hl116_0; replace p116 := eq_true p116; replace q116 := eq_true q116; obtain ⟨p117, q117, ad117, e117, am⟩ := a2_ (Kd.at_int ad.out ab); cases e117; go_wp2_with (first | ((with_reducible refine gate_callee (f := 48) rfl ?_); refine gl_ (some 32) Tryd.func48 #[.int .i64 (rd (rd_L1 l1 aa) ab), .int .i64 0, .int .i64 3] ?_; (with_reducible refine (spec_l1In.calls (rd (rd_L1 l1 aa) ab) 0 3 true _ A11.out).mono ?_); rintro e w' ⟨rfl, ⟨nd, rfl⟩⟩; refine ⟨_, rfl, ?_⟩))
         go_roundg k2
         case measure => have := HK1.out; have := HK2.out; omega
         case rel => exact ⟨(wrap64 (ab + 1)), tx_, H', ⟨by have := HK1.out; have := HK2.out; omega⟩, dz_⟩
        ·
         replace c12 := Bool.eq_false_iff.mpr c12; subst c12; replace H : (if (rd (rd_L1 l1 aa) ab) = (-1) then (if ab = aa then (spec_RuleOk.l1 k2 a0 l1 aa (wrap64 (ab + 1))) else (some false)) else (some false)) = some r := by rw [if_neg (show ¬ (false = true) by decide)] at H; exact H
         by_cases c13 : (rd (rd_L1 l1 aa) ab) = (-1)
         ·
          rw [if_pos c13] at H; have bb : ((rd (rd_L1 l1 aa) ab) == (-1)) = true := beq_iff_eq.mpr c13; have bc : ((rd (rd_L1 l1 aa) ab) != (-1)) = false := bne_eq_false_iff_eq.mpr c13; clear c13; by_cases c14 : ab = aa
          ·
           rw [if_pos c14] at H; have bd : (ab == aa) = true := beq_iff_eq.mpr c14; have be : (ab != aa) = false := bne_eq_false_iff_eq.mpr c14; clear c14; have H' := A_ H; clear H; have p116 : 0 ≤ (aa : Int) := od_; have q116 : aa < (l1.length : Int) := od_; obtain ⟨ad116, av, aw, e116, ae, hl116_0, hi116_0⟩ := at_L1 HR1.out aa p116 q116; obtain rfl : ad115 = ad116 := (by injection e116)
           have ad := A_ hi116_0; have al := A_ hl116_0; clear hi116_0 hl116_0; replace p116 := eq_true p116; replace q116 := eq_true q116; obtain ⟨p117, q117, ad117, e117, am⟩ := a2_ (Kd.at_int ad.out ab); cases e117; go_wp2_with (first | ((with_reducible refine gate_callee (f := 48) rfl ?_); refine gl_ (some 32) Tryd.func48 #[.int .i64 (rd (rd_L1 l1 aa) ab), .int .i64 0, .int .i64 3] ?_; (with_reducible refine (spec_l1In.calls (rd (rd_L1 l1 aa) ab) 0 3 false _ A11.out).mono ?_); rintro e w' ⟨rfl, ⟨nd, rfl⟩⟩; refine ⟨_, rfl, ?_⟩; have p119 : 0 ≤ (aa : Int) := od_; have q119 : aa < (l1.length : Int) := od_; obtain ⟨ad119, aE, aF, e119, ah, hl119_0, hi119_0⟩ := at_L1 HR1.out aa p119 q119; obtain rfl : ad115 = ad119 := (by injection e119); have ai := A_ hi119_0; have ay := A_ hl119_0; clear hi119_0 hl119_0; replace p119 := eq_true p119; replace q119 := eq_true q119; have ea_ := Option.some.inj (ae.symm.trans ah); injection ea_ with ea_ en_ ec_; subst ea_; subst ec_; clear en_; obtain ⟨p120, q120, ad120, e120, az⟩ := a2_ (Kd.at_int ai.out ab); cases e120))
           go_roundg k2
           case measure => have := HK1.out; have := HK2.out; omega
           case rel => exact ⟨(wrap64 (ab + 1)), tx_, H', ⟨by have := HK1.out; have := HK2.out; omega⟩, dz_⟩
          ·
           rw [if_neg c14] at H; have bd : (ab == aa) = false := beq_eq_false_iff_ne.mpr c14; have be : (ab != aa) = true := bne_iff_ne.mpr c14; obtain rfl := Option.some.inj H; have p116 : 0 ≤ (aa : Int) := od_; have q116 : aa < (l1.length : Int) := od_; obtain ⟨ad116, av, aw, e116, ae, hl116_0, hi116_0⟩ := at_L1 HR1.out aa p116 q116; obtain rfl : ad115 = ad116 := (by injection e116)
           have ad := A_ hi116_0; have al := A_ hl116_0; clear hi116_0 hl116_0; replace p116 := eq_true p116; replace q116 := eq_true q116; obtain ⟨p117, q117, ad117, e117, am⟩ := a2_ (Kd.at_int ad.out ab); cases e117; go_wp2_with (first | ((with_reducible refine gate_callee (f := 48) rfl ?_); refine gl_ (some 32) Tryd.func48 #[.int .i64 (rd (rd_L1 l1 aa) ab), .int .i64 0, .int .i64 3] ?_; (with_reducible refine (spec_l1In.calls (rd (rd_L1 l1 aa) ab) 0 3 false _ A11.out).mono ?_); rintro e w' ⟨rfl, ⟨nd, rfl⟩⟩; refine ⟨_, rfl, ?_⟩; have p119 : 0 ≤ (aa : Int) := od_; have q119 : aa < (l1.length : Int) := od_; obtain ⟨ad119, aE, aF, e119, ah, hl119_0, hi119_0⟩ := at_L1 HR1.out aa p119 q119; obtain rfl : ad115 = ad119 := (by injection e119); have ai := A_ hi119_0; have ay := A_ hl119_0; clear hi119_0 hl119_0; replace p119 := eq_true p119; replace q119 := eq_true q119; have ea_ := Option.some.inj (ae.symm.trans ah); injection ea_ with ea_ en_ ec_; subst ea_; subst ec_; clear en_; obtain ⟨p120, q120, ad120, e120, az⟩ := a2_ (Kd.at_int ai.out ab); cases e120)); go_ret; exact ⟨tx_, dz_⟩
         ·
          rw [if_neg c13] at H; have bb : ((rd (rd_L1 l1 aa) ab) == (-1)) = false := beq_eq_false_iff_ne.mpr c13; have bc : ((rd (rd_L1 l1 aa) ab) != (-1)) = true := bne_iff_ne.mpr c13; obtain rfl := Option.some.inj H; have p116 : 0 ≤ (aa : Int) := od_; have q116 : aa < (l1.length : Int) := od_; obtain ⟨ad116, av, aw, e116, ae, hl116_0, hi116_0⟩ := at_L1 HR1.out aa p116 q116; obtain rfl : ad115 = ad116 := (by injection e116)
          have ad := A_ hi116_0; have al := A_ hl116_0; clear hi116_0 hl116_0; replace p116 := eq_true p116; replace q116 := eq_true q116; obtain ⟨p117, q117, ad117, e117, am⟩ := a2_ (Kd.at_int ad.out ab); cases e117; go_wp2_with (first | ((with_reducible refine gate_callee (f := 48) rfl ?_); refine gl_ (some 32) Tryd.func48 #[.int .i64 (rd (rd_L1 l1 aa) ab), .int .i64 0, .int .i64 3] ?_; (with_reducible refine (spec_l1In.calls (rd (rd_L1 l1 aa) ab) 0 3 false _ A11.out).mono ?_); rintro e w' ⟨rfl, ⟨nd, rfl⟩⟩; refine ⟨_, rfl, ?_⟩; have p119 : 0 ≤ (aa : Int) := od_; have q119 : aa < (l1.length : Int) := od_; obtain ⟨ad119, aE, aF, e119, ah, hl119_0, hi119_0⟩ := at_L1 HR1.out aa p119 q119; obtain rfl : ad115 = ad119 := (by injection e119); have ai := A_ hi119_0; have ay := A_ hl119_0; clear hi119_0 hl119_0; replace p119 := eq_true p119; replace q119 := eq_true q119; have ea_ := Option.some.inj (ae.symm.trans ah); injection ea_ with ea_ en_ ec_; subst ea_; subst ec_; clear en_; obtain ⟨p120, q120, ad120, e120, az⟩ := a2_ (Kd.at_int ai.out ab); cases e120)); go_ret; exact ⟨tx_, dz_⟩
       ·
        have H' := A_ H; clear H; go_wp2
        go_roundg k2
        case measure => have := HK1.out; have := HK2.out; omega
        case rel => exact ⟨(wrap64 (aa + 1)), tx_, H', ⟨by have := HK1.out; have := HK2.out; omega⟩, dz_⟩
    ·
     rw [if_neg c5] at H; have aG : (((rd_L1 l1 aa).length : Int) == a0) = false := beq_eq_false_iff_ne.mpr c5; have a9 : (((rd_L1 l1 aa).length : Int) != a0) = true := bne_iff_ne.mpr c5; obtain rfl := Option.some.inj H; obtain ⟨p115, q115, ad115, a5, a6, e115, ax, hl115_0, hi115_0⟩ := a2_ (at_L1 HR1.out aa); cases e115; have aJ := A_ hi115_0; have aK := A_ hl115_0; clear hi115_0 hl115_0; go_wp2; go_ret; exact ⟨tx_, dz_⟩
   ·
    obtain ⟨aY, A15, H⟩ := bnd_ H; (try dsimp only at H); by_cases c16 : aY = true
    ·
     subst c16; replace H : (some ((l1.length : Int) == a0)) = some r := by rw [if_pos rfl] at H; exact H
     obtain rfl := Option.some.inj H; go_wp2_with (first | ((with_reducible refine gate_callee (f := 48) rfl ?_); refine gl_ (some 51) Tryd.func48 #[.int .i64 a0, .int .i64 1, .int .i64 3] ?_; (with_reducible refine (spec_l1In.calls a0 1 3 true _ A15.out).mono ?_); rintro e w' ⟨rfl, ⟨nd, rfl⟩⟩; refine ⟨_, rfl, ?_⟩)); go_ret; exact ⟨tx_, dz_⟩
    ·
     replace c16 := Bool.eq_false_iff.mpr c16; subst c16; replace H : (some false) = some r := by rw [if_neg (show ¬ (false = true) by decide)] at H; exact H
     obtain rfl := Option.some.inj H; go_wp2_with (first | ((with_reducible refine gate_callee (f := 48) rfl ?_); refine gl_ (some 51) Tryd.func48 #[.int .i64 a0, .int .i64 1, .int .i64 3] ?_; (with_reducible refine (spec_l1In.calls a0 1 3 false _ A15.out).mono ?_); rintro e w' ⟨rfl, ⟨nd, rfl⟩⟩; refine ⟨_, rfl, ?_⟩)); go_ret; exact ⟨tx_, dz_⟩

end Go.Proofs.YtmodbemkflkbeaaDoor.MFnExactDeskDo
