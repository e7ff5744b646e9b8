/- For the law FnJournalText: walks of the functions that it reaches: each call returns what the plain function beside it tells. The conditions stand in each statement. -/
import Derived.Test.YtlhiienanbpdlaaDoorV
import Derived.Test.YtlhiienanbpdlaaDoorMFnJournalTextx0
import Derived.Test.YtlhiienanbpdlaaDoorMFnJournalTextx3
import Derived.Test.YtlhiienanbpdlaaDoorMFnJournalTextx4
import Derived.Test.YtlhiienanbpdlaaDoorMFnJournalTextx6
namespace Go.Proofs.YtlhiienanbpdlaaDoor.MFnJournalText
open Go.RowKit Go.Proofs.YtlhiienanbpdlaaDoorW.PrintWords Go.Proofs.YtlhiienanbpdlaaDoorW.PrintLast Go.Proofs.YtlhiienanbpdlaaDoorW.PrintMore
attribute [local go_sem] max2_int min2_int max_two min_two max_three min_three max_four min_four   -- for this text's walks alone
set_option linter.unusedVariables false
set_option linter.unusedSimpArgs false

/-! ### spec_l20Deeds: function 81 -/
def spec_l20Deeds.l0 : Nat → List (S30) → Int → List Int → Int → List Int → Int → List Int → Option ((List (S30)) × Int)
 | 0, _, _, _, _, _, _, _ => none
 | k + 1, x5, x6, bd, be, ay, az, aA => if x6 > 0 then ((spec_l20Deed.f k bd be ay az aA).bind fun aB => (if x5.length < 5864062014805 then (spec_l20Deeds.l0 k (x5 ++ [(⟨aB.1, aB.2.1, aB.2.2.1⟩ : S30)]) (wrap64 (x6 - 1)) bd aB.2.2.2 ay az aA) else (none))) else (some (x5, be))
def spec_l20Deeds.f (k : Nat) (ag : List Int) (ar : Int) (ai : List Int) (a1_1 : Int) (aj : List Int) : Option ((List (S30)) × Int) := (spec_l20Rd_pick.f k ag ar 6).bind fun an => (spec_l20Deeds.l0 k (([] : List (S30))) an.1 ag an.2 ai a1_1 aj)
theorem spec_l20Deeds.mono_l : ∀ k, (∀ y0 y1 y2 y3 y4 y5 y6, LeO (spec_l20Deeds.l0 k y0 y1 y2 y3 y4 y5 y6) (spec_l20Deeds.l0 (k + 1) y0 y1 y2 y3 y4 y5 y6))
 | 0 => fun _ _ _ _ _ _ _ r h => by simp [spec_l20Deeds.l0] at h
 | k + 1 => by
  have ih0 := spec_l20Deeds.mono_l k
  ·
   intro y0 y1 y2 y3 y4 y5 y6
   unfold spec_l20Deeds.l0
   repeat' (with_reducible first | exact ih0 _ _ _ _ _ _ _ | exact spec_l20Deed.mono _ _ _ _ _ _ | exact spec_l20Rd_pick.mono _ _ _ _ | exact mr_ | exact mn_ | refine mi_ ?_ ?_ | refine mb_ ?_ (fun _ => ?_))
theorem spec_l20Deeds.mono : ∀ a0 a1 a2 a3 a4 k, LeO (spec_l20Deeds.f k a0 a1 a2 a3 a4) (spec_l20Deeds.f (k + 1) a0 a1 a2 a3 a4) := by
 intro a0 a1 a2 a3 a4 k
 have ih0 := spec_l20Deeds.mono_l k
 unfold spec_l20Deeds.f
 repeat' (with_reducible first | exact ih0 _ _ _ _ _ _ _ | exact spec_l20Deed.mono _ _ _ _ _ _ | exact spec_l20Rd_pick.mono _ _ _ _ | exact mr_ | exact mn_ | refine mi_ ?_ ?_ | refine mb_ ?_ (fun _ => ?_))
set_option maxHeartbeats 8000000 in
set_option maxRecDepth 100000 in
theorem spec_l20Deeds.calls (k : Nat) (g : Nat) (ag : List Int) (ar : Int) (aH : Option Addr) (aK : Nat) (ai : List Int) (a1_1 : Int) (aI : Option Addr) (aM : Nat) (aj : List Int) (r1 : List (S30)) (r2 : Int) (w0 w : World) (hI : IsS126 w0 w g ag ar) (hB : Below w0.heap.size w0 w) (hr1_0 : Kd.C (Kd.int .i64) w aH ai.length ai) (hc1_0 : ai.length ≤ aK) (hf1_0 : ∀ ad, aH = some ad → 0 < ai.length → ad.block ≠ g) (hr1_2 : Kd.C (Kd.int .i64) w aI aj.length aj) (hc1_2 : aj.length ≤ aM) (hf1_2 : ∀ ad, aI = some ad → 0 < aj.length → ad.block ≠ g) (h : spec_l20Deeds.f k ag ar ai a1_1 aj = some (r1, r2)) :
  Calls Tryd.prog 81 #[.pointer (some ⟨g, 0, none⟩), .agg #[.slice aH ai.length aK, .int .i64 a1_1, .slice aI aj.length aM]] w fun e w' => ∃ v0_ : Value, e = .returned (v0_) ∧ Kd.R k30 30 w' w.heap.size (fun _ => True) v0_ r1 ∧ IsS126 w0 w' g ag r2 ∧ Below w0.heap.size w0 w' ∧ KeepBut w w' g none := by
 have hu25 := Tryd.underlying25
 have br := Aside0.mk hr1_0
 have bs := Aside0.mk hc1_0
 clear hr1_0 hc1_0
 have bu := Aside0.mk hr1_2
 have bv := Aside0.mk hc1_2
 clear hr1_2 hc1_2
 have HI0 := Aside0.mk hI
 have HK := Aside0.mk (KeepBut.refl w g none)
 have HL := Aside0.mk hB.size
 have HLg := Aside0.mk hI.lt
 clear hI
 have HW0 := Aside0.mk hB.size
 have HB := Aside0.mk hB
 clear hB
 have H : ((spec_l20Rd_pick.f k ag ar 6).bind fun an => (spec_l20Deeds.l0 k (([] : List (S30))) an.1 ag an.2 ai a1_1 aj)) = some (r1, r2) := h
 clear h
 obtain ⟨bw, aN⟩ : ∃ y_ : List (S30), y_ = (([] : List (S30))) := ⟨_, rfl⟩
 replace H : ((spec_l20Rd_pick.f k ag ar 6).bind fun an => (spec_l20Deeds.l0 k bw an.1 ag an.2 ai a1_1 aj)) = some (r1, r2) := yq_ aN H
 have bf := Aside0.mk aN
 clear aN
 obtain ⟨⟨bx, bz⟩, A3, H⟩ := bnd_ H
 try dsimp only at H
 have H' := Aside0.mk H
 clear H
 go_enter Tryd.func81, Tryd.ntmps81
 go_wp2_with (first | ((with_reducible refine gate_dst (N := 3) rfl ?_); refine box_event ?hg (N := 3) ?hd (cs := #[.slice aH ai.length aK, .int .i64 a1_1, .slice aI aj.length aM]) (t := 25) ?hr ?_; (case hd => rfl); (case hg => rfl); (case hr => first | (go_simp; done) | (go_simp; rfl)); intro bB hg w4 hbox hb; replace HI0 := ti126_b HI0 hb; replace HB := tu126_s HB hb; have ae := Aside0.mk (hbox); have bS := gw_ HK hg; have bU := ge_ HW0 HK hg; have aZ := nk_ HLg HK hg; have ao := nm_ HLg HK hg; replace HK := ko_ HK hb; clear hb hbox hg) | ((with_reducible refine gate_dst (N := 7) rfl ?_); refine Kd.R_lit k30 _ 30 ?hg (N := 7) ?hd (xs := ([] : List (S30))) (inner := []) (ok := fun _ => True) (okp := fun _ => True) ?hr ?hp (fun _ hk => hk) trivial (Below.refl _ _) (Nat.le_refl _) (by simp) ?_; (case hd => rfl); (case hg => rfl); (case hr => first | (go_simp; done) | (go_simp; rfl)); (case hp => exact (Reps.none _ _)); intro bZ w5 ho6 hb hg_ hnew_; clear hg_ hnew_; (first | rw [← bf.out] at ho6 | (simp only [Int.reduceToNat] at ho6; rw [← bf.out] at ho6)); have aQ := rl_ ho6 HK; replace HI0 := ti126_b HI0 hb; replace ae := bb_ ae hb; replace HK := ko_ HK hb; replace HB := tu126_s HB hb; clear hb ho6) | ((with_reducible refine gate_callee (f := 101) rfl ?_); refine gl_ (some 9) Tryd.func101 #[.pointer (some ⟨g, 0, none⟩), .int .i64 6] ?_; (with_reducible refine (spec_l20Rd_pick.calls k g ag ar 6 bx bz w0 _ ?s1 ?s2 A3.out).mono ?_); (case s1 => exact ti126_ HI0.out); (case s2 => exact tu126_ HB.out); rintro e w7 ⟨rfl, hi, hb, hk⟩; refine ⟨_, rfl, ?_⟩; replace ae := kb_ ae hk ao; replace aQ := Aside0.mk (Kd.R_mono (Kd.R_keep (IsS126.apart (ti126_ HI0.out : IsS126 w0 _ g ag ar) (rR_ aQ.out) (by decide)) hk (fun _ h => h.2)) (fun _ h => h.1)); replace HK := kt_ HK hk; replace HB := Aside0.mk (hb); replace HI0 := Aside0.mk (hi); (try clear hb); (try clear hb2); (try clear hk); (try clear hi)))
 go_loopg [5, 6] k (fun kq v5 v6 w' => ∃ (aa : List (S30)) (au : Int) (ak : Int), v6 = .int .i64 au ∧ Aside0 (spec_l20Deeds.l0 kq aa au ag ak ai a1_1 aj = some (r1, r2)) ∧ Aside0 (kq ≤ k) ∧ Aside0 (Kd.R k30 30 w' w.heap.size (fun _ => True) v5 aa) ∧ Aside0 (w'.heap[bB]? = some (.cells #[(.slice aH ai.length aK), .int .i64 a1_1, (.slice aI aj.length aM)] 25 (0, 0))) ∧ Aside0 (IsS126 w0 w' g ag ak) ∧ Aside0 (KeepBut w w' g none) ∧ Aside0 (Below w0.heap.size w0 w'))
 case atStart => exact ⟨(bw), (bx), (bz), tx_, H', ⟨Nat.le_refl _⟩, ⟨rR_ aQ.out⟩, ⟨tk_ ae.out⟩, ⟨ti126_ HI0.out⟩, ⟨(tc_ HK.out)⟩, ⟨tu126_ HB.out⟩⟩
 case round =>
  clear H'
  try clear c1
  try clear p2
  obtain ⟨aa, au, ak, rfl, HA, HK1, av, ae, HI0, HK, HB⟩ := hrel
  cases gk with
  | zero => exact absurd HA.out (by simp [spec_l20Deeds.l0])
  | succ k1 =>
   have H := HA.out
   clear HA
   simp only [spec_l20Deeds.l0] at H
   by_cases c8 : au > 0
   ·
    rw [if_pos c8] at H
    have bC : decide (0 < au) = true := decide_eq_true c8
    clear c8
    obtain ⟨⟨aR, aU, aV, bg⟩, A9, H⟩ := bnd_ H
    try dsimp only at H
    by_cases c10 : aa.length < 5864062014805
    ·
     rw [if_pos c10] at H
     have bD := Aside0.mk c10
     clear c10
     obtain ⟨bE, aW⟩ : ∃ y_ : List (S30), y_ = (aa ++ [(⟨aR, aU, aV⟩ : S30)]) := ⟨_, rfl⟩
     replace H : (spec_l20Deeds.l0 k1 bE (wrap64 (au - 1)) ag bg ai a1_1 aj) = some (r1, r2) := yq_ aW H
     have bF := Aside0.mk aW
     clear aW
     have H' := Aside0.mk H
     clear H
     have bV := ao.out
     have bW := aZ.out
     have bM := cz_ ae 0
     have bN := cz_ ae 1
     have bO := cz_ ae 2
     have bP := blk_frozen ae.out 0
     have bQ := blk_frozen ae.out 1
     have bR := blk_frozen ae.out 2
     go_wp2_with (first | ((with_reducible refine gate_callee (f := 66) rfl ?_); refine gl_ (some 17) Tryd.func66 #[.pointer (some ⟨g, 0, none⟩), .agg #[.slice aH ai.length aK, .int .i64 a1_1, .slice aI aj.length aM]] ?_; (with_reducible refine (spec_l20Deed.calls k1 g ag ak _ _ ai a1_1 _ _ aj aR aU aV bg w0 _ ?s1 ?s2 ?s3 ?s4 ?s5 ?s6 ?s7 ?s8 A9.out).mono ?_); (case s1 => exact ti126_ HI0.out); (case s2 => exact tu126_ HB.out); (case s3 => exact Kd.C_keep 0 br.out (tc_ HK.out) hf1_0); (case s4 => exact bs.out); (case s5 => exact hf1_0); (case s6 => exact Kd.C_keep 0 bu.out (tc_ HK.out) hf1_2); (case s7 => exact bv.out); (case s8 => exact hf1_2); rintro e b3 ⟨rfl, hi, hb, hk⟩; refine ⟨_, rfl, ?_⟩; replace av := Aside0.mk (Kd.R_mono (Kd.R_keep (IsS126.apart (ti126_ HI0.out : IsS126 w0 _ g ag ak) (rR_ av.out) (by decide)) hk (fun _ h => h.2)) (fun _ h => h.1)); replace ae := kb_ ae hk ao; replace HK := kt_ HK hk; replace HB := Aside0.mk (hb); replace HI0 := Aside0.mk (hi); (try clear hb); (try clear hb2); (try clear hk); (try clear hi)) | ((with_reducible refine gate_builtin (b := .append) (xs := #[.tmp 14, .tmp 18]) rfl ?_); at_builtin; refine Kd.R_append k30 w.heap.size rfl (.tmp 14) (.tmp 18) 44 30 (.agg #[(.int .i64 0), (.int .i64 0), (.int .i64 0)]) 24 rfl Tryd.underlying44 info30 rfl (by decide) (by omega) u5 aa (⟨aR, aU, aV⟩ : S30) [.int .i64 aR, .int .i64 aU, .int .i64 aV] (fun _ => True) (fun _ => False) rfl rfl ?aP (fun _ hk => hk.elim) ?aF ?aO (Below.refl _ _) ?aS ?aL ?_; (case aP => exact k30_mkM _ _ _ (⟨aR, aU, aV⟩ : S30)); (case aF => exact (fun _ _ => trivial)); (case aO => exact (rR_ av.out)); (case aS => exact (keep_size (w := w) (g := g) (row := none) (tc_ HK.out))); (case aL => have := bD.out; omega); intro b0 b4 ho hb hg hat; rw [← bF.out] at ho; replace ae := bg_ ae hg (Kd.R_ne av.out ae.out (by decide)); replace HI0 := Aside0.mk (IsS126.grown (ti126_ HI0.out) hg (IsS126.own_ne HI0.out av.out (by decide))); replace HB := Aside0.mk (below_weaken (tu126_ HB.out) HL.out hb); replace HK := Aside0.mk (KeepBut.trans (tc_ HK.out) (KeepBut.of_grown hg g) (Kd.R_base2 av.out)); have bG := Aside0.mk (ho); clear av ho hb hg hat))
     go_roundg k1
     case measure => have := HK1.out; omega
     case rel => exact ⟨(bE), (wrap64 (au - 1)), (bg), tx_, H', ⟨by have := HK1.out; omega⟩, ⟨rR_ bG.out⟩, ⟨tk_ ae.out⟩, ⟨ti126_ HI0.out⟩, ⟨(tc_ HK.out)⟩, ⟨tu126_ HB.out⟩⟩
    ·
     rw [if_neg c10] at H
     exact absurd H (by simp)
   ·
    rw [if_neg c8] at H
    have bC : decide (0 < au) = false := decide_eq_false c8
    clear c8
    simp only [Option.some.injEq, Prod.mk.injEq] at H
    obtain ⟨rfl, rfl⟩ := H
    go_wp2
    go_ret
    exact ⟨_, tw_, by refine qR_ ?_; exact av.out, ti126_ HI0.out, tu126_ HB.out, (tc_ HK.out)⟩

/-! ### spec_UrnOk: function 131 -/
def spec_UrnOk.l0 : Nat → List Int → Int → Option (Bool)
 | 0, _, _ => none
 | k + 1, x0, x3 => if x3 < (x0.length : Int) then (if 0 ≤ x3 then ((spec_l1In.f (rd x0 x3) 0 40).bind fun bh => (if bh = true then (spec_UrnOk.l0 k x0 (wrap64 (x3 + 1))) else (some false))) else (none)) else ((spec_l1In.f (x0.length : Int) 1 3).bind fun bi => (some bi))
def spec_UrnOk.f (k : Nat) (l0 : List Int) : Option (Bool) := spec_UrnOk.l0 k l0 0
theorem spec_UrnOk.mono_l : ∀ k, (∀ y0 y1, LeO (spec_UrnOk.l0 k y0 y1) (spec_UrnOk.l0 (k + 1) y0 y1))
 | 0 => fun _ _ r h => by simp [spec_UrnOk.l0] at h
 | k + 1 => by
  have ih0 := spec_UrnOk.mono_l k
  ·
   intro y0 y1
   unfold spec_UrnOk.l0
   repeat' (with_reducible first | exact ih0 _ _ | exact mr_ | exact mn_ | refine mi_ ?_ ?_ | refine mb_ ?_ (fun _ => ?_))
theorem spec_UrnOk.mono : ∀ a0 k, LeO (spec_UrnOk.f k a0) (spec_UrnOk.f (k + 1) a0) := by
 intro a0 k
 have ih0 := spec_UrnOk.mono_l k
 unfold spec_UrnOk.f
 repeat' (with_reducible first | exact ih0 _ _ | exact mr_ | exact mn_ | refine mi_ ?_ ?_ | refine mb_ ?_ (fun _ => ?_))
set_option maxHeartbeats 8000000 in
set_option maxRecDepth 100000 in
theorem spec_UrnOk.calls (k : Nat) (A0 : Option Addr) (c0 : Nat) (l0 : List Int) (r : Bool) (w : World) (hr0 : Kd.C (Kd.int .i64) w A0 l0.length l0) (hc0 : l0.length ≤ c0) (h : spec_UrnOk.f k l0 = some r) :
  Calls Tryd.prog 131 #[.slice A0 l0.length c0] w fun e w' => e = .returned (.bool r) ∧ Drawn0 w w' := by
 have HR0 := Aside0.mk hr0
 have HC0 := Aside0.mk hc0
 clear hr0 hc0
 have H : (spec_UrnOk.l0 k l0 0) = some r := h
 clear h
 have H' := Aside0.mk H
 clear H
 go_enter Tryd.func131, Tryd.ntmps131
 go_wp2
 go_loopg [3] k (fun kq v3 w' => ∃ (ac : Int), v3 = .int .i64 ac ∧ Aside0 (spec_UrnOk.l0 kq l0 ac = some r) ∧ Aside0 (kq ≤ k) ∧ Drawn0 w w')
 case atStart => exact ⟨(0), tx_, H', ⟨Nat.le_refl _⟩, by repeat (first | exact Drawn0.refl _ | apply Drawn0.step)⟩
 case round =>
  clear H'
  try clear c1
  obtain ⟨ac, rfl, HA, HK1, ⟨m1, rfl⟩⟩ := hrel
  cases gk with
  | zero => exact absurd HA.out (by simp [spec_UrnOk.l0])
  | succ k1 =>
   have H := HA.out
   clear HA
   simp only [spec_UrnOk.l0] at H
   by_cases c2 : ac < (l0.length : Int)
   ·
    rw [if_pos c2] at H
    have bj : decide (ac < (l0.length : Int)) = true := decide_eq_true c2
    clear c2
    by_cases c3 : 0 ≤ ac
    ·
     rw [if_pos c3] at H
     have aJ : decide (0 ≤ ac) = true := decide_eq_true c3
     clear c3
     obtain ⟨bh, A4, H⟩ := bnd_ H
     try dsimp only at H
     by_cases c5 : bh = true
     ·
      subst c5
      have H1 : (spec_UrnOk.l0 k1 l0 (wrap64 (ac + 1))) = some r := by rw [if_pos rfl] at H; exact H
      clear H
      have H := H1
      clear H1
      have H' := Aside0.mk H
      clear H
      have p217 : 0 ≤ (ac : Int) := od_
      have q217 : ac < (l0.length : Int) := od_
      obtain ⟨ad217, e217, a5⟩ := Kd.at_int HR0.out ac p217 q217
      cases e217
      replace p217 := eq_true p217
      replace q217 := eq_true q217
      go_wp2_with (first | ((with_reducible refine gate_callee (f := 99) rfl ?_); refine gl_ (some 14) Tryd.func99 #[.int .i64 (rd l0 ac), .int .i64 0, .int .i64 40] ?_; (with_reducible refine (spec_l1In.calls (rd l0 ac) 0 40 true _ A4.out).mono ?_); rintro e w' ⟨rfl, ⟨nd, rfl⟩⟩; refine ⟨_, rfl, ?_⟩))
      go_roundg k1
      case measure => have := HK1.out; omega
      case rel => exact ⟨(wrap64 (ac + 1)), tx_, H', ⟨by have := HK1.out; omega⟩, by repeat (first | exact Drawn0.refl _ | apply Drawn0.step)⟩
     ·
      replace c5 := Bool.eq_false_iff.mpr c5
      subst c5
      have H1 : (some false) = some r := by rw [if_neg (show ¬ (false = true) by decide)] at H; exact H
      clear H
      have H := H1
      clear H1
      obtain rfl := Option.some.inj H
      have p217 : 0 ≤ (ac : Int) := od_
      have q217 : ac < (l0.length : Int) := od_
      obtain ⟨ad217, e217, a5⟩ := Kd.at_int HR0.out ac p217 q217
      cases e217
      replace p217 := eq_true p217
      replace q217 := eq_true q217
      go_wp2_with (first | ((with_reducible refine gate_callee (f := 99) rfl ?_); refine gl_ (some 14) Tryd.func99 #[.int .i64 (rd l0 ac), .int .i64 0, .int .i64 40] ?_; (with_reducible refine (spec_l1In.calls (rd l0 ac) 0 40 false _ A4.out).mono ?_); rintro e w' ⟨rfl, ⟨nd, rfl⟩⟩; refine ⟨_, rfl, ?_⟩))
      go_ret
      exact ⟨tx_, by repeat (first | exact Drawn0.refl _ | apply Drawn0.step)⟩
    ·
     rw [if_neg c3] at H
     exact absurd H (by simp)
   ·
    rw [if_neg c2] at H
    have bj : decide (ac < (l0.length : Int)) = false := decide_eq_false c2
    clear c2
    obtain ⟨bi, A6, H⟩ := bnd_ H
    try dsimp only at H
    obtain rfl := Option.some.inj H
    go_wp2_with (first | ((with_reducible refine gate_callee (f := 99) rfl ?_); refine gl_ (some 18) Tryd.func99 #[.int .i64 (l0.length : Int), .int .i64 1, .int .i64 3] ?_; (with_reducible refine (spec_l1In.calls (l0.length : Int) 1 3 bi _ A6.out).mono ?_); rintro e w' ⟨rfl, ⟨nd, rfl⟩⟩; refine ⟨_, rfl, ?_⟩))
    go_ret
    exact ⟨tx_, by repeat (first | exact Drawn0.refl _ | apply Drawn0.step)⟩

/-! ### spec_StartOk: function 116 -/
def spec_StartOk.l0 : Nat → List Int → Int → Option (Bool)
 | 0, _, _ => none
 | k + 1, x0, x3 => if x3 < (x0.length : Int) then (if 0 ≤ x3 then (if (rd x0 x3) > 10 then (some false) else (spec_StartOk.l0 k x0 (wrap64 (x3 + 1)))) else (none)) else ((spec_UrnOk.f k x0).bind fun bk => (some bk))
def spec_StartOk.f (k : Nat) (l0 : List Int) : Option (Bool) := spec_StartOk.l0 k l0 0
theorem spec_StartOk.mono_l : ∀ k, (∀ y0 y1, LeO (spec_StartOk.l0 k y0 y1) (spec_StartOk.l0 (k + 1) y0 y1))
 | 0 => fun _ _ r h => by simp [spec_StartOk.l0] at h
 | k + 1 => by
  have ih0 := spec_StartOk.mono_l k
  ·
   intro y0 y1
   unfold spec_StartOk.l0
   repeat' (with_reducible first | exact ih0 _ _ | exact spec_UrnOk.mono _ _ | exact mr_ | exact mn_ | refine mi_ ?_ ?_ | refine mb_ ?_ (fun _ => ?_))
theorem spec_StartOk.mono : ∀ a0 k, LeO (spec_StartOk.f k a0) (spec_StartOk.f (k + 1) a0) := by
 intro a0 k
 have ih0 := spec_StartOk.mono_l k
 unfold spec_StartOk.f
 repeat' (with_reducible first | exact ih0 _ _ | exact spec_UrnOk.mono _ _ | exact mr_ | exact mn_ | refine mi_ ?_ ?_ | refine mb_ ?_ (fun _ => ?_))
set_option maxHeartbeats 8000000 in
set_option maxRecDepth 100000 in
theorem spec_StartOk.calls (k : Nat) (A0 : Option Addr) (c0 : Nat) (l0 : List Int) (r : Bool) (w : World) (hr0 : Kd.C (Kd.int .i64) w A0 l0.length l0) (hc0 : l0.length ≤ c0) (h : spec_StartOk.f k l0 = some r) :
  Calls Tryd.prog 116 #[.slice A0 l0.length c0] w fun e w' => e = .returned (.bool r) ∧ Drawn0 w w' := by
 have HR0 := Aside0.mk hr0
 have HC0 := Aside0.mk hc0
 clear hr0 hc0
 have H : (spec_StartOk.l0 k l0 0) = some r := h
 clear h
 have H' := Aside0.mk H
 clear H
 go_enter Tryd.func116, Tryd.ntmps116
 go_wp2
 go_loopg [3] k (fun kq v3 w' => ∃ (ac : Int), v3 = .int .i64 ac ∧ Aside0 (spec_StartOk.l0 kq l0 ac = some r) ∧ Aside0 (kq ≤ k) ∧ Drawn0 w w')
 case atStart => exact ⟨(0), tx_, H', ⟨Nat.le_refl _⟩, by repeat (first | exact Drawn0.refl _ | apply Drawn0.step)⟩
 case round =>
  clear H'
  try clear c1
  obtain ⟨ac, rfl, HA, HK1, ⟨m1, rfl⟩⟩ := hrel
  cases gk with
  | zero => exact absurd HA.out (by simp [spec_StartOk.l0])
  | succ k1 =>
   have H := HA.out
   clear HA
   simp only [spec_StartOk.l0] at H
   by_cases c2 : ac < (l0.length : Int)
   ·
    rw [if_pos c2] at H
    have bj : decide (ac < (l0.length : Int)) = true := decide_eq_true c2
    clear c2
    by_cases c3 : 0 ≤ ac
    ·
     rw [if_pos c3] at H
     have aJ : decide (0 ≤ ac) = true := decide_eq_true c3
     clear c3
     by_cases c4 : (rd l0 ac) > 10
     ·
      rw [if_pos c4] at H
      have a6 : decide (10 < (rd l0 ac)) = true := decide_eq_true c4
      clear c4
      obtain rfl := Option.some.inj H
      have p220 : 0 ≤ (ac : Int) := od_
      have q220 : ac < (l0.length : Int) := od_
      obtain ⟨ad220, e220, a7⟩ := Kd.at_int HR0.out ac p220 q220
      cases e220
      replace p220 := eq_true p220
      replace q220 := eq_true q220
      go_wp2
      go_ret
      exact ⟨tx_, by repeat (first | exact Drawn0.refl _ | apply Drawn0.step)⟩
     ·
      rw [if_neg c4] at H
      have a6 : decide (10 < (rd l0 ac)) = false := decide_eq_false c4
      clear c4
      have H' := Aside0.mk H
      clear H
      have p220 : 0 ≤ (ac : Int) := od_
      have q220 : ac < (l0.length : Int) := od_
      obtain ⟨ad220, e220, a7⟩ := Kd.at_int HR0.out ac p220 q220
      cases e220
      replace p220 := eq_true p220
      replace q220 := eq_true q220
      go_wp2
      go_roundg k1
      case measure => have := HK1.out; omega
      case rel => exact ⟨(wrap64 (ac + 1)), tx_, H', ⟨by have := HK1.out; omega⟩, by repeat (first | exact Drawn0.refl _ | apply Drawn0.step)⟩
    ·
     rw [if_neg c3] at H
     exact absurd H (by simp)
   ·
    rw [if_neg c2] at H
    have bj : decide (ac < (l0.length : Int)) = false := decide_eq_false c2
    clear c2
    obtain ⟨bk, A5, H⟩ := bnd_ H
    try dsimp only at H
    obtain rfl := Option.some.inj H
    go_wp2_with (first | ((with_reducible refine gate_callee (f := 131) rfl ?_); refine gl_ (some 16) Tryd.func131 #[.slice A0 l0.length c0] ?_; (with_reducible refine (spec_UrnOk.calls k1 _ _ l0 bk _ ?s1 ?s2 A5.out).mono ?_); (case s1 => exact td_); (case s2 => exact HC0.out); rintro e w' ⟨rfl, ⟨nd, rfl⟩⟩; refine ⟨_, rfl, ?_⟩))
    go_ret
    exact ⟨tx_, by repeat (first | exact Drawn0.refl _ | apply Drawn0.step)⟩

/-! ### spec_RuleOk: function 132 -/
mutual
def spec_RuleOk.l0 : Nat → Int → List (List Int) → Int → Option (Bool)
 | 0, _, _, _ => none
 | k + 1, x0, x1, x5 => if x5 < (x1.length : Int) then (if 0 ≤ x5 then (if ((rd_L4 x1 x5).length : Int) = x0 then (spec_RuleOk.l1 k x0 x1 x5 0) else (some false)) else (none)) else ((spec_l1In.f x0 1 3).bind fun bl => (if bl = true then (some ((x1.length : Int) == x0)) else (some false)))
def spec_RuleOk.l1 : Nat → Int → List (List Int) → Int → Int → Option (Bool)
 | 0, _, _, _, _ => none
 | k + 1, x0, x1, x5, x6 => if x6 < x0 then (if 0 ≤ x5 then (if x5 < (x1.length : Int) then (if 0 ≤ x6 then (if x6 < ((rd_L4 x1 x5).length : Int) then ((spec_l1In.f (rd (rd_L4 x1 x5) x6) 0 3).bind fun bm => (if bm = true then (spec_RuleOk.l1 k x0 x1 x5 (wrap64 (x6 + 1))) else (if (rd (rd_L4 x1 x5) x6) = (-1) then (if x6 = x5 then (spec_RuleOk.l1 k x0 x1 x5 (wrap64 (x6 + 1))) else (some false)) else (some false)))) else (none)) else (none)) else (none)) else (none)) else (spec_RuleOk.l0 k x0 x1 (wrap64 (x5 + 1)))
end
def spec_RuleOk.f (k : Nat) (a0 : Int) (l1 : List (List Int)) : Option (Bool) := spec_RuleOk.l0 k a0 l1 0
theorem spec_RuleOk.mono_l : ∀ k, (∀ y0 y1 y2, LeO (spec_RuleOk.l0 k y0 y1 y2) (spec_RuleOk.l0 (k + 1) y0 y1 y2)) ∧ (∀ y0 y1 y2 y3, LeO (spec_RuleOk.l1 k y0 y1 y2 y3) (spec_RuleOk.l1 (k + 1) y0 y1 y2 y3))
 | 0 => ⟨fun _ _ _ r h => by simp [spec_RuleOk.l0] at h, fun _ _ _ _ r h => by simp [spec_RuleOk.l1] at h⟩
 | k + 1 => by
  obtain ⟨ih0, ih1⟩ := spec_RuleOk.mono_l k
  refine ⟨?_, ?_⟩
  ·
   intro y0 y1 y2
   unfold spec_RuleOk.l0
   repeat' (with_reducible first | exact ih0 _ _ _ | exact ih1 _ _ _ _ | exact mr_ | exact mn_ | refine mi_ ?_ ?_ | refine mb_ ?_ (fun _ => ?_))
  ·
   intro y0 y1 y2 y3
   unfold spec_RuleOk.l1
   repeat' (with_reducible first | exact ih0 _ _ _ | exact ih1 _ _ _ _ | exact mr_ | exact mn_ | refine mi_ ?_ ?_ | refine mb_ ?_ (fun _ => ?_))
theorem spec_RuleOk.mono : ∀ a0 a1 k, LeO (spec_RuleOk.f k a0 a1) (spec_RuleOk.f (k + 1) a0 a1) := by
 intro a0 a1 k
 obtain ⟨ih0, ih1⟩ := spec_RuleOk.mono_l k
 unfold spec_RuleOk.f
 repeat' (with_reducible first | exact ih0 _ _ _ | exact ih1 _ _ _ _ | exact mr_ | exact mn_ | refine mi_ ?_ ?_ | refine mb_ ?_ (fun _ => ?_))
set_option maxHeartbeats 8000000 in
set_option maxRecDepth 100000 in
theorem spec_RuleOk.calls (k : Nat) (a0 : Int) (A1 : Option Addr) (c1 : Nat) (l1 : List (List Int)) (r : Bool) (w : World) (hr1 : Kd.C (Kd.slice 3 (Kd.int .i64)) w A1 l1.length l1) (hc1 : l1.length ≤ c1) (h : spec_RuleOk.f k a0 l1 = some r) :
  Calls Tryd.prog 132 #[.int .i64 a0, .slice A1 l1.length c1] w fun e w' => e = .returned (.bool r) ∧ Drawn0 w w' := by
 have HR1 := Aside0.mk hr1
 have HC1 := Aside0.mk hc1
 clear hr1 hc1
 have H : (spec_RuleOk.l0 k a0 l1 0) = some r := h
 clear h
 have H' := Aside0.mk H
 clear H
 go_enter Tryd.func132, Tryd.ntmps132
 go_wp2
 go_loopg [5] k (fun kq v5 w' => ∃ (aa : Int), v5 = .int .i64 aa ∧ Aside0 (spec_RuleOk.l0 kq a0 l1 aa = some r) ∧ Aside0 (kq ≤ k) ∧ Drawn0 w w')
 case atStart => exact ⟨(0), tx_, H', ⟨Nat.le_refl _⟩, by repeat (first | exact Drawn0.refl _ | apply Drawn0.step)⟩
 case round =>
  clear H'
  try clear c1
  try clear p2
  obtain ⟨aa, rfl, HA, HK1, ⟨m1, rfl⟩⟩ := hrel
  cases gk with
  | zero => exact absurd HA.out (by simp [spec_RuleOk.l0])
  | succ k1 =>
   have H := HA.out
   clear HA
   simp only [spec_RuleOk.l0] at H
   by_cases c3 : aa < (l1.length : Int)
   ·
    rw [if_pos c3] at H
    have aJ : decide (aa < (l1.length : Int)) = true := decide_eq_true c3
    clear c3
    by_cases c4 : 0 ≤ aa
    ·
     rw [if_pos c4] at H
     have a6 : decide (0 ≤ aa) = true := decide_eq_true c4
     clear c4
     by_cases c5 : ((rd_L4 l1 aa).length : Int) = a0
     ·
      rw [if_pos c5] at H
      have a8 : (((rd_L4 l1 aa).length : Int) == a0) = true := beq_iff_eq.mpr c5
      have bH : (((rd_L4 l1 aa).length : Int) != a0) = false := bne_eq_false_iff_eq.mpr c5
      clear c5
      have H' := Aside0.mk H
      clear H
      have p223 : 0 ≤ (aa : Int) := od_
      have q223 : aa < (l1.length : Int) := od_
      obtain ⟨ad223, bn, bo, e223, aC, hl223_0, hi223_0⟩ := at_L4 HR1.out aa p223 q223
      cases e223
      have a9 := Aside0.mk hi223_0
      have bb := Aside0.mk hl223_0
      clear hi223_0 hl223_0
      replace p223 := eq_true p223
      replace q223 := eq_true q223
      go_wp2
      go_loopg [6] k1 (fun kq v6 w' => ∃ (ab : Int), v6 = .int .i64 ab ∧ Aside0 (spec_RuleOk.l1 kq a0 l1 aa ab = some r) ∧ Aside0 (kq ≤ k1) ∧ Drawn0 w w')
      case atStart => exact ⟨(0), tx_, H', ⟨Nat.le_refl _⟩, by repeat (first | exact Drawn0.refl _ | apply Drawn0.step)⟩
      case round =>
       clear H'
       try clear c1
       try clear c2
       try clear p2
       try clear q2
       try clear hx2
       try clear c3
       try clear aJ
       try clear c4
       try clear a6
       try clear c5
       try clear a8
       try clear bH
       try clear aC
       try clear p2
       try clear p223
       try clear q223
       obtain ⟨ab, rfl, HA, HK2, ⟨m2, rfl⟩⟩ := hrel
       cases gk with
       | zero => exact absurd HA.out (by simp [spec_RuleOk.l1])
       | succ k2 =>
        have H := HA.out
        clear HA
        simp only [spec_RuleOk.l1] at H
        by_cases c6 : ab < a0
        ·
         rw [if_pos c6] at H
         have bp : decide (ab < a0) = true := decide_eq_true c6
         clear c6
         by_cases c7 : 0 ≤ aa
         ·
          rw [if_pos c7] at H
          have b1 : decide (0 ≤ aa) = true := decide_eq_true c7
          clear c7
          by_cases c8 : aa < (l1.length : Int)
          ·
           rw [if_pos c8] at H
           have bC : decide (aa < (l1.length : Int)) = true := decide_eq_true c8
           clear c8
           by_cases c9 : 0 ≤ ab
           ·
            rw [if_pos c9] at H
            have b2 : decide (0 ≤ ab) = true := decide_eq_true c9
            clear c9
            by_cases c10 : ab < ((rd_L4 l1 aa).length : Int)
            ·
             rw [if_pos c10] at H
             have bX : decide (ab < ((rd_L4 l1 aa).length : Int)) = true := decide_eq_true c10
             clear c10
             obtain ⟨bm, A11, H⟩ := bnd_ H
             try dsimp only at H
             by_cases c12 : bm = true
             ·
              subst c12
              have H1 : (spec_RuleOk.l1 k2 a0 l1 aa (wrap64 (ab + 1))) = some r := by rw [if_pos rfl] at H; exact H
              clear H
              have H := H1
              clear H1
              have H' := Aside0.mk H
              clear H
              have p224 : 0 ≤ (aa : Int) := od_
              have q224 : aa < (l1.length : Int) := od_
              obtain ⟨ad224, aw, ax, e224, ah, hl224_0, hi224_0⟩ := at_L4 HR1.out aa p224 q224
              obtain rfl : ad223 = ad224 := (by injection e224)
              have af := Aside0.mk hi224_0
              have ap := Aside0.mk hl224_0
              clear hi224_0 hl224_0
              replace p224 := eq_true p224
              replace q224 := eq_true q224
              have p225 : 0 ≤ (ab : Int) := od_
              have q225 : ab < ((rd_L4 l1 aa).length : Int) := od_
              obtain ⟨ad225, e225, aq⟩ := Kd.at_int af.out ab p225 q225
              cases e225
              replace p225 := eq_true p225
              replace q225 := eq_true q225
              go_wp2_with (first | ((with_reducible refine gate_callee (f := 99) rfl ?_); refine gl_ (some 32) Tryd.func99 #[.int .i64 (rd (rd_L4 l1 aa) ab), .int .i64 0, .int .i64 3] ?_; (with_reducible refine (spec_l1In.calls (rd (rd_L4 l1 aa) ab) 0 3 true _ A11.out).mono ?_); rintro e w' ⟨rfl, ⟨nd, rfl⟩⟩; refine ⟨_, rfl, ?_⟩))
              go_roundg k2
              case measure => have := HK1.out; have := HK2.out; omega
              case rel => exact ⟨(wrap64 (ab + 1)), tx_, H', ⟨by have := HK1.out; have := HK2.out; omega⟩, by repeat (first | exact Drawn0.refl _ | apply Drawn0.step)⟩
             ·
              replace c12 := Bool.eq_false_iff.mpr c12
              subst c12
              have H1 : (if (rd (rd_L4 l1 aa) ab) = (-1) then (if ab = aa then (spec_RuleOk.l1 k2 a0 l1 aa (wrap64 (ab + 1))) else (some false)) else (some false)) = some r := by rw [if_neg (show ¬ (false = true) by decide)] at H; exact H
              clear H
              have H := H1
              clear H1
              by_cases c13 : (rd (rd_L4 l1 aa) ab) = (-1)
              ·
               rw [if_pos c13] at H
               have bI : ((rd (rd_L4 l1 aa) ab) == (-1)) = true := beq_iff_eq.mpr c13
               have bJ : ((rd (rd_L4 l1 aa) ab) != (-1)) = false := bne_eq_false_iff_eq.mpr c13
               clear c13
               by_cases c14 : ab = aa
               ·
                rw [if_pos c14] at H
                have bK : (ab == aa) = true := beq_iff_eq.mpr c14
                have bL : (ab != aa) = false := bne_eq_false_iff_eq.mpr c14
                clear c14
                have H' := Aside0.mk H
                clear H
                have p224 : 0 ≤ (aa : Int) := od_
                have q224 : aa < (l1.length : Int) := od_
                obtain ⟨ad224, aw, ax, e224, ah, hl224_0, hi224_0⟩ := at_L4 HR1.out aa p224 q224
                obtain rfl : ad223 = ad224 := (by injection e224)
                have af := Aside0.mk hi224_0
                have ap := Aside0.mk hl224_0
                clear hi224_0 hl224_0
                replace p224 := eq_true p224
                replace q224 := eq_true q224
                have p225 : 0 ≤ (ab : Int) := od_
                have q225 : ab < ((rd_L4 l1 aa).length : Int) := od_
                obtain ⟨ad225, e225, aq⟩ := Kd.at_int af.out ab p225 q225
                cases e225
                replace p225 := eq_true p225
                replace q225 := eq_true q225
                go_wp2_with (first | ((with_reducible refine gate_callee (f := 99) rfl ?_); refine gl_ (some 32) Tryd.func99 #[.int .i64 (rd (rd_L4 l1 aa) ab), .int .i64 0, .int .i64 3] ?_; (with_reducible refine (spec_l1In.calls (rd (rd_L4 l1 aa) ab) 0 3 false _ A11.out).mono ?_); rintro e w' ⟨rfl, ⟨nd, rfl⟩⟩; refine ⟨_, rfl, ?_⟩; have p227 : 0 ≤ (aa : Int) := od_; have q227 : aa < (l1.length : Int) := od_; obtain ⟨ad227, aX, aY, e227, al, hl227_0, hi227_0⟩ := at_L4 HR1.out aa p227 q227; obtain rfl : ad223 = ad227 := (by injection e227); have am := Aside0.mk hi227_0; have aD := Aside0.mk hl227_0; clear hi227_0 hl227_0; replace p227 := eq_true p227; replace q227 := eq_true q227; have ea_ := Option.some.inj (ah.symm.trans al); injection ea_ with ea_ en_ ec_; subst ea_; subst ec_; clear en_; have p228 : 0 ≤ (ab : Int) := od_; have q228 : ab < ((rd_L4 l1 aa).length : Int) := od_; obtain ⟨ad228, e228, aE⟩ := Kd.at_int am.out ab p228 q228; cases e228; replace p228 := eq_true p228; replace q228 := eq_true q228))
                go_roundg k2
                case measure => have := HK1.out; have := HK2.out; omega
                case rel => exact ⟨(wrap64 (ab + 1)), tx_, H', ⟨by have := HK1.out; have := HK2.out; omega⟩, by repeat (first | exact Drawn0.refl _ | apply Drawn0.step)⟩
               ·
                rw [if_neg c14] at H
                have bK : (ab == aa) = false := beq_eq_false_iff_ne.mpr c14
                have bL : (ab != aa) = true := bne_iff_ne.mpr c14
                obtain rfl := Option.some.inj H
                have p224 : 0 ≤ (aa : Int) := od_
                have q224 : aa < (l1.length : Int) := od_
                obtain ⟨ad224, aw, ax, e224, ah, hl224_0, hi224_0⟩ := at_L4 HR1.out aa p224 q224
                obtain rfl : ad223 = ad224 := (by injection e224)
                have af := Aside0.mk hi224_0
                have ap := Aside0.mk hl224_0
                clear hi224_0 hl224_0
                replace p224 := eq_true p224
                replace q224 := eq_true q224
                have p225 : 0 ≤ (ab : Int) := od_
                have q225 : ab < ((rd_L4 l1 aa).length : Int) := od_
                obtain ⟨ad225, e225, aq⟩ := Kd.at_int af.out ab p225 q225
                cases e225
                replace p225 := eq_true p225
                replace q225 := eq_true q225
                go_wp2_with (first | ((with_reducible refine gate_callee (f := 99) rfl ?_); refine gl_ (some 32) Tryd.func99 #[.int .i64 (rd (rd_L4 l1 aa) ab), .int .i64 0, .int .i64 3] ?_; (with_reducible refine (spec_l1In.calls (rd (rd_L4 l1 aa) ab) 0 3 false _ A11.out).mono ?_); rintro e w' ⟨rfl, ⟨nd, rfl⟩⟩; refine ⟨_, rfl, ?_⟩; have p227 : 0 ≤ (aa : Int) := od_; have q227 : aa < (l1.length : Int) := od_; obtain ⟨ad227, aX, aY, e227, al, hl227_0, hi227_0⟩ := at_L4 HR1.out aa p227 q227; obtain rfl : ad223 = ad227 := (by injection e227); have am := Aside0.mk hi227_0; have aD := Aside0.mk hl227_0; clear hi227_0 hl227_0; replace p227 := eq_true p227; replace q227 := eq_true q227; have ea_ := Option.some.inj (ah.symm.trans al); injection ea_ with ea_ en_ ec_; subst ea_; subst ec_; clear en_; have p228 : 0 ≤ (ab : Int) := od_; have q228 : ab < ((rd_L4 l1 aa).length : Int) := od_; obtain ⟨ad228, e228, aE⟩ := Kd.at_int am.out ab p228 q228; cases e228; replace p228 := eq_true p228; replace q228 := eq_true q228))
                go_ret
                exact ⟨tx_, by repeat (first | exact Drawn0.refl _ | apply Drawn0.step)⟩
              ·
               rw [if_neg c13] at H
               have bI : ((rd (rd_L4 l1 aa) ab) == (-1)) = false := beq_eq_false_iff_ne.mpr c13
               have bJ : ((rd (rd_L4 l1 aa) ab) != (-1)) = true := bne_iff_ne.mpr c13
               obtain rfl := Option.some.inj H
               have p224 : 0 ≤ (aa : Int) := od_
               have q224 : aa < (l1.length : Int) := od_
               obtain ⟨ad224, aw, ax, e224, ah, hl224_0, hi224_0⟩ := at_L4 HR1.out aa p224 q224
               obtain rfl : ad223 = ad224 := (by injection e224)
               have af := Aside0.mk hi224_0
               have ap := Aside0.mk hl224_0
               clear hi224_0 hl224_0
               replace p224 := eq_true p224
               replace q224 := eq_true q224
               have p225 : 0 ≤ (ab : Int) := od_
               have q225 : ab < ((rd_L4 l1 aa).length : Int) := od_
               obtain ⟨ad225, e225, aq⟩ := Kd.at_int af.out ab p225 q225
               cases e225
               replace p225 := eq_true p225
               replace q225 := eq_true q225
               go_wp2_with (first | ((with_reducible refine gate_callee (f := 99) rfl ?_); refine gl_ (some 32) Tryd.func99 #[.int .i64 (rd (rd_L4 l1 aa) ab), .int .i64 0, .int .i64 3] ?_; (with_reducible refine (spec_l1In.calls (rd (rd_L4 l1 aa) ab) 0 3 false _ A11.out).mono ?_); rintro e w' ⟨rfl, ⟨nd, rfl⟩⟩; refine ⟨_, rfl, ?_⟩; have p227 : 0 ≤ (aa : Int) := od_; have q227 : aa < (l1.length : Int) := od_; obtain ⟨ad227, aX, aY, e227, al, hl227_0, hi227_0⟩ := at_L4 HR1.out aa p227 q227; obtain rfl : ad223 = ad227 := (by injection e227); have am := Aside0.mk hi227_0; have aD := Aside0.mk hl227_0; clear hi227_0 hl227_0; replace p227 := eq_true p227; replace q227 := eq_true q227; have ea_ := Option.some.inj (ah.symm.trans al); injection ea_ with ea_ en_ ec_; subst ea_; subst ec_; clear en_; have p228 : 0 ≤ (ab : Int) := od_; have q228 : ab < ((rd_L4 l1 aa).length : Int) := od_; obtain ⟨ad228, e228, aE⟩ := Kd.at_int am.out ab p228 q228; cases e228; replace p228 := eq_true p228; replace q228 := eq_true q228))
               go_ret
               exact ⟨tx_, by repeat (first | exact Drawn0.refl _ | apply Drawn0.step)⟩
            ·
             rw [if_neg c10] at H
             exact absurd H (by simp)
           ·
            rw [if_neg c9] at H
            exact absurd H (by simp)
          ·
           rw [if_neg c8] at H
           exact absurd H (by simp)
         ·
          rw [if_neg c7] at H
          exact absurd H (by simp)
        ·
         rw [if_neg c6] at H
         have bp : decide (ab < a0) = false := decide_eq_false c6
         clear c6
         have H' := Aside0.mk H
         clear H
         go_wp2
         go_roundg k2
         case measure => have := HK1.out; have := HK2.out; omega
         case rel => exact ⟨(wrap64 (aa + 1)), tx_, H', ⟨by have := HK1.out; have := HK2.out; omega⟩, by repeat (first | exact Drawn0.refl _ | apply Drawn0.step)⟩
     ·
      rw [if_neg c5] at H
      have a8 : (((rd_L4 l1 aa).length : Int) == a0) = false := beq_eq_false_iff_ne.mpr c5
      have bH : (((rd_L4 l1 aa).length : Int) != a0) = true := bne_iff_ne.mpr c5
      obtain rfl := Option.some.inj H
      have p223 : 0 ≤ (aa : Int) := od_
      have q223 : aa < (l1.length : Int) := od_
      obtain ⟨ad223, bn, bo, e223, aC, hl223_0, hi223_0⟩ := at_L4 HR1.out aa p223 q223
      cases e223
      have a9 := Aside0.mk hi223_0
      have bb := Aside0.mk hl223_0
      clear hi223_0 hl223_0
      replace p223 := eq_true p223
      replace q223 := eq_true q223
      go_wp2
      go_ret
      exact ⟨tx_, by repeat (first | exact Drawn0.refl _ | apply Drawn0.step)⟩
    ·
     rw [if_neg c4] at H
     exact absurd H (by simp)
   ·
    rw [if_neg c3] at H
    have aJ : decide (aa < (l1.length : Int)) = false := decide_eq_false c3
    clear c3
    obtain ⟨bl, A15, H⟩ := bnd_ H
    try dsimp only at H
    by_cases c16 : bl = true
    ·
     subst c16
     have H1 : (some ((l1.length : Int) == a0)) = some r := by rw [if_pos rfl] at H; exact H
     clear H
     have H := H1
     clear H1
     obtain rfl := Option.some.inj H
     go_wp2_with (first | ((with_reducible refine gate_callee (f := 99) rfl ?_); refine gl_ (some 51) Tryd.func99 #[.int .i64 a0, .int .i64 1, .int .i64 3] ?_; (with_reducible refine (spec_l1In.calls a0 1 3 true _ A15.out).mono ?_); rintro e w' ⟨rfl, ⟨nd, rfl⟩⟩; refine ⟨_, rfl, ?_⟩))
     go_ret
     exact ⟨tx_, by repeat (first | exact Drawn0.refl _ | apply Drawn0.step)⟩
    ·
     replace c16 := Bool.eq_false_iff.mpr c16
     subst c16
     have H1 : (some false) = some r := by rw [if_neg (show ¬ (false = true) by decide)] at H; exact H
     clear H
     have H := H1
     clear H1
     obtain rfl := Option.some.inj H
     go_wp2_with (first | ((with_reducible refine gate_callee (f := 99) rfl ?_); refine gl_ (some 51) Tryd.func99 #[.int .i64 a0, .int .i64 1, .int .i64 3] ?_; (with_reducible refine (spec_l1In.calls a0 1 3 false _ A15.out).mono ?_); rintro e w' ⟨rfl, ⟨nd, rfl⟩⟩; refine ⟨_, rfl, ?_⟩))
     go_ret
     exact ⟨tx_, by repeat (first | exact Drawn0.refl _ | apply Drawn0.step)⟩

/-! ### spec_WordOk: function 133 -/
def spec_WordOk.l0 : Nat → Int → List Int → Int → Option (Bool)
 | 0, _, _, _ => none
 | k + 1, x0, x1, x5 => if x5 < (x1.length : Int) then (if 0 ≤ x5 then (if (rd x1 x5) < 0 then (some false) else (if (rd x1 x5) ≥ x0 then (some false) else (spec_WordOk.l0 k x0 x1 (wrap64 (x5 + 1))))) else (none)) else ((spec_l1In.f x0 1 3).bind fun bq => (if bq = true then (some (decide ((x1.length : Int) ≤ 6))) else (some false)))
def spec_WordOk.f (k : Nat) (a0 : Int) (l1 : List Int) : Option (Bool) := spec_WordOk.l0 k a0 l1 0
theorem spec_WordOk.mono_l : ∀ k, (∀ y0 y1 y2, LeO (spec_WordOk.l0 k y0 y1 y2) (spec_WordOk.l0 (k + 1) y0 y1 y2))
 | 0 => fun _ _ _ r h => by simp [spec_WordOk.l0] at h
 | k + 1 => by
  have ih0 := spec_WordOk.mono_l k
  ·
   intro y0 y1 y2
   unfold spec_WordOk.l0
   repeat' (with_reducible first | exact ih0 _ _ _ | exact mr_ | exact mn_ | refine mi_ ?_ ?_ | refine mb_ ?_ (fun _ => ?_))
theorem spec_WordOk.mono : ∀ a0 a1 k, LeO (spec_WordOk.f k a0 a1) (spec_WordOk.f (k + 1) a0 a1) := by
 intro a0 a1 k
 have ih0 := spec_WordOk.mono_l k
 unfold spec_WordOk.f
 repeat' (with_reducible first | exact ih0 _ _ _ | exact mr_ | exact mn_ | refine mi_ ?_ ?_ | refine mb_ ?_ (fun _ => ?_))
set_option maxHeartbeats 8000000 in
set_option maxRecDepth 100000 in
theorem spec_WordOk.calls (k : Nat) (a0 : Int) (A1 : Option Addr) (c1 : Nat) (l1 : List Int) (r : Bool) (w : World) (hr1 : Kd.C (Kd.int .i64) w A1 l1.length l1) (hc1 : l1.length ≤ c1) (h : spec_WordOk.f k a0 l1 = some r) :
  Calls Tryd.prog 133 #[.int .i64 a0, .slice A1 l1.length c1] w fun e w' => e = .returned (.bool r) ∧ Drawn0 w w' := by
 have HR1 := Aside0.mk hr1
 have HC1 := Aside0.mk hc1
 clear hr1 hc1
 have H : (spec_WordOk.l0 k a0 l1 0) = some r := h
 clear h
 have H' := Aside0.mk H
 clear H
 go_enter Tryd.func133, Tryd.ntmps133
 go_wp2
 go_loopg [5] k (fun kq v5 w' => ∃ (aa : Int), v5 = .int .i64 aa ∧ Aside0 (spec_WordOk.l0 kq a0 l1 aa = some r) ∧ Aside0 (kq ≤ k) ∧ Drawn0 w w')
 case atStart => exact ⟨(0), tx_, H', ⟨Nat.le_refl _⟩, by repeat (first | exact Drawn0.refl _ | apply Drawn0.step)⟩
 case round =>
  clear H'
  try clear c1
  try clear p2
  obtain ⟨aa, rfl, HA, HK1, ⟨m1, rfl⟩⟩ := hrel
  cases gk with
  | zero => exact absurd HA.out (by simp [spec_WordOk.l0])
  | succ k1 =>
   have H := HA.out
   clear HA
   simp only [spec_WordOk.l0] at H
   by_cases c3 : aa < (l1.length : Int)
   ·
    rw [if_pos c3] at H
    have aJ : decide (aa < (l1.length : Int)) = true := decide_eq_true c3
    clear c3
    by_cases c4 : 0 ≤ aa
    ·
     rw [if_pos c4] at H
     have a6 : decide (0 ≤ aa) = true := decide_eq_true c4
     clear c4
     by_cases c5 : (rd l1 aa) < 0
     ·
      rw [if_pos c5] at H
      have a8 : decide ((rd l1 aa) < 0) = true := decide_eq_true c5
      clear c5
      obtain rfl := Option.some.inj H
      have p229 : 0 ≤ (aa : Int) := od_
      have q229 : aa < (l1.length : Int) := od_
      obtain ⟨ad229, e229, aG⟩ := Kd.at_int HR1.out aa p229 q229
      cases e229
      replace p229 := eq_true p229
      replace q229 := eq_true q229
      go_wp2
      go_ret
      exact ⟨tx_, by repeat (first | exact Drawn0.refl _ | apply Drawn0.step)⟩
     ·
      rw [if_neg c5] at H
      have a8 : decide ((rd l1 aa) < 0) = false := decide_eq_false c5
      clear c5
      by_cases c6 : (rd l1 aa) ≥ a0
      ·
       rw [if_pos c6] at H
       have bp : decide (a0 ≤ (rd l1 aa)) = true := decide_eq_true c6
       clear c6
       obtain rfl := Option.some.inj H
       have p229 : 0 ≤ (aa : Int) := od_
       have q229 : aa < (l1.length : Int) := od_
       obtain ⟨ad229, e229, aG⟩ := Kd.at_int HR1.out aa p229 q229
       cases e229
       replace p229 := eq_true p229
       replace q229 := eq_true q229
       have p230 : 0 ≤ (aa : Int) := od_
       have q230 : aa < (l1.length : Int) := od_
       obtain ⟨ad230, e230, bc⟩ := Kd.at_int HR1.out aa p230 q230
       obtain rfl : ad229 = ad230 := (by injection e230)
       replace p230 := eq_true p230
       replace q230 := eq_true q230
       go_wp2
       go_ret
       exact ⟨tx_, by repeat (first | exact Drawn0.refl _ | apply Drawn0.step)⟩
      ·
       rw [if_neg c6] at H
       have bp : decide (a0 ≤ (rd l1 aa)) = false := decide_eq_false c6
       clear c6
       have H' := Aside0.mk H
       clear H
       have p229 : 0 ≤ (aa : Int) := od_
       have q229 : aa < (l1.length : Int) := od_
       obtain ⟨ad229, e229, aG⟩ := Kd.at_int HR1.out aa p229 q229
       cases e229
       replace p229 := eq_true p229
       replace q229 := eq_true q229
       have p230 : 0 ≤ (aa : Int) := od_
       have q230 : aa < (l1.length : Int) := od_
       obtain ⟨ad230, e230, bc⟩ := Kd.at_int HR1.out aa p230 q230
       obtain rfl : ad229 = ad230 := (by injection e230)
       replace p230 := eq_true p230
       replace q230 := eq_true q230
       go_wp2
       go_roundg k1
       case measure => have := HK1.out; omega
       case rel => exact ⟨(wrap64 (aa + 1)), tx_, H', ⟨by have := HK1.out; omega⟩, by repeat (first | exact Drawn0.refl _ | apply Drawn0.step)⟩
    ·
     rw [if_neg c4] at H
     exact absurd H (by simp)
   ·
    rw [if_neg c3] at H
    have aJ : decide (aa < (l1.length : Int)) = false := decide_eq_false c3
    clear c3
    obtain ⟨bq, A7, H⟩ := bnd_ H
    try dsimp only at H
    by_cases c8 : bq = true
    ·
     subst c8
     have H1 : (some (decide ((l1.length : Int) ≤ 6))) = some r := by rw [if_pos rfl] at H; exact H
     clear H
     have H := H1
     clear H1
     obtain rfl := Option.some.inj H
     go_wp2_with (first | ((with_reducible refine gate_callee (f := 99) rfl ?_); refine gl_ (some 26) Tryd.func99 #[.int .i64 a0, .int .i64 1, .int .i64 3] ?_; (with_reducible refine (spec_l1In.calls a0 1 3 true _ A7.out).mono ?_); rintro e w' ⟨rfl, ⟨nd, rfl⟩⟩; refine ⟨_, rfl, ?_⟩))
     go_ret
     exact ⟨tx_, by repeat (first | exact Drawn0.refl _ | apply Drawn0.step)⟩
    ·
     replace c8 := Bool.eq_false_iff.mpr c8
     subst c8
     have H1 : (some false) = some r := by rw [if_neg (show ¬ (false = true) by decide)] at H; exact H
     clear H
     have H := H1
     clear H1
     obtain rfl := Option.some.inj H
     go_wp2_with (first | ((with_reducible refine gate_callee (f := 99) rfl ?_); refine gl_ (some 26) Tryd.func99 #[.int .i64 a0, .int .i64 1, .int .i64 3] ?_; (with_reducible refine (spec_l1In.calls a0 1 3 false _ A7.out).mono ?_); rintro e w' ⟨rfl, ⟨nd, rfl⟩⟩; refine ⟨_, rfl, ?_⟩))
     go_ret
     exact ⟨tx_, by repeat (first | exact Drawn0.refl _ | apply Drawn0.step)⟩

end Go.Proofs.YtlhiienanbpdlaaDoor.MFnJournalText
