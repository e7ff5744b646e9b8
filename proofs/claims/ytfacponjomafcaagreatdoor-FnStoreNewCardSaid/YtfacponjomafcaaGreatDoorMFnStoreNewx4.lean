/- For the law FnStoreNew: walks of the functions that it reaches: each call returns what the plain function beside it tells. The conditions stand in each statement. -/
import Derived.Test.YtfacponjomafcaaGreatDoorV
import Derived.Test.YtfacponjomafcaaGreatDoorMFnStoreNewx0
import Derived.Test.YtfacponjomafcaaGreatDoorMFnStoreNewx2
import Derived.Test.YtfacponjomafcaaGreatDoorMFnStoreNewx3
namespace Go.Proofs.YtfacponjomafcaaGreatDoor.MFnStoreNew
open Go.RowKit Go.Proofs.YtfacponjomafcaaGreatDoorW.PrintWords Go.Proofs.YtfacponjomafcaaGreatDoorW.PrintLast Go.Proofs.YtfacponjomafcaaGreatDoorW.PrintMore
attribute [local go_sem] max2_int min2_int max_two min_two max_three min_three max_four min_four   -- for this text's walks alone
set_option linter.unusedVariables false
set_option linter.unusedSimpArgs false
set_option maxHeartbeats 8000000
set_option maxRecDepth 100000

/-! ### spec_PlaceOk: function 22 -/
def spec_PlaceOk.j0 : Nat → Bool → List Int → Int → List Int → Option (Bool)
 | 0, _, _, _, _ => none
 | k + 1, x14, ap, aH, aI => if x14 = true then (some false) else ((spec_SameRule.f k (ap.length : Int) aH).bind fun ao => ((spec_AfterWord.f k ap ao aI).bind fun aB => (some aB.2)))
def spec_PlaceOk.f (k : Nat) (ae : List Int) (a0_1 : Int) (ag : List Int) : Option (Bool) := (spec_StartOk.f k ae).bind fun aC => (if aC = true then ((spec_l1In.f a0_1 (-1) 3).bind fun aj => (spec_PlaceOk.j0 k (!aj) ae a0_1 ag)) else (spec_PlaceOk.j0 k true ae a0_1 ag))
theorem spec_PlaceOk.mono_l : ∀ k, (∀ y0 y1 y2 y3, LeO (spec_PlaceOk.j0 k y0 y1 y2 y3) (spec_PlaceOk.j0 (k + 1) y0 y1 y2 y3))
 | 0 => fun _ _ _ _ r h => by simp [spec_PlaceOk.j0] at h
 | k + 1 => by
  have ih0 := spec_PlaceOk.mono_l k
  ·
   intro y0 y1 y2 y3
   unfold spec_PlaceOk.j0
   repeat' (with_reducible first | exact ih0 _ _ _ _ | exact spec_AfterWord.mono _ _ _ _ | exact spec_SameRule.mono _ _ _ | exact spec_StartOk.mono _ _ | exact mr_ | exact mn_ | refine mi_ ?_ ?_ | refine mb_ ?_ (fun _ => ?_))
theorem spec_PlaceOk.mono : ∀ a0 a1 a2 k, LeO (spec_PlaceOk.f k a0 a1 a2) (spec_PlaceOk.f (k + 1) a0 a1 a2) := by
 intro a0 a1 a2 k; have ih0 := spec_PlaceOk.mono_l k; unfold spec_PlaceOk.f; repeat' (with_reducible first | exact ih0 _ _ _ _ | exact spec_AfterWord.mono _ _ _ _ | exact spec_SameRule.mono _ _ _ | exact spec_StartOk.mono _ _ | exact mr_ | exact mn_ | refine mi_ ?_ ?_ | refine mb_ ?_ (fun _ => ?_))
def spec_PlaceOk.T3 : Bool × List (List Nat × List Nat) := (true, [([], []), ([0], [0]), ([], []), ([2], [2]), ([3], [3]), ([], []), ([5], [5]), ([4, 6], [4, 6]), ([], []), ([8], [8]), ([1, 7, 9, 7], [1, 7, 9]), ([10], [10]), ([11], [11]), ([11], [11]), ([12, 10, 0, 1, 2, 3, 4, 5, 6, 7, 8, 9, 10, 11, 12], [12]), ([13, 14, 0, 1, 2, 3, 4, 5, 6, 7, 8, 9, 10, 11, 12, 13, 14], [13])])
def spec_PlaceOk.B3 : List Nat := [0, 1, 0, 4, 12, 0, 32, 124, 0, 256, 1023, 2047, 4095, 4095, 8191, 32767]
theorem spec_PlaceOk.tab3 : rtab .any (opsOf Tryz.f22 3) = spec_PlaceOk.T3 := by kernel_rfl
theorem spec_PlaceOk.bits3 : waitsOk spec_PlaceOk.T3.2 spec_PlaceOk.B3 = true := by kernel_rfl
theorem spec_PlaceOk.calls (k : Nat) (ak : Option Addr) (al : Nat) (ae : List Int) (a0_1 : Int) (ay : Option Addr) (az : Nat) (ag : List Int) (r : Bool) (w : World) (hr0_0 : Kd.C (Kd.int .i64) w ak ae.length ae) (hc0_0 : ae.length ≤ al) (hr0_2 : Kd.C (Kd.int .i64) w ay ag.length ag) (hc0_2 : ag.length ≤ az) (h : spec_PlaceOk.f k ae a0_1 ag = some r) :
  Calls Tryz.prog 22 #[.agg #[.slice ak ae.length al, .int .i64 a0_1, .slice ay ag.length az]] w fun e w' => e = .returned (.bool r) ∧ Below w.heap.size w w' := by
 have hu25 := Tryz.underlying25; have bo := A_ hr0_0; have aD := A_ hc0_0; clear hr0_0 hc0_0; have bp := A_ hr0_2; have a7 := A_ hc0_2; clear hr0_2 hc0_2; have HB := A_ (Below.refl w.heap.size w); have H : ((spec_StartOk.f k ae).bind fun aC => (if aC = true then ((spec_l1In.f a0_1 (-1) 3).bind fun aj => (spec_PlaceOk.j0 k (!aj) ae a0_1 ag)) else (spec_PlaceOk.j0 k true ae a0_1 ag))) = some r := h; clear h; have HC2 := A_ H; clear H; go_enter Tryz.func22, Tryz.ntmps22
 go_upto_region 1 with (first | ((with_reducible refine gate_dst (N := 1) rfl ?_); refine be_ 1 #[.slice ak ae.length al, .int .i64 a0_1, .slice ay ag.length az] 25 ?_; intro aq hg w3 ac hb; have bq := gx_ HB hg; have br := gx_ HB hg; replace HB := bs_ HB hb; clear hb hg))
 (try simp only [Act.put, sa_, sb_, sc_])
 go_cut [14] (fun bJ wc => ∃ (kq : Nat) (ar : Bool), bJ = .bool ar ∧ Aside0 (spec_PlaceOk.j0 kq ar ae a0_1 ag = some r) ∧ Aside0 (kq ≤ k) ∧ Aside0 (wc.heap[aq]? = some (.cells #[(.slice ak ae.length al), .int .i64 a0_1, (.slice ay ag.length az)] 25 (0, 0))) ∧ Aside0 (Below w.heap.size w wc))
 case first =>
  have H := HC2.out; clear HC2; obtain ⟨aC, A4, H⟩ := bnd_ H; (try dsimp only at H); by_cases c5 : aC = true
  ·
   subst c5; replace H : ((spec_l1In.f a0_1 (-1) 3).bind fun aj => (spec_PlaceOk.j0 k (!aj) ae a0_1 ag)) = some r := by rw [if_pos rfl] at H; exact H
   obtain ⟨aj, A6, H⟩ := bnd_ H; (try dsimp only at H); have H' := A_ H; clear H; obtain ⟨aK, aL, aM, aN, aO, aP⟩ := cf3_ ac; go_wp2_with (first | ((with_reducible refine gate_callee (f := 39) rfl ?_); refine gl_ (some 7) Tryz.func39 #[.slice ak ae.length al] ?_; (with_reducible refine (spec_StartOk.calls k _ _ ae true _ ?s1 ?s2 A4.out).mono ?_); (case s1 => exact tD_); (case s2 => exact aD.out); rintro e w' ⟨rfl, ⟨nd, rfl⟩⟩; refine ⟨_, rfl, ?_⟩) | (go_at_call 40; (with_reducible refine (spec_l1In.calls a0_1 (-1) 3 aj _ A6.out).mono ?_); rintro e w' ⟨rfl, ⟨nd, rfl⟩⟩)); go_meet
   case rel => exact ⟨_, (!aj), tx_, H', ⟨by first | omega | exact Nat.le_refl _⟩, ⟨tk_ ac.out⟩, ⟨(tb_ HB.out)⟩⟩
  ·
   replace c5 := Bool.eq_false_iff.mpr c5; subst c5; replace H : (spec_PlaceOk.j0 k true ae a0_1 ag) = some r := by rw [if_neg (show ¬ (false = true) by decide)] at H; exact H
   have H' := A_ H; clear H; obtain ⟨aQ, aR, aU, aV, aW, aX⟩ := cf3_ ac; go_wp2_with (first | ((with_reducible refine gate_callee (f := 39) rfl ?_); refine gl_ (some 7) Tryz.func39 #[.slice ak ae.length al] ?_; (with_reducible refine (spec_StartOk.calls k _ _ ae false _ ?s1 ?s2 A4.out).mono ?_); (case s1 => exact tD_); (case s2 => exact aD.out); rintro e w' ⟨rfl, ⟨nd, rfl⟩⟩; refine ⟨_, rfl, ?_⟩)); go_meet
   case rel => exact ⟨_, (true), tx_, H', ⟨by first | omega | exact Nat.le_refl _⟩, ⟨tk_ ac.out⟩, ⟨(tb_ HB.out)⟩⟩
 case rest =>
  clear HC2; obtain ⟨kq, ar, rfl, HA, HJ1, ac, HB⟩ := hcut
  cases kq with
  | zero => exact absurd HA.out (by simp [spec_PlaceOk.j0])
  | succ kj1 =>
   have H := HA.out; clear HA; simp only [spec_PlaceOk.j0] at H; by_cases c9 : ar = true
   ·
    subst c9; replace H : (some false) = some r := by rw [if_pos rfl] at H; exact H
    obtain rfl := Option.some.inj H; go_wp2; go_ret; exact ⟨tw_, (tb_ HB.out)⟩
   ·
    replace c9 := Bool.eq_false_iff.mpr c9; subst c9; replace H : ((spec_SameRule.f kj1 (ae.length : Int) a0_1).bind fun ao => ((spec_AfterWord.f kj1 ae ao ag).bind fun aB => (some aB.2))) = some r := by rw [if_neg (show ¬ (false = true) by decide)] at H; exact H
    obtain ⟨ao, A10, H⟩ := bnd_ H; (try dsimp only at H); obtain ⟨⟨bh, bi⟩, A11, H⟩ := bnd_ H; (try dsimp only at H); obtain rfl := Option.some.inj H; (try go_wp2); replace ac := dB_ ac; replace HB := A_ (ld_ HB.out); refine sv_ (S := fun w' => w'.cell? ⟨aq, 0, none⟩ = some (.slice ak ae.length al) ∧ w'.cell? ⟨aq, 1, none⟩ = some (.int .i64 a0_1) ∧ w'.cell? ⟨aq, 2, none⟩ = some (.slice ay ag.length az)) (ds := []) hh_ (fun hHeld => ?_); refine with_tabW spec_PlaceOk.tab3 spec_PlaceOk.bits3 (fun HT_ HW_ => ?_); generalize wc.drew = bN at ac HB hHeld ⊢; refine pv_ 0 ?_; refine pv_ 2 ?_; refine pv_ 5 ?_; refine pv_ 8 ?_; refine tv_ 1 ?_; refine tv_ 3 ?_; refine pv_ 4 ?_; refine tv_ 6 ?_; refine tv_ 9 ?_; refine ov_ 7 (fun K hK => ?_); refine goes_ Tryz.func42 (by kernel_rfl) rfl #[.int .i64 (ae.length : Int), .int .i64 a0_1] (by rfl) rfl rfl tz_ ?_; (with_reducible refine (spec_SameRule.calls kj1 (ae.length : Int) a0_1 ao _ A10.out).mono ?_); rintro e bO ⟨bK, rfl, ho0, hb⟩; refine ⟨_, rfl, ?_⟩; have am := A_ (Kd.S_lower ho0 (below_size (tb_ HB.out))); replace ac := bb_ ac hb; replace HB := bs_ HB hb; (try clear hb); (try clear hb2); (try clear hk); (try clear hi); (try clear ho0); obtain ⟨bj, bk, a8⟩ := Kd.S_slice am.out; (first | subst a8 | (injection a8 with f1_ f2_ f3_; have f4_ := f1_.symm; have f5_ := f3_.symm; clear f1_ f2_ f3_; subst f4_; subst f5_)); refine hK.out _ _ hh_ (fun hHeld => ?_); clear hK K; refine nr_ 23 ?_; refine ov_ 10 (fun K hK => ?_); refine goes_ Tryz.func41 (by kernel_rfl) rfl #[.slice ak ae.length al, .slice bj ao.length bk, .slice ay ag.length az] (by rfl) rfl rfl tz_ ?_; (with_reducible refine (spec_AfterWord.calls kj1 _ _ ae _ _ ao _ _ ag bh bi _ ?s1 ?s2 ?s3 ?s4 ?s5 ?s6 A11.out).mono ?_); (case s1 => exact tD_); (case s2 => exact aD.out); (case s3 => repeat (first | exact (Kd.S_reads' am.out).2.2 | (with_reducible refine Kd.C_alloc ?_ _) | (with_reducible refine Kd.C_drewN ?_ _) | (with_reducible refine Kd.C_drew ?_))); (case s4 => exact (Kd.S_reads' am.out).2.1); (case s5 => exact tD_); (case s6 => exact a7.out); rintro e bP ⟨bL, rfl, ho0, hb⟩; refine ⟨_, rfl, ?_⟩; replace am := A_ (Kd.S_elder' (rS_ am.out) (Kd.R_base ho0) hb); have bs := rx_ ho0 HB; replace ac := bb_ ac hb; replace HB := bs_ HB hb; (try clear hb); (try clear hb2); (try clear hk); (try clear hi); (try clear ho0); refine hK.out _ _ hh_ (fun hHeld => ?_); clear hK K; refine nr_ 26 ?_; refine pv_ 11 ?_; refine pv_ 12 ?_; refine pv_ 13 ?_; refine pv_ 14 ?_; refine pv_ 15 ?_; refine done_ (done_of HT_.out (by kernel_rfl)) ?_; (try go_wp2); go_ret; exact ⟨tw_, (tb_ HB.out)⟩

/-- A state of type 62 at block g of W; what its slices lead to came in by w0. -/
def IsS62 (w0 W : World) (g : Nat) (f0 : List Int) (f1 : Int) : Prop := ∃ A0 c0, W.heap[g]? = some (.cells #[.slice A0 f0.length c0, .int .i64 f1] 62 (0, 0)) ∧ w0.heap.size ≤ g ∧ Kd.C (Kd.int .u8) w0 A0 f0.length f0
theorem IsS62.grown {w0 W : World} {g : Nat} {f0 : List Int} {f1 : Int} {W1 : World} {row : Option Nat} (h : IsS62 w0 W g f0 f1) (hw : W.grownBy W1 row) (hne : some g ≠ row) : IsS62 w0 W1 g f0 f1 := by
 obtain ⟨A0, c0, hb, hg, hr0⟩ := h; exact ⟨A0, c0, blk_grown hb hw hne, hg, hr0⟩
theorem IsS62.own_neN {w0 W : World} {g : Nat} {f0 : List Int} {f1 : Int} {α : Type} {d : Kd α} {e : Nat} {base : Nat} {ok : Nat → Prop} {v : Value} {xs : List α} (h : IsS62 w0 W g f0 f1) (ho : Kd.N d e W base ok v xs) (ht : e ≠ 62) : some g ≠ v.ownBlock := by
 obtain ⟨A0, c0, hb, hg, hr0⟩ := h; exact Kd.N_ne ho hb ht
theorem IsS62.fresh {w0 W : World} {g : Nat} {f0 : List Int} {f1 : Int} (h : IsS62 w0 W g f0 f1) : ∀ k, W.heap.size ≤ k → k ≠ g := by
 obtain ⟨A0, c0, hb, hg, hr0⟩ := h; exact Kd.freshB hb
theorem IsS62.kept {w0 W : World} {g : Nat} {f0 : List Int} {f1 : Int} {W1 : World} {S : Nat → Prop} (h : IsS62 w0 W g f0 f1) (hk : Kept W W1 S) (hne : ¬ S g) : IsS62 w0 W1 g f0 f1 := by
 obtain ⟨A0, c0, hb, hg, hr0⟩ := h; exact ⟨A0, c0, blk_kept hb hk hne, hg, hr0⟩
theorem IsS62.below {w0 W : World} {g : Nat} {f0 : List Int} {f1 : Int} {W1 : World} (h : IsS62 w0 W g f0 f1) (hw : Below W.heap.size W W1) : IsS62 w0 W1 g f0 f1 := h.grown (grown_of_below hw none) (by simp)
theorem IsS62.alloc {w0 W : World} {g : Nat} {f0 : List Int} {f1 : Int} (h : IsS62 w0 W g f0 f1) (o : Obj) : IsS62 w0 (W.alloc o) g f0 f1 := h.below (la_ (Below.refl _ _) o)
theorem IsS62.drewN {w0 W : World} {g : Nat} {f0 : List Int} {f1 : Int} (h : IsS62 w0 W g f0 f1) (m : Nat) : IsS62 w0 (W.drewN m) g f0 f1 := h
theorem IsS62.drew {w0 W : World} {g : Nat} {f0 : List Int} {f1 : Int} (h : IsS62 w0 W g f0 f1) : IsS62 w0 W.drew g f0 f1 := h
theorem IsS62.at_ {w0 W : World} {g : Nat} {f0 : List Int} {f1 : Int} {w' : World} {m : Nat} (hq : W.drewN m = w') (h : IsS62 w0 W g f0 f1) : IsS62 w0 w' g f0 f1 := by subst hq; exact IsS62.drewN h m
theorem IsS62.apart {w0 W : World} {g : Nat} {f0 : List Int} {f1 : Int} {α : Type} {d : Kd α} {e : Nat} {base : Nat} {ok : Nat → Prop} {v : Value} {xs : List α} (h : IsS62 w0 W g f0 f1) (ho : d.R e W base ok v xs) (ht : ∀ q, q ∈ e :: d.E → q ≠ 62) : d.R e W base (fun k => ok k ∧ k ≠ g) v xs := by
 obtain ⟨A0, c0, hb, hg, hr0⟩ := h; exact Kd.R_types ho hb ht
theorem IsS62.own_ne {w0 W : World} {g : Nat} {f0 : List Int} {f1 : Int} {α : Type} {d : Kd α} {e : Nat} {base : Nat} {ok : Nat → Prop} {v : Value} {xs : List α} (h : IsS62 w0 W g f0 f1) (ho : d.R e W base ok v xs) (ht : e ≠ 62) : some g ≠ v.ownBlock := by
 obtain ⟨A0, c0, hb, hg, hr0⟩ := h; exact Kd.R_ne ho hb ht
theorem IsS62.apartQ {w0 W : World} {g : Nat} {f0 : List Int} {f1 : Int} {α : Type} {d : Kd α} {e : Nat} {base : Nat} {ok : Nat → Prop} {v : Value} {xs : List α} (h : IsS62 w0 W g f0 f1) (ho : d.Q e W base ok v xs) (ht : ∀ q, q ∈ e :: d.E → q ≠ 62) : d.Q e W base (fun k => ok k ∧ k ≠ g) v xs := by
 obtain ⟨A0, c0, hb, hg, hr0⟩ := h; exact Kd.Q_types ho hb ht
theorem IsS62.own_neQ {w0 W : World} {g : Nat} {f0 : List Int} {f1 : Int} {α : Type} {d : Kd α} {e : Nat} {base : Nat} {ok : Nat → Prop} {v : Value} {xs : List α} (h : IsS62 w0 W g f0 f1) (ho : d.Q e W base ok v xs) (ht : e ≠ 62) : some g ≠ v.ownBlock := by
 obtain ⟨A0, c0, hb, hg, hr0⟩ := h; exact Kd.Q_ne ho hb ht
theorem IsS62.apartS {w0 W : World} {g : Nat} {f0 : List Int} {f1 : Int} {α : Type} {d : Kd α} {e : Nat} {base : Nat} {ok : Nat → Prop} {v : Value} {xs : List α} (h : IsS62 w0 W g f0 f1) (ho : d.S e W base ok v xs) (ht : ∀ q, q ∈ e :: d.E → q ≠ 62) : d.S e W base (fun k => ok k ∧ k ≠ g) v xs := by
 obtain ⟨A0, c0, hb, hg, hr0⟩ := h; exact Kd.S_types ho hb ht
theorem IsS62.own_neS {w0 W : World} {g : Nat} {f0 : List Int} {f1 : Int} {α : Type} {d : Kd α} {e : Nat} {base : Nat} {ok : Nat → Prop} {v : Value} {xs : List α} (h : IsS62 w0 W g f0 f1) (ho : d.S e W base ok v xs) (ht : e ≠ 62) : some g ≠ v.ownBlock := by
 obtain ⟨A0, c0, hb, hg, hr0⟩ := h; exact Kd.S_ne ho hb ht
theorem IsS62.lt {w0 W : World} {g : Nat} {f0 : List Int} {f1 : Int} (h : IsS62 w0 W g f0 f1) : g < W.heap.size := by
 obtain ⟨A0, c0, hb, hg, hr0⟩ := h; exact blk_lt hb
theorem IsS62.ge {w0 W : World} {g : Nat} {f0 : List Int} {f1 : Int} (h : IsS62 w0 W g f0 f1) : w0.heap.size ≤ g := by
 obtain ⟨A0, c0, hb, hg, hr0⟩ := h; exact hg
theorem IsS62.ne_blk {w0 W : World} {g : Nat} {f0 : List Int} {f1 : Int} {a : Nat} {cs : Array Value} {t : TypeId} {fr : Nat × Nat} (h : IsS62 w0 W g f0 f1) (hb2 : W.heap[a]? = some (.cells cs t fr)) (ht : t ≠ 62) : g ≠ a := by
 obtain ⟨A0, c0, hb, hg, hr0⟩ := h; rintro rfl; rw [hb] at hb2; injection hb2 with hb2; injection hb2 with _ ht2; exact ht ht2.symm
theorem IsS62.far {w0 W : World} {g : Nat} {f0 : List Int} {f1 : Int} {p : Addr} (h : IsS62 w0 W g f0 f1) (hne : g ≠ p.block) (u : Value) : IsS62 w0 (W.setCell p u) g f0 f1 := by
 obtain ⟨A0, c0, hb, hg, hr0⟩ := h; exact ⟨A0, c0, blk_far hb hne u, hg, hr0⟩
theorem cellS62_0 {W : World} {g : Nat} {A0 : Option Addr} {c0 : Nat} {f0 : List Int} {f1 : Int} (h : W.heap[g]? = some (.cells #[.slice A0 f0.length c0, .int .i64 f1] 62 (0, 0))) : W.cell? ⟨g, 0, none⟩ = some (.slice A0 f0.length c0) := (blk_cell h 0).trans rfl
theorem cellS62_1 {W : World} {g : Nat} {A0 : Option Addr} {c0 : Nat} {f0 : List Int} {f1 : Int} (h : W.heap[g]? = some (.cells #[.slice A0 f0.length c0, .int .i64 f1] 62 (0, 0))) : W.cell? ⟨g, 1, none⟩ = some (.int .i64 f1) := (blk_cell h 1).trans rfl
theorem IsS62.set_1 {w0 W : World} {g : Nat} {f0 : List Int} {f1 : Int} (h : IsS62 w0 W g f0 f1) (x : Int) : IsS62 w0 (W.setCell ⟨g, 1, none⟩ (.int .i64 x)) g f0 x := by
 obtain ⟨A0, c0, hb, hg, hr0⟩ := h; exact ⟨A0, c0, by simpa using blk_set hb 1 (.int .i64 x), hg, hr0⟩
theorem IsS62.new (w0 W : World) (A0 : Option Addr) (c0 : Nat) (f0 : List Int) (f1 : Int) (hB : Below w0.heap.size w0 W) (hr0 : Kd.C (Kd.int .u8) w0 A0 f0.length f0) : IsS62 w0 (W.alloc (.cells #[.slice A0 f0.length c0, .int .i64 f1] 62)) W.heap.size f0 f1 := ⟨A0, c0, by simpa using heap_alloc_new W _, hB.size, hr0⟩

theorem ti62_ {P Q : Prop} (h : Q) (hp : Q → P := by intro h_; repeat (first | (with_reducible first | exact h_ | apply IsS62.alloc | apply IsS62.drewN | apply IsS62.drew | apply IsS62.set_1 | refine IsS62.far ?_ (Aside0.out (by assumption)) _) | exact h_)) : P := hp h
theorem tu62_ {B : Nat} {w W0 W : World} (h : Below B w W0) (hp : Below B w W0 → Below B w W := by intro h_; repeat (first | (with_reducible first | exact h_ | apply la_ | apply ln_ | apply ld_ | refine below_set ?_ (IsS62.ge (Aside0.out (by assumption))) | refine below_set ?_ (Aside0.out (by assumption))) | exact h_)) : Below B w W := hp h
theorem tu62_s {w W0 W W2 : World} (h : Aside0 (Below w.heap.size w W0)) (k_ : Below W.heap.size W W2) (hp : Below w.heap.size w W0 → Below w.heap.size w W := by intro h_; exact tu62_ h_) : Aside0 (Below w.heap.size w W2) := ⟨below_step (hp h.out) k_⟩
theorem ti62_b {w0 W0 W W1 : World} {g : Nat} {f0 : List Int} {f1 : Int} (h : Aside0 (IsS62 w0 W0 g f0 f1)) (hb : Below W.heap.size W W1) (hp : IsS62 w0 W0 g f0 f1 → IsS62 w0 W g f0 f1 := by intro h_; exact ti62_ h_) : Aside0 (IsS62 w0 W1 g f0 f1) := ⟨IsS62.below (hp h.out) hb⟩
/-! ### spec_l20Rd_pick: function 31 -/
def spec_l20Rd_pick.j0 : Nat → Int → Bool → List Int → Int → Option (Int × Int)
 | 0, _, _, _, _ => none
 | k + 1, x1, x24, ad, af => if x24 = true then (some (0, af)) else (if (wrap64 (af - 1)) < (ad.length : Int) then (if 0 ≤ (wrap64 (af - 1)) then (if x1 = 0 then (none) else (some (Int.tmod (wrap64 (rd ad (wrap64 (af - 1)))) x1, af))) else (none)) else (if (ad.length : Int) = 0 then (none) else (if 0 ≤ (Int.tmod (wrap64 (af - 1)) (ad.length : Int)) then (if (Int.tmod (wrap64 (af - 1)) (ad.length : Int)) < (ad.length : Int) then (if 0 ≤ (Int.tmod (wrap64 ((wrap64 ((wrap64 (af - 1)) * 7)) + 3)) (ad.length : Int)) then (if (Int.tmod (wrap64 ((wrap64 ((wrap64 (af - 1)) * 7)) + 3)) (ad.length : Int)) < (ad.length : Int) then (if x1 = 0 then (none) else (some (Int.tmod (Go.bits .xor .i64 (wrap64 ((wrap64 ((wrap64 ((wrap64 ((wrap64 (rd ad (Int.tmod (wrap64 (af - 1)) (ad.length : Int)))) * 131)) + (wrap64 ((wrap64 (rd ad (Int.tmod (wrap64 ((wrap64 ((wrap64 (af - 1)) * 7)) + 3)) (ad.length : Int)))) * 1117)))) + (wrap64 ((wrap64 (af - 1)) * 29)))) + (wrap64 ((wrap64 (Int.tdiv (wrap64 (af - 1)) (ad.length : Int))) * 53)))) (wrap64 (Int.tdiv (wrap64 ((wrap64 ((wrap64 ((wrap64 ((wrap64 (rd ad (Int.tmod (wrap64 (af - 1)) (ad.length : Int)))) * 131)) + (wrap64 ((wrap64 (rd ad (Int.tmod (wrap64 ((wrap64 ((wrap64 (af - 1)) * 7)) + 3)) (ad.length : Int)))) * 1117)))) + (wrap64 ((wrap64 (af - 1)) * 29)))) + (wrap64 ((wrap64 (Int.tdiv (wrap64 (af - 1)) (ad.length : Int))) * 53)))) 64))) x1, af))) else (none)) else (none)) else (none)) else (none))))
def spec_l20Rd_pick.f (k : Nat) (aa : List Int) (ab : Int) (a1 : Int) : Option (Int × Int) := if a1 < 1 then (spec_l20Rd_pick.j0 k a1 true aa (wrap64 (ab + 1))) else (spec_l20Rd_pick.j0 k a1 ((aa.length : Int) == 0) aa (wrap64 (ab + 1)))
theorem spec_l20Rd_pick.mono_l : ∀ k, (∀ y0 y1 y2 y3, LeO (spec_l20Rd_pick.j0 k y0 y1 y2 y3) (spec_l20Rd_pick.j0 (k + 1) y0 y1 y2 y3))
 | 0 => fun _ _ _ _ r h => by simp [spec_l20Rd_pick.j0] at h
 | k + 1 => by
  have ih0 := spec_l20Rd_pick.mono_l k
  ·
   intro y0 y1 y2 y3
   unfold spec_l20Rd_pick.j0
   repeat' (with_reducible first | exact ih0 _ _ _ _ | exact mr_ | exact mn_ | refine mi_ ?_ ?_ | refine mb_ ?_ (fun _ => ?_))
theorem spec_l20Rd_pick.mono : ∀ a0 a1 a2 k, LeO (spec_l20Rd_pick.f k a0 a1 a2) (spec_l20Rd_pick.f (k + 1) a0 a1 a2) := by
 intro a0 a1 a2 k; have ih0 := spec_l20Rd_pick.mono_l k; unfold spec_l20Rd_pick.f; repeat' (with_reducible first | exact ih0 _ _ _ _ | exact mr_ | exact mn_ | refine mi_ ?_ ?_ | refine mb_ ?_ (fun _ => ?_))
theorem spec_l20Rd_pick.calls (k : Nat) (g : Nat) (aa : List Int) (ab : Int) (a1 : Int) (r1 : Int) (r2 : Int) (w0 w : World) (hI : IsS62 w0 w g aa ab) (hB : Below w0.heap.size w0 w) (h : spec_l20Rd_pick.f k aa ab a1 = some (r1, r2)) :
  Calls Tryz.prog 31 #[.pointer (some ⟨g, 0, none⟩), .int .i64 a1] w fun e w' => e = .returned (.int .i64 r1) ∧ IsS62 w0 w' g aa r2 ∧ Below w0.heap.size w0 w' ∧ KeepBut w w' g none := by
 have HI0 := A_ hI; have HK := A_ (KeepBut.refl w g none); have HL := A_ hB.size; have HLg := A_ hI.lt; clear hI; have HW0 := A_ hB.size; have HB := A_ hB; clear hB; have H : (if a1 < 1 then (spec_l20Rd_pick.j0 k a1 true aa (wrap64 (ab + 1))) else (spec_l20Rd_pick.j0 k a1 ((aa.length : Int) == 0) aa (wrap64 (ab + 1)))) = some (r1, r2) := h; clear h; have HC3 := A_ H; clear H; obtain ⟨ASz4_0, cSz4_0, HGz4, hgz4, HSz4_0⟩ := HI0.out; have aY := cellS62_0 HGz4; have aZ := cellS62_1 HGz4; have a3 := blk_frozen HGz4 1; clear HGz4 hgz4; go_enter Tryz.func31, Tryz.ntmps31
 go_upto_region 2 with (fail)
 repeat (go_quiet (fail); go_upto_region 2 with (fail))
 go_cut [24] (fun bM wc => ∃ (kq : Nat) (au : Bool), bM = .bool au ∧ Aside0 (spec_l20Rd_pick.j0 kq a1 au aa (wrap64 (ab + 1)) = some (r1, r2)) ∧ Aside0 (kq ≤ k) ∧ Aside0 (IsS62 w0 wc g aa (wrap64 (ab + 1))) ∧ Aside0 (KeepBut w wc g none) ∧ Aside0 (Below w0.heap.size w0 wc))
 case first =>
  have H := HC3.out; clear HC3; replace H := it_ H; rcases H with ⟨aA, H⟩ | ⟨aA, H⟩
  ·
   (first | rw [aA] | (simp only [i64_w, i32_w]; rw [aA]) | skip); have H' := A_ H; clear H; go_wp2; repeat (go_quiet (fail); try go_wp2)
   go_meet
   case rel => exact ⟨_, (true), tx_, H', ⟨by first | omega | exact Nat.le_refl _⟩, ⟨ti62_ HI0.out⟩, ⟨(tc_ HK.out)⟩, ⟨tu62_ HB.out⟩⟩
  ·
   (first | rw [aA] | (simp only [i64_w, i32_w]; rw [aA]) | skip); have H' := A_ H; clear H; obtain ⟨ASz6_0, cSz6_0, HGz6, hgz6, HSz6_0⟩ := HI0.out; have a4 := cellS62_0 HGz6; have a5 := cellS62_1 HGz6; have a6 := blk_frozen HGz6 1; clear HGz6 hgz6; go_wp2; repeat (go_quiet (fail); try go_wp2)
   go_meet
   case rel => exact ⟨_, (((aa.length : Int) == 0)), tx_, H', ⟨by first | omega | exact Nat.le_refl _⟩, ⟨ti62_ HI0.out⟩, ⟨(tc_ HK.out)⟩, ⟨tu62_ HB.out⟩⟩
 case rest =>
  clear HC3; (try clear aY); (try clear aZ); (try clear a3); obtain ⟨kq, au, rfl, HA, HJ2, HI0, HK, HB⟩ := hcut
  cases kq with
  | zero => exact absurd HA.out (by simp [spec_l20Rd_pick.j0])
  | succ kj2 =>
   have H := HA.out; clear HA; simp only [spec_l20Rd_pick.j0] at H; by_cases c7 : au = true
   ·
    subst c7; replace H : (some (0, (wrap64 (ab + 1)))) = some (r1, r2) := by rw [if_pos rfl] at H; exact H
    simp only [Option.some.injEq, Prod.mk.injEq] at H; obtain ⟨rfl, rfl⟩ := H; go_wp2; repeat (go_quiet (fail); try go_wp2)
    go_ret; exact ⟨tw_, ti62_ HI0.out, tu62_ HB.out, (tc_ HK.out)⟩
   ·
    replace c7 := Bool.eq_false_iff.mpr c7; subst c7; replace H : (if (wrap64 ((wrap64 (ab + 1)) - 1)) < (aa.length : Int) then (if 0 ≤ (wrap64 ((wrap64 (ab + 1)) - 1)) then (if a1 = 0 then (none) else (some (Int.tmod (wrap64 (rd aa (wrap64 ((wrap64 (ab + 1)) - 1)))) a1, (wrap64 (ab + 1))))) else (none)) else (if (aa.length : Int) = 0 then (none) else (if 0 ≤ (Int.tmod (wrap64 ((wrap64 (ab + 1)) - 1)) (aa.length : Int)) then (if (Int.tmod (wrap64 ((wrap64 (ab + 1)) - 1)) (aa.length : Int)) < (aa.length : Int) then (if 0 ≤ (Int.tmod (wrap64 ((wrap64 ((wrap64 ((wrap64 (ab + 1)) - 1)) * 7)) + 3)) (aa.length : Int)) then (if (Int.tmod (wrap64 ((wrap64 ((wrap64 ((wrap64 (ab + 1)) - 1)) * 7)) + 3)) (aa.length : Int)) < (aa.length : Int) then (if a1 = 0 then (none) else (some (Int.tmod (Go.bits .xor .i64 (wrap64 ((wrap64 ((wrap64 ((wrap64 ((wrap64 (rd aa (Int.tmod (wrap64 ((wrap64 (ab + 1)) - 1)) (aa.length : Int)))) * 131)) + (wrap64 ((wrap64 (rd aa (Int.tmod (wrap64 ((wrap64 ((wrap64 ((wrap64 (ab + 1)) - 1)) * 7)) + 3)) (aa.length : Int)))) * 1117)))) + (wrap64 ((wrap64 ((wrap64 (ab + 1)) - 1)) * 29)))) + (wrap64 ((wrap64 (Int.tdiv (wrap64 ((wrap64 (ab + 1)) - 1)) (aa.length : Int))) * 53)))) (wrap64 (Int.tdiv (wrap64 ((wrap64 ((wrap64 ((wrap64 ((wrap64 (rd aa (Int.tmod (wrap64 ((wrap64 (ab + 1)) - 1)) (aa.length : Int)))) * 131)) + (wrap64 ((wrap64 (rd aa (Int.tmod (wrap64 ((wrap64 ((wrap64 ((wrap64 (ab + 1)) - 1)) * 7)) + 3)) (aa.length : Int)))) * 1117)))) + (wrap64 ((wrap64 ((wrap64 (ab + 1)) - 1)) * 29)))) + (wrap64 ((wrap64 (Int.tdiv (wrap64 ((wrap64 (ab + 1)) - 1)) (aa.length : Int))) * 53)))) 64))) a1, (wrap64 (ab + 1))))) else (none)) else (none)) else (none)) else (none)))) = some (r1, r2) := by rw [if_neg (show ¬ (false = true) by decide)] at H; exact H
    by_cases c8 : (wrap64 ((wrap64 (ab + 1)) - 1)) < (aa.length : Int)
    ·
     rw [if_pos c8] at H; have a9 : decide ((wrap64 ((wrap64 (ab + 1)) - 1)) < (aa.length : Int)) = true := decide_eq_true c8; have a9_ := a9; (try simp only [wwl_, wwr_] at a9_); clear c8; obtain ⟨aJ, aE⟩ : ∃ j_ : Int, (wrap64 ((wrap64 (ab + 1)) - 1)) = j_ := ⟨_, rfl⟩
     replace H : (if 0 ≤ (aJ) then (if a1 = 0 then (none) else (some (Int.tmod (wrap64 (rd aa (aJ))) a1, (wrap64 (ab + 1))))) else (none)) = some (r1, r2) := by first | (rw [aE] at H; exact H) | (simp only [aE] at H ⊢; exact H)
     (try rw [aE] at a9); have bu : (IntKind.i64.wrap ((wrap64 (ab + 1)) - 1)) = aJ := (i64_w _).trans aE; replace H := in_ H; obtain ⟨bv, H⟩ := H; by_cases c11 : a1 = 0
     ·
      rw [if_pos c11] at H; cases H
     ·
      rw [if_neg c11] at H; have bw : (a1 == 0) = false := beq_eq_false_iff_ne.mpr c11; have bx : (a1 != 0) = true := bne_iff_ne.mpr c11; simp only [Option.some.injEq, Prod.mk.injEq] at H; obtain ⟨rfl, rfl⟩ := H; obtain ⟨ASz12_0, cSz12_0, HGz12, hgz12, HSz12_0⟩ := HI0.out; have bb := cellS62_0 HGz12; have bc := cellS62_1 HGz12; have bd := blk_frozen HGz12 1; clear HGz12 hgz12; obtain ⟨p168, q168, ad168, e168, av⟩ := a2_ (Kd.at_int HSz12_0 (aJ)); cases e168; replace av := pw_cell_below HB.out av; go_wp2; repeat (go_quiet (fail); try go_wp2)
      go_ret; exact ⟨by first | rfl | (simp [errW_none, errW_some, Option.map_none, Option.map_some] <;> rfl) | (simp only [← aE]; first | rfl | (simp [errW_none, errW_some, Option.map_none, Option.map_some] <;> rfl)) | (simp [*, errW_none, errW_some] <;> rfl), ti62_ HI0.out, tu62_ HB.out, (tc_ HK.out)⟩
    ·
     rw [if_neg c8] at H; have a9 : decide ((wrap64 ((wrap64 (ab + 1)) - 1)) < (aa.length : Int)) = false := decide_eq_false c8; have a9_ := a9; (try simp only [wwl_, wwr_] at a9_); clear c8; by_cases c13 : (aa.length : Int) = 0
     ·
      rw [if_pos c13] at H; cases H
     ·
      rw [if_neg c13] at H; have bz : ((aa.length : Int) == 0) = false := beq_eq_false_iff_ne.mpr c13; have bB : ((aa.length : Int) != 0) = true := bne_iff_ne.mpr c13; have bC : ¬ (aa = []) := fun h_ => c13 (by rw [h_]; rfl); obtain ⟨ah, aF⟩ : ∃ j_ : Int, (Int.tmod (wrap64 ((wrap64 (ab + 1)) - 1)) (aa.length : Int)) = j_ := ⟨_, rfl⟩
      replace H : (if 0 ≤ (ah) then (if (ah) < (aa.length : Int) then (if 0 ≤ (Int.tmod (wrap64 ((wrap64 ((wrap64 ((wrap64 (ab + 1)) - 1)) * 7)) + 3)) (aa.length : Int)) then (if (Int.tmod (wrap64 ((wrap64 ((wrap64 ((wrap64 (ab + 1)) - 1)) * 7)) + 3)) (aa.length : Int)) < (aa.length : Int) then (if a1 = 0 then (none) else (some (Int.tmod (Go.bits .xor .i64 (wrap64 ((wrap64 ((wrap64 ((wrap64 ((wrap64 (rd aa (ah))) * 131)) + (wrap64 ((wrap64 (rd aa (Int.tmod (wrap64 ((wrap64 ((wrap64 ((wrap64 (ab + 1)) - 1)) * 7)) + 3)) (aa.length : Int)))) * 1117)))) + (wrap64 ((wrap64 ((wrap64 (ab + 1)) - 1)) * 29)))) + (wrap64 ((wrap64 (Int.tdiv (wrap64 ((wrap64 (ab + 1)) - 1)) (aa.length : Int))) * 53)))) (wrap64 (Int.tdiv (wrap64 ((wrap64 ((wrap64 ((wrap64 ((wrap64 (rd aa (ah))) * 131)) + (wrap64 ((wrap64 (rd aa (Int.tmod (wrap64 ((wrap64 ((wrap64 ((wrap64 (ab + 1)) - 1)) * 7)) + 3)) (aa.length : Int)))) * 1117)))) + (wrap64 ((wrap64 ((wrap64 (ab + 1)) - 1)) * 29)))) + (wrap64 ((wrap64 (Int.tdiv (wrap64 ((wrap64 (ab + 1)) - 1)) (aa.length : Int))) * 53)))) 64))) a1, (wrap64 (ab + 1))))) else (none)) else (none)) else (none)) else (none)) = some (r1, r2) := by first | (rw [aF] at H; exact H) | (simp only [aF] at H ⊢; exact H)
      replace H := in_ H; obtain ⟨bD, H⟩ := H; replace H := in_ H; obtain ⟨bE, H⟩ := H; obtain ⟨ai, aG⟩ : ∃ j_ : Int, (Int.tmod (wrap64 ((wrap64 ((wrap64 ((wrap64 (ab + 1)) - 1)) * 7)) + 3)) (aa.length : Int)) = j_ := ⟨_, rfl⟩
      replace H : (if 0 ≤ (ai) then (if (ai) < (aa.length : Int) then (if a1 = 0 then (none) else (some (Int.tmod (Go.bits .xor .i64 (wrap64 ((wrap64 ((wrap64 ((wrap64 ((wrap64 (rd aa (ah))) * 131)) + (wrap64 ((wrap64 (rd aa (ai))) * 1117)))) + (wrap64 ((wrap64 ((wrap64 (ab + 1)) - 1)) * 29)))) + (wrap64 ((wrap64 (Int.tdiv (wrap64 ((wrap64 (ab + 1)) - 1)) (aa.length : Int))) * 53)))) (wrap64 (Int.tdiv (wrap64 ((wrap64 ((wrap64 ((wrap64 ((wrap64 (rd aa (ah))) * 131)) + (wrap64 ((wrap64 (rd aa (ai))) * 1117)))) + (wrap64 ((wrap64 ((wrap64 (ab + 1)) - 1)) * 29)))) + (wrap64 ((wrap64 (Int.tdiv (wrap64 ((wrap64 (ab + 1)) - 1)) (aa.length : Int))) * 53)))) 64))) a1, (wrap64 (ab + 1))))) else (none)) else (none)) = some (r1, r2) := by first | (rw [aG] at H; exact H) | (simp only [aG] at H ⊢; exact H)
      replace H := in_ H; obtain ⟨bF, H⟩ := H; replace H := in_ H; obtain ⟨bG, H⟩ := H; by_cases c20 : a1 = 0
      ·
       rw [if_pos c20] at H; cases H
      ·
       rw [if_neg c20] at H; have bH : (a1 == 0) = false := beq_eq_false_iff_ne.mpr c20; have bI : (a1 != 0) = true := bne_iff_ne.mpr c20; simp only [Option.some.injEq, Prod.mk.injEq] at H; obtain ⟨rfl, rfl⟩ := H; obtain ⟨ASz21_0, cSz21_0, HGz21, hgz21, HSz21_0⟩ := HI0.out; have be := cellS62_0 HGz21; have bf := cellS62_1 HGz21; have bg := blk_frozen HGz21 1; clear HGz21 hgz21; obtain ⟨p169, q169, ad169, e169, aw⟩ := a2_ (Kd.at_int HSz21_0 (ah)); cases e169; replace aw := pw_cell_below HB.out aw; have p170 : 0 ≤ ((ai) : Int) := od_; have q170 : (ai) < (aa.length : Int) := od_; obtain ⟨ad170, e170, ax⟩ := Kd.at_int HSz21_0 (ai) p170 q170; obtain rfl : ad169 = ad170 := (by injection e170)
       replace ax := pw_cell_below HB.out ax; replace p170 := eq_true p170; replace q170 := eq_true q170; go_wp2; repeat (go_quiet (fail); try go_wp2)
       go_ret; exact ⟨by first | rfl | (simp [errW_none, errW_some, Option.map_none, Option.map_some] <;> rfl) | (simp only [← aF, ← aG]; first | rfl | (simp [errW_none, errW_some, Option.map_none, Option.map_some] <;> rfl)) | (simp [*, errW_none, errW_some] <;> rfl), ti62_ HI0.out, tu62_ HB.out, (tc_ HK.out)⟩
/-! ### spec_l20Rd_odd: function 32 -/
def spec_l20Rd_odd.f (k : Nat) (aa : List Int) (ab : Int) (a1 : Int) : Option (Bool × Int) := if a1 > 0 then ((spec_l20Rd_pick.f k aa ab a1).bind fun an => (some ((an.1 == (wrap64 (a1 - 1))), an.2))) else (some (false, ab))
theorem spec_l20Rd_odd.mono : ∀ a0 a1 a2 k, LeO (spec_l20Rd_odd.f k a0 a1 a2) (spec_l20Rd_odd.f (k + 1) a0 a1 a2) := by
 intro a0 a1 a2 k; unfold spec_l20Rd_odd.f; repeat' (with_reducible first | exact spec_l20Rd_pick.mono _ _ _ _ | exact mr_ | exact mn_ | refine mi_ ?_ ?_ | refine mb_ ?_ (fun _ => ?_))
theorem spec_l20Rd_odd.calls (k : Nat) (g : Nat) (aa : List Int) (ab : Int) (a1 : Int) (r1 : Bool) (r2 : Int) (w0 w : World) (hI : IsS62 w0 w g aa ab) (hB : Below w0.heap.size w0 w) (h : spec_l20Rd_odd.f k aa ab a1 = some (r1, r2)) :
  Calls Tryz.prog 32 #[.pointer (some ⟨g, 0, none⟩), .int .i64 a1] w fun e w' => e = .returned (.bool r1) ∧ IsS62 w0 w' g aa r2 ∧ Below w0.heap.size w0 w' ∧ KeepBut w w' g none := by
 have HI0 := A_ hI; have HK := A_ (KeepBut.refl w g none); have HL := A_ hB.size; have HLg := A_ hI.lt; clear hI; have HW0 := A_ hB.size; have HB := A_ hB; clear hB; have H : (if a1 > 0 then ((spec_l20Rd_pick.f k aa ab a1).bind fun an => (some ((an.1 == (wrap64 (a1 - 1))), an.2))) else (some (false, ab))) = some (r1, r2) := h; clear h; replace H := ig_ H; rcases H with ⟨bl, H⟩ | ⟨bl, H⟩
 ·
  obtain ⟨⟨bm, bn⟩, A4, H⟩ := bnd_ H; (try dsimp only at H); simp only [Option.some.injEq, Prod.mk.injEq] at H; obtain ⟨rfl, rfl⟩ := H; go_enter Tryz.func32, Tryz.ntmps32; go_wp2_with (first | (go_at_call 31; (with_reducible refine (spec_l20Rd_pick.calls k g aa ab a1 bm bn w0 _ ?s1 ?s2 A4.out).mono ?_); (case s1 => exact ti62_ HI0.out); (case s2 => exact tu62_ HB.out); rintro e w5 ⟨rfl, hi, hb, hk⟩; have n0_ := A_ (KeepBut.trans (tc_ HK.out) hk (.inl rfl)); have n1_ := A_ (hb); have n2_ := A_ (hi); clear HK HB HI0; have HK := n0_; have HB := n1_; have HI0 := n2_; clear n0_ n1_ n2_; (try clear hb hk hi))); go_ret; exact ⟨tw_, ti62_ HI0.out, tu62_ HB.out, (tc_ HK.out)⟩
 ·
  simp only [Option.some.injEq, Prod.mk.injEq] at H; obtain ⟨rfl, rfl⟩ := H; go_enter Tryz.func32, Tryz.ntmps32; go_wp2; go_ret; exact ⟨tw_, ti62_ HI0.out, tu62_ HB.out, (tc_ HK.out)⟩

end Go.Proofs.YtfacponjomafcaaGreatDoor.MFnStoreNew
