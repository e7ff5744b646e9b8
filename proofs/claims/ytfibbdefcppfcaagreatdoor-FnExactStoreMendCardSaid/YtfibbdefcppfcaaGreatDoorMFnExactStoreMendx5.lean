/- For the law FnExactStoreMend: walks of the functions that it reaches: each call returns what the plain function beside it tells. The conditions stand in each statement. -/
import Derived.Test.YtfibbdefcppfcaaGreatDoorV
import Derived.Test.YtfibbdefcppfcaaGreatDoorMFnExactStoreMendx0
import Derived.Test.YtfibbdefcppfcaaGreatDoorMFnExactStoreMendx4
namespace Go.Proofs.YtfibbdefcppfcaaGreatDoor.MFnExactStoreMend
open Go.RowKit Go.Proofs.YtfibbdefcppfcaaGreatDoorW.PrintWords Go.Proofs.YtfibbdefcppfcaaGreatDoorW.PrintLast Go.Proofs.YtfibbdefcppfcaaGreatDoorW.PrintMore
attribute [local go_sem] max2_int min2_int max_two min_two max_three min_three max_four min_four   -- for this text's walks alone
set_option linter.unusedVariables false
set_option linter.unusedSimpArgs false

/-! ### spec_l15Step: function 73 -/
def spec_l15Step.f (k : Nat) (a0 : Int) : Option (ByteArray) := if a0 < 0 then ((spec_l1Number.f k (wrap64 (-a0))).bind fun ap => (if 1 + ap.size ≤ 9223372036854775807 then (some ((⟨#[45]⟩ : ByteArray) ++ ap)) else (none))) else ((spec_l1Number.f k a0).bind fun ax => (some ax))
theorem spec_l15Step.mono : ∀ a0 k, LeO (spec_l15Step.f k a0) (spec_l15Step.f (k + 1) a0) := by
 intro a0 k
 unfold spec_l15Step.f
 repeat' (with_reducible first | exact spec_l1Number.mono _ _ | exact mr_ | exact mn_ | refine mi_ ?_ ?_ | refine mb_ ?_ (fun _ => ?_))
set_option maxHeartbeats 8000000 in
set_option maxRecDepth 100000 in
theorem spec_l15Step.calls (k : Nat) (a0 : Int) (r : ByteArray) (w : World) (h : spec_l15Step.f k a0 = some r) :
  Calls Tryz.prog 73 #[.int .i64 a0] w fun e w' => e = .returned (.string r) ∧ Below w.heap.size w w' := by
 have HB := Aside0.mk (Below.refl w.heap.size w)
 have H : (if a0 < 0 then ((spec_l1Number.f k (wrap64 (-a0))).bind fun ap => (if 1 + ap.size ≤ 9223372036854775807 then (some ((⟨#[45]⟩ : ByteArray) ++ ap)) else (none))) else ((spec_l1Number.f k a0).bind fun ax => (some ax))) = some r := h
 clear h
 by_cases c2 : a0 < 0
 ·
  rw [if_pos c2] at H
  have bf : decide (a0 < 0) = true := decide_eq_true c2
  clear c2
  obtain ⟨ap, A3, H⟩ := bnd_ H
  try dsimp only at H
  by_cases c4 : 1 + ap.size ≤ 9223372036854775807
  ·
   rw [if_pos c4] at H
   have bZ := eq_true c4
   have b0 : decide (1 + ap.size ≤ 9223372036854775807) = true := decide_eq_true c4
   try have b1 : (9223372036854775807 < 1 + ap.size) = False := eq_false (Nat.not_lt.2 c4)
   obtain rfl := Option.some.inj H
   go_enter Tryz.func73, Tryz.ntmps73
   go_wp2_with (first | ((with_reducible refine gate_callee (f := 108) rfl ?_); refine gl_ (some 7) Tryz.func108 #[.int .i64 (wrap64 (-a0))] ?_; (with_reducible refine (spec_l1Number.calls k (wrap64 (-a0)) ap _ A3.out).mono ?_); rintro e w5 ⟨rfl, hb⟩; refine ⟨_, rfl, ?_⟩; replace HB := bs_ HB hb; (try clear hb); (try clear hb2); (try clear hk); (try clear hi)))
   go_ret
   exact ⟨tw_, (tb_ HB.out)⟩
  ·
   rw [if_neg c4] at H
   exact absurd H (by simp)
 ·
  rw [if_neg c2] at H
  have bf : decide (a0 < 0) = false := decide_eq_false c2
  clear c2
  obtain ⟨ax, A6, H⟩ := bnd_ H
  try dsimp only at H
  obtain rfl := Option.some.inj H
  go_enter Tryz.func73, Tryz.ntmps73
  go_wp2_with (first | ((with_reducible refine gate_callee (f := 108) rfl ?_); refine gl_ (some 10) Tryz.func108 #[.int .i64 a0] ?_; (with_reducible refine (spec_l1Number.calls k a0 ax _ A6.out).mono ?_); rintro e w7 ⟨rfl, hb⟩; refine ⟨_, rfl, ?_⟩; replace HB := bs_ HB hb; (try clear hb); (try clear hb2); (try clear hk); (try clear hi)))
  go_ret
  exact ⟨tw_, (tb_ HB.out)⟩

/-! ### spec_PlaceText: function 43 -/
def spec_PlaceText.l0 : Nat → ByteArray → Int → List Int → Int → List Int → Option (ByteArray)
 | 0, _, _, _, _, _ => none
 | k + 1, x3, x4, ar, au, ad => if x4 < (ad.length : Int) then (if x4 = 0 then (if 0 ≤ x4 then (if 0 ≤ (rd ad x4) then (if (rd ad x4) ≤ (wrap64 ((rd ad x4) + 1)) then (if (wrap64 ((rd ad x4) + 1)) ≤ 3 then (if 0 + ((⟨#[97, 98, 99]⟩ : ByteArray).extract ((rd ad x4) : Int).toNat ((wrap64 ((rd ad x4) + 1)) : Int).toNat).size ≤ 9223372036854775807 then (spec_PlaceText.l0 k ((⟨#[]⟩ : ByteArray) ++ ((⟨#[97, 98, 99]⟩ : ByteArray).extract ((rd ad x4) : Int).toNat ((wrap64 ((rd ad x4) + 1)) : Int).toNat)) (wrap64 (x4 + 1)) ar au ad) else (none)) else (none)) else (none)) else (none)) else (none)) else (if 0 ≤ x4 then (if 0 ≤ (rd ad x4) then (if (rd ad x4) ≤ (wrap64 ((rd ad x4) + 1)) then (if (wrap64 ((rd ad x4) + 1)) ≤ 3 then (if x3.size + ((⟨#[97, 98, 99]⟩ : ByteArray).extract ((rd ad x4) : Int).toNat ((wrap64 ((rd ad x4) + 1)) : Int).toNat).size ≤ 9223372036854775807 then (spec_PlaceText.l0 k (x3 ++ ((⟨#[97, 98, 99]⟩ : ByteArray).extract ((rd ad x4) : Int).toNat ((wrap64 ((rd ad x4) + 1)) : Int).toNat)) (wrap64 (x4 + 1)) ar au ad) else (none)) else (none)) else (none)) else (none)) else (none))) else ((spec_l15Row.f k ar).bind fun af => (if af.size + 1 ≤ 9223372036854775807 then ((spec_l15Step.f k au).bind fun ag => (if (af ++ (⟨#[32]⟩ : ByteArray)).size + ag.size ≤ 9223372036854775807 then (if ((af ++ (⟨#[32]⟩ : ByteArray)) ++ ag).size + 1 ≤ 9223372036854775807 then (if (((af ++ (⟨#[32]⟩ : ByteArray)) ++ ag) ++ (⟨#[32]⟩ : ByteArray)).size + x3.size ≤ 9223372036854775807 then (some ((((af ++ (⟨#[32]⟩ : ByteArray)) ++ ag) ++ (⟨#[32]⟩ : ByteArray)) ++ x3)) else (none)) else (none)) else (none))) else (none)))
def spec_PlaceText.f (k : Nat) (ae : List Int) (a0_1 : Int) (ac : List Int) : Option (ByteArray) := (spec_PlaceOk.f k ae a0_1 ac).bind fun ay => (if ay = true then (spec_PlaceText.l0 k (⟨#[46]⟩ : ByteArray) 0 ae a0_1 ac) else (some (⟨#[]⟩ : ByteArray)))
theorem spec_PlaceText.mono_l : ∀ k, (∀ y0 y1 y2 y3 y4, LeO (spec_PlaceText.l0 k y0 y1 y2 y3 y4) (spec_PlaceText.l0 (k + 1) y0 y1 y2 y3 y4))
 | 0 => fun _ _ _ _ _ r h => by simp [spec_PlaceText.l0] at h
 | k + 1 => by
  have ih0 := spec_PlaceText.mono_l k
  ·
   intro y0 y1 y2 y3 y4
   unfold spec_PlaceText.l0
   repeat' (with_reducible first | exact ih0 _ _ _ _ _ | exact spec_PlaceOk.mono _ _ _ _ | exact spec_l15Row.mono _ _ | exact spec_l15Step.mono _ _ | exact mr_ | exact mn_ | refine mi_ ?_ ?_ | refine mb_ ?_ (fun _ => ?_))
theorem spec_PlaceText.mono : ∀ a0 a1 a2 k, LeO (spec_PlaceText.f k a0 a1 a2) (spec_PlaceText.f (k + 1) a0 a1 a2) := by
 intro a0 a1 a2 k
 have ih0 := spec_PlaceText.mono_l k
 unfold spec_PlaceText.f
 repeat' (with_reducible first | exact ih0 _ _ _ _ _ | exact spec_PlaceOk.mono _ _ _ _ | exact spec_l15Row.mono _ _ | exact spec_l15Step.mono _ _ | exact mr_ | exact mn_ | refine mi_ ?_ ?_ | refine mb_ ?_ (fun _ => ?_))
def spec_PlaceText.T9 : Bool × List (List Nat × List Nat) := (true, [([], []), ([], []), ([1], [1]), ([], []), ([2, 3], [2, 3]), ([4], [4]), ([], []), ([6], [6]), ([], []), ([7, 8], [7, 8]), ([9], [9]), ([10], [10]), ([5, 11], [5, 11]), ([0, 12], [0, 12]), ([13, 0, 1, 2, 3, 4, 5, 6, 7, 8, 9, 10, 11, 12, 13], [0, 13])])
def spec_PlaceText.B9 : List Nat := [0, 0, 2, 0, 14, 30, 0, 64, 0, 448, 960, 1984, 4094, 8191, 16383]
theorem spec_PlaceText.tab9 : rtab .any (opsOf Tryz.f43 9) = spec_PlaceText.T9 := by kernel_rfl
theorem spec_PlaceText.bits9 : waitsOk spec_PlaceText.T9.2 spec_PlaceText.B9 = true := by kernel_rfl
def spec_PlaceText.T10 : Bool × List (List Nat × List Nat) := (true, [([], []), ([0], [0]), ([1], [1]), ([2], [2]), ([], []), ([4], [4]), ([5, 2], [5]), ([3, 6], [3, 6]), ([7], [7]), ([], []), ([8, 9], [8, 9]), ([10, 6, 0, 1, 2, 3, 4, 5, 6, 7, 8, 9, 10], [10])])
def spec_PlaceText.B10 : List Nat := [0, 1, 3, 7, 0, 16, 55, 127, 255, 0, 1023, 2047]
theorem spec_PlaceText.tab10 : rtab .any (opsOf Tryz.f43 10) = spec_PlaceText.T10 := by kernel_rfl
theorem spec_PlaceText.bits10 : waitsOk spec_PlaceText.T10.2 spec_PlaceText.B10 = true := by kernel_rfl
set_option maxHeartbeats 8000000 in
set_option maxRecDepth 100000 in
theorem spec_PlaceText.calls (k : Nat) (an : Option Addr) (ao : Nat) (ae : List Int) (a0_1 : Int) (av : Option Addr) (aq : Nat) (ac : List Int) (r : ByteArray) (w : World) (hr0_0 : Kd.C (Kd.int .i64) w an ae.length ae) (hc0_0 : ae.length ≤ ao) (hr0_2 : Kd.C (Kd.int .i64) w av ac.length ac) (hc0_2 : ac.length ≤ aq) (h : spec_PlaceText.f k ae a0_1 ac = some r) :
  Calls Tryz.prog 43 #[.agg #[.slice an ae.length ao, .int .i64 a0_1, .slice av ac.length aq]] w fun e w' => e = .returned (.string r) ∧ Below w.heap.size w w' := by
 have hu39 := Tryz.underlying39
 have bj := Aside0.mk hr0_0
 have az := Aside0.mk hc0_0
 clear hr0_0 hc0_0
 have aw := Aside0.mk hr0_2
 have aA := Aside0.mk hc0_2
 clear hr0_2 hc0_2
 have HB := Aside0.mk (Below.refl w.heap.size w)
 have H : ((spec_PlaceOk.f k ae a0_1 ac).bind fun ay => (if ay = true then (spec_PlaceText.l0 k (⟨#[46]⟩ : ByteArray) 0 ae a0_1 ac) else (some (⟨#[]⟩ : ByteArray)))) = some r := h
 clear h
 obtain ⟨ay, A2, H⟩ := bnd_ H
 try dsimp only at H
 by_cases c3 : ay = true
 ·
  subst c3
  have H1 : (spec_PlaceText.l0 k (⟨#[46]⟩ : ByteArray) 0 ae a0_1 ac) = some r := by rw [if_pos rfl] at H; exact H
  clear H
  have H := H1
  clear H1
  have H' := Aside0.mk H
  clear H
  go_enter Tryz.func43, Tryz.ntmps43
  go_wp2_with (first | ((with_reducible refine gate_dst (N := 1) rfl ?_); refine box_event ?hg (N := 1) ?hd (cs := #[.slice an ae.length ao, .int .i64 a0_1, .slice av ac.length aq]) (t := 39) ?hr ?_; (case hd => rfl); (case hg => rfl); (case hr => first | (go_simp; done) | (go_simp; rfl)); intro ah hg w4 hbox hb; have aa := Aside0.mk (hbox); have aJ := gx_ HB hg; have aK := gx_ HB hg; replace HB := bs_ HB hb; clear hb hbox hg; have aD := cz_ aa 0; have aE := cz_ aa 1; have aF := cz_ aa 2; have aG := blk_frozen aa.out 0; have aH := blk_frozen aa.out 1; have aI := blk_frozen aa.out 2) | ((with_reducible refine gate_callee (f := 61) rfl ?_); refine gl_ (some 6) Tryz.func61 #[.agg #[.slice an ae.length ao, .int .i64 a0_1, .slice av ac.length aq]] ?_; (with_reducible refine (spec_PlaceOk.calls k _ _ ae a0_1 _ _ ac true _ ?s1 ?s2 ?s3 ?s4 A2.out).mono ?_); (case s1 => exact tD_); (case s2 => exact az.out); (case s3 => exact tD_); (case s4 => exact aA.out); rintro e w6 ⟨rfl, hb⟩; refine ⟨_, rfl, ?_⟩; replace aa := bb_ aa hb; replace HB := bs_ HB hb; (try clear hb); (try clear hb2); (try clear hk); (try clear hi)))
  go_loopg [3, 4] k (fun kq v3 v4 w' => ∃ (am : ByteArray) (ab : Int), v3 = .string am ∧ v4 = .int .i64 ab ∧ Aside0 (spec_PlaceText.l0 kq am ab ae a0_1 ac = some r) ∧ Aside0 (kq ≤ k) ∧ Aside0 (w'.heap[ah]? = some (.cells #[(.slice an ae.length ao), .int .i64 a0_1, (.slice av ac.length aq)] 39 (0, 0))) ∧ Aside0 (Below w.heap.size w w'))
  case atStart => exact ⟨((⟨#[46]⟩ : ByteArray)), (0), tx_, tx_, H', ⟨Nat.le_refl _⟩, ⟨tk_ aa.out⟩, ⟨(tb_ HB.out)⟩⟩
  case round =>
   clear H'
   try clear p2
   try clear c3
   try clear c4
   try clear c6
   try clear aD
   try clear aE
   try clear aF
   try clear aG
   try clear aH
   try clear aI
   obtain ⟨am, ab, rfl, rfl, HA, HK1, aa, HB⟩ := hrel
   cases gk with
   | zero => exact absurd HA.out (by simp [spec_PlaceText.l0])
   | succ k1 =>
    have H := HA.out
    clear HA
    simp only [spec_PlaceText.l0] at H
    by_cases c7 : ab < (ac.length : Int)
    ·
     rw [if_pos c7] at H
     have bg : decide (ab < (ac.length : Int)) = true := decide_eq_true c7
     clear c7
     by_cases c8 : ab = 0
     ·
      rw [if_pos c8] at H
      have bh : (ab == 0) = true := beq_iff_eq.mpr c8
      have bi : (ab != 0) = false := bne_eq_false_iff_eq.mpr c8
      clear c8
      by_cases c9 : 0 ≤ ab
      ·
       rw [if_pos c9] at H
       have b2 : decide (0 ≤ ab) = true := decide_eq_true c9
       clear c9
       by_cases c10 : 0 ≤ (rd ac ab)
       ·
        rw [if_pos c10] at H
        have bk := eq_true c10
        have bl : decide (0 ≤ (rd ac ab)) = true := decide_eq_true c10
        clear c10
        by_cases c11 : (rd ac ab) ≤ (wrap64 ((rd ac ab) + 1))
        ·
         rw [if_pos c11] at H
         have bm := eq_true c11
         have bn : decide ((rd ac ab) ≤ (wrap64 ((rd ac ab) + 1))) = true := decide_eq_true c11
         by_cases c12 : (wrap64 ((rd ac ab) + 1)) ≤ 3
         ·
          rw [if_pos c12] at H
          have bo := eq_true c12
          have bp : decide ((wrap64 ((rd ac ab) + 1)) ≤ 3) = true := decide_eq_true c12
          by_cases c13 : 0 + ((⟨#[97, 98, 99]⟩ : ByteArray).extract ((rd ac ab) : Int).toNat ((wrap64 ((rd ac ab) + 1)) : Int).toNat).size ≤ 9223372036854775807
          ·
           rw [if_pos c13] at H
           have bq := eq_true c13
           have br : decide (0 + ((⟨#[97, 98, 99]⟩ : ByteArray).extract ((rd ac ab) : Int).toNat ((wrap64 ((rd ac ab) + 1)) : Int).toNat).size ≤ 9223372036854775807) = true := decide_eq_true c13
           try have bs : (9223372036854775807 < 0 + ((⟨#[97, 98, 99]⟩ : ByteArray).extract ((rd ac ab) : Int).toNat ((wrap64 ((rd ac ab) + 1)) : Int).toNat).size) = False := eq_false (Nat.not_lt.2 c13)
           try have bu : (9223372036854775807 < 0 + (((⟨#[97, 98, 99]⟩ : ByteArray).extract ((rd ac ab) : Int).toNat ((wrap64 ((rd ac ab) + 1)) : Int).toNat).size)) = False := eq_false (by have h := c13; simp only [ByteArray.size_append] at h; simp only [ByteArray.size] at h ⊢; simp at h ⊢; omega)
           try have aB := c13
           try simp only [ByteArray.size_append, ByteArray.size_extract] at aB
           try simp only [show (⟨#[97, 98, 99]⟩ : ByteArray).size = 3 from rfl] at aB
           have H' := Aside0.mk H
           clear H
           have aL := cz_ aa 0
           have aM := cz_ aa 1
           have aN := cz_ aa 2
           have aO := blk_frozen aa.out 0
           have aP := blk_frozen aa.out 1
           have aQ := blk_frozen aa.out 2
           try go_wp2
           replace aa := dB_ aa
           replace HB := Aside0.mk (ld_ HB.out)
           have p184 : 0 ≤ (ab : Int) := od_
           have q184 : ab < (ac.length : Int) := od_
           obtain ⟨ad184, e184, ai⟩ := Kd.at_int aw.out ab p184 q184
           have hw184_0 := ai
           cases e184
           replace ai := (HB.out.cell (World.block_lt_of_cell? w _ ai)).trans ai
           replace p184 := eq_true p184
           replace q184 := eq_true q184
           have p185 : 0 ≤ (ab : Int) := od_
           have q185 : ab < (ac.length : Int) := od_
           obtain ⟨ad185, e185, aj⟩ := Kd.at_int aw.out ab p185 q185
           have hw185_0 := aj
           obtain rfl : ad184 = ad185 := (by injection e185)
           replace aj := (HB.out.cell (World.block_lt_of_cell? w _ aj)).trans aj
           replace p185 := eq_true p185
           replace q185 := eq_true q185
           refine start_ (n := 15) (S := fun w' => w'.cell? ⟨ah, 0, none⟩ = some (.slice an ae.length ao) ∧ w'.cell? ⟨ah, 1, none⟩ = some (.int .i64 a0_1) ∧ w'.cell? ⟨ah, 2, none⟩ = some (.slice (some ad184) ac.length aq) ∧ w'.cell? (ad184.add (ab).toNat) = some (.int .i64 (rd ac ab)) ∧ w'.cell? (ad184.add (ab).toNat) = some (.int .i64 (rd ac ab))) (ds := []) #[false, false, false, false, false, false, false, false, false, false, false, false, false, false, false] (by kernel_rfl) rfl rfl ⟨(blk_cell aa.out 0).trans rfl, (blk_cell aa.out 1).trans rfl, (blk_cell aa.out 2).trans rfl, ((HB.out.cell (World.block_lt_of_cell? w _ hw184_0)).trans hw184_0), ((HB.out.cell (World.block_lt_of_cell? w _ hw185_0)).trans hw185_0)⟩ (fun hHeld => ?_); refine with_tabW spec_PlaceText.tab9 spec_PlaceText.bits9 (fun HT_ HW_ => ?_)
           generalize wr.drew = b3 at aa HB ai aj hHeld ⊢
           refine pu_ 0 (some 17) #[true, false, false, false, false, false, false, false, false, false, false, false, false, false, false] HT_ rfl rfl ?_
           refine pu_ 1 (some 18) #[true, true, false, false, false, false, false, false, false, false, false, false, false, false, false] HT_ rfl rfl ?_
           refine pu_ 3 (some 20) #[true, true, false, true, false, false, false, false, false, false, false, false, false, false, false] HT_ rfl rfl ?_
           refine pu_ 6 (some 23) #[true, true, false, true, false, false, true, false, false, false, false, false, false, false, false] HT_ rfl rfl ?_
           refine pu_ 8 (some 25) #[true, true, false, true, false, false, true, false, true, false, false, false, false, false, false] HT_ rfl rfl ?_
           refine ta_ 2 (some 19) #[true, true, true, true, false, false, true, false, true, false, false, false, false, false, false] HT_ HW_ hHeld rfl rfl ?_
           refine pu_ 4 (some 21) #[true, true, true, true, true, false, true, false, true, false, false, false, false, false, false] HT_ rfl rfl ?_
           refine ta_ 5 (some 22) #[true, true, true, true, true, true, true, false, true, false, false, false, false, false, false] HT_ HW_ hHeld rfl rfl ?_
           refine ta_ 7 (some 24) #[true, true, true, true, true, true, true, true, true, false, false, false, false, false, false] HT_ HW_ hHeld rfl rfl ?_
           refine pu_ 9 (some 26) #[true, true, true, true, true, true, true, true, true, true, false, false, false, false, false] HT_ rfl rfl ?_
           refine ta_ 10 (some 27) #[true, true, true, true, true, true, true, true, true, true, true, false, false, false, false] HT_ HW_ hHeld rfl rfl ?_
           refine pu_ 11 (some 28) #[true, true, true, true, true, true, true, true, true, true, true, true, false, false, false] HT_ rfl rfl ?_
           refine pu_ 12 (some 29) #[true, true, true, true, true, true, true, true, true, true, true, true, true, false, false] HT_ rfl rfl ?_
           refine pu_ 13 (some 30) #[true, true, true, true, true, true, true, true, true, true, true, true, true, true, false] HT_ rfl rfl ?_
           refine pu_ 14 (some 3) #[true, true, true, true, true, true, true, true, true, true, true, true, true, true, true] HT_ rfl rfl ?_
           refine done_ (done_of HT_.out (by kernel_rfl)) ?_
           try go_wp2
           go_roundg k1
           case measure => have := HK1.out; omega
           case rel => exact ⟨((⟨#[]⟩ : ByteArray) ++ ((⟨#[97, 98, 99]⟩ : ByteArray).extract ((rd ac ab) : Int).toNat ((wrap64 ((rd ac ab) + 1)) : Int).toNat)), (wrap64 (ab + 1)), tx_, tx_, H', ⟨by have := HK1.out; omega⟩, ⟨tk_ aa.out⟩, ⟨(tb_ HB.out)⟩⟩
          ·
           rw [if_neg c13] at H
           exact absurd H (by simp)
         ·
          rw [if_neg c12] at H
          exact absurd H (by simp)
        ·
         rw [if_neg c11] at H
         exact absurd H (by simp)
       ·
        rw [if_neg c10] at H
        exact absurd H (by simp)
      ·
       rw [if_neg c9] at H
       exact absurd H (by simp)
     ·
      rw [if_neg c8] at H
      have bh : (ab == 0) = false := beq_eq_false_iff_ne.mpr c8
      have bi : (ab != 0) = true := bne_iff_ne.mpr c8
      by_cases c16 : 0 ≤ ab
      ·
       rw [if_pos c16] at H
       have bv : decide (0 ≤ ab) = true := decide_eq_true c16
       clear c16
       by_cases c17 : 0 ≤ (rd ac ab)
       ·
        rw [if_pos c17] at H
        have bw := eq_true c17
        have bx : decide (0 ≤ (rd ac ab)) = true := decide_eq_true c17
        clear c17
        by_cases c18 : (rd ac ab) ≤ (wrap64 ((rd ac ab) + 1))
        ·
         rw [if_pos c18] at H
         have bz := eq_true c18
         have bB : decide ((rd ac ab) ≤ (wrap64 ((rd ac ab) + 1))) = true := decide_eq_true c18
         by_cases c19 : (wrap64 ((rd ac ab) + 1)) ≤ 3
         ·
          rw [if_pos c19] at H
          have bC := eq_true c19
          have bD : decide ((wrap64 ((rd ac ab) + 1)) ≤ 3) = true := decide_eq_true c19
          by_cases c20 : am.size + ((⟨#[97, 98, 99]⟩ : ByteArray).extract ((rd ac ab) : Int).toNat ((wrap64 ((rd ac ab) + 1)) : Int).toNat).size ≤ 9223372036854775807
          ·
           rw [if_pos c20] at H
           have bE := eq_true c20
           have bF : decide (am.size + ((⟨#[97, 98, 99]⟩ : ByteArray).extract ((rd ac ab) : Int).toNat ((wrap64 ((rd ac ab) + 1)) : Int).toNat).size ≤ 9223372036854775807) = true := decide_eq_true c20
           try have bG : (9223372036854775807 < am.size + ((⟨#[97, 98, 99]⟩ : ByteArray).extract ((rd ac ab) : Int).toNat ((wrap64 ((rd ac ab) + 1)) : Int).toNat).size) = False := eq_false (Nat.not_lt.2 c20)
           try have bH : (9223372036854775807 < am.size + (((⟨#[97, 98, 99]⟩ : ByteArray).extract ((rd ac ab) : Int).toNat ((wrap64 ((rd ac ab) + 1)) : Int).toNat).size)) = False := eq_false (by have h := c20; simp only [ByteArray.size_append] at h; simp only [ByteArray.size] at h ⊢; simp at h ⊢; omega)
           try have aC := c20
           try simp only [ByteArray.size_append, ByteArray.size_extract] at aC
           try simp only [show (⟨#[97, 98, 99]⟩ : ByteArray).size = 3 from rfl] at aC
           have H' := Aside0.mk H
           clear H
           have aR := cz_ aa 0
           have aU := cz_ aa 1
           have aV := cz_ aa 2
           have aW := blk_frozen aa.out 0
           have aX := blk_frozen aa.out 1
           have aY := blk_frozen aa.out 2
           try go_wp2
           replace aa := dB_ aa
           replace HB := Aside0.mk (ld_ HB.out)
           have p186 : 0 ≤ (ab : Int) := od_
           have q186 : ab < (ac.length : Int) := od_
           obtain ⟨ad186, e186, ak⟩ := Kd.at_int aw.out ab p186 q186
           have hw186_0 := ak
           cases e186
           replace ak := (HB.out.cell (World.block_lt_of_cell? w _ ak)).trans ak
           replace p186 := eq_true p186
           replace q186 := eq_true q186
           have p187 : 0 ≤ (ab : Int) := od_
           have q187 : ab < (ac.length : Int) := od_
           obtain ⟨ad187, e187, al⟩ := Kd.at_int aw.out ab p187 q187
           have hw187_0 := al
           obtain rfl : ad186 = ad187 := (by injection e187)
           replace al := (HB.out.cell (World.block_lt_of_cell? w _ al)).trans al
           replace p187 := eq_true p187
           replace q187 := eq_true q187
           refine start_ (n := 15) (S := fun w' => w'.cell? ⟨ah, 0, none⟩ = some (.slice an ae.length ao) ∧ w'.cell? ⟨ah, 1, none⟩ = some (.int .i64 a0_1) ∧ w'.cell? ⟨ah, 2, none⟩ = some (.slice (some ad186) ac.length aq) ∧ w'.cell? (ad186.add (ab).toNat) = some (.int .i64 (rd ac ab)) ∧ w'.cell? (ad186.add (ab).toNat) = some (.int .i64 (rd ac ab))) (ds := []) #[false, false, false, false, false, false, false, false, false, false, false, false, false, false, false] (by kernel_rfl) rfl rfl ⟨(blk_cell aa.out 0).trans rfl, (blk_cell aa.out 1).trans rfl, (blk_cell aa.out 2).trans rfl, ((HB.out.cell (World.block_lt_of_cell? w _ hw186_0)).trans hw186_0), ((HB.out.cell (World.block_lt_of_cell? w _ hw187_0)).trans hw187_0)⟩ (fun hHeld => ?_); refine with_tabW spec_PlaceText.tab9 spec_PlaceText.bits9 (fun HT_ HW_ => ?_)
           generalize wr.drew = b4 at aa HB ak al hHeld ⊢
           refine pu_ 0 (some 17) #[true, false, false, false, false, false, false, false, false, false, false, false, false, false, false] HT_ rfl rfl ?_
           refine pu_ 1 (some 18) #[true, true, false, false, false, false, false, false, false, false, false, false, false, false, false] HT_ rfl rfl ?_
           refine pu_ 3 (some 20) #[true, true, false, true, false, false, false, false, false, false, false, false, false, false, false] HT_ rfl rfl ?_
           refine pu_ 6 (some 23) #[true, true, false, true, false, false, true, false, false, false, false, false, false, false, false] HT_ rfl rfl ?_
           refine pu_ 8 (some 25) #[true, true, false, true, false, false, true, false, true, false, false, false, false, false, false] HT_ rfl rfl ?_
           refine ta_ 2 (some 19) #[true, true, true, true, false, false, true, false, true, false, false, false, false, false, false] HT_ HW_ hHeld rfl rfl ?_
           refine pu_ 4 (some 21) #[true, true, true, true, true, false, true, false, true, false, false, false, false, false, false] HT_ rfl rfl ?_
           refine ta_ 5 (some 22) #[true, true, true, true, true, true, true, false, true, false, false, false, false, false, false] HT_ HW_ hHeld rfl rfl ?_
           refine ta_ 7 (some 24) #[true, true, true, true, true, true, true, true, true, false, false, false, false, false, false] HT_ HW_ hHeld rfl rfl ?_
           refine pu_ 9 (some 26) #[true, true, true, true, true, true, true, true, true, true, false, false, false, false, false] HT_ rfl rfl ?_
           refine ta_ 10 (some 27) #[true, true, true, true, true, true, true, true, true, true, true, false, false, false, false] HT_ HW_ hHeld rfl rfl ?_
           refine pu_ 11 (some 28) #[true, true, true, true, true, true, true, true, true, true, true, true, false, false, false] HT_ rfl rfl ?_
           refine pu_ 12 (some 29) #[true, true, true, true, true, true, true, true, true, true, true, true, true, false, false] HT_ rfl rfl ?_
           refine pu_ 13 (some 30) #[true, true, true, true, true, true, true, true, true, true, true, true, true, true, false] HT_ rfl rfl ?_
           refine pu_ 14 (some 3) #[true, true, true, true, true, true, true, true, true, true, true, true, true, true, true] HT_ rfl rfl ?_
           refine done_ (done_of HT_.out (by kernel_rfl)) ?_
           try go_wp2
           go_roundg k1
           case measure => have := HK1.out; omega
           case rel => exact ⟨(am ++ ((⟨#[97, 98, 99]⟩ : ByteArray).extract ((rd ac ab) : Int).toNat ((wrap64 ((rd ac ab) + 1)) : Int).toNat)), (wrap64 (ab + 1)), tx_, tx_, H', ⟨by have := HK1.out; omega⟩, ⟨tk_ aa.out⟩, ⟨(tb_ HB.out)⟩⟩
          ·
           rw [if_neg c20] at H
           exact absurd H (by simp)
         ·
          rw [if_neg c19] at H
          exact absurd H (by simp)
        ·
         rw [if_neg c18] at H
         exact absurd H (by simp)
       ·
        rw [if_neg c17] at H
        exact absurd H (by simp)
      ·
       rw [if_neg c16] at H
       exact absurd H (by simp)
    ·
     rw [if_neg c7] at H
     have bg : decide (ab < (ac.length : Int)) = false := decide_eq_false c7
     clear c7
     obtain ⟨af, A23, H⟩ := bnd_ H
     try dsimp only at H
     by_cases c24 : af.size + 1 ≤ 9223372036854775807
     ·
      rw [if_pos c24] at H
      have bI := eq_true c24
      have bJ : decide (af.size + 1 ≤ 9223372036854775807) = true := decide_eq_true c24
      try have bK : (9223372036854775807 < af.size + 1) = False := eq_false (Nat.not_lt.2 c24)
      obtain ⟨ag, A25, H⟩ := bnd_ H
      try dsimp only at H
      by_cases c26 : (af ++ (⟨#[32]⟩ : ByteArray)).size + ag.size ≤ 9223372036854775807
      ·
       rw [if_pos c26] at H
       have bL := eq_true c26
       have bM : decide ((af ++ (⟨#[32]⟩ : ByteArray)).size + ag.size ≤ 9223372036854775807) = true := decide_eq_true c26
       try have bN : (9223372036854775807 < (af ++ (⟨#[32]⟩ : ByteArray)).size + ag.size) = False := eq_false (Nat.not_lt.2 c26)
       try have bO : (9223372036854775807 < af.size + 1 + ag.size) = False := eq_false (by have h := c26; simp only [ByteArray.size_append] at h; simp only [ByteArray.size] at h ⊢; simp at h ⊢; omega)
       by_cases c27 : ((af ++ (⟨#[32]⟩ : ByteArray)) ++ ag).size + 1 ≤ 9223372036854775807
       ·
        rw [if_pos c27] at H
        have bP := eq_true c27
        have bQ : decide (((af ++ (⟨#[32]⟩ : ByteArray)) ++ ag).size + 1 ≤ 9223372036854775807) = true := decide_eq_true c27
        try have bR : (9223372036854775807 < ((af ++ (⟨#[32]⟩ : ByteArray)) ++ ag).size + 1) = False := eq_false (Nat.not_lt.2 c27)
        try have bS : (9223372036854775807 < af.size + 1 + ag.size + 1) = False := eq_false (by have h := c27; simp only [ByteArray.size_append] at h; simp only [ByteArray.size] at h ⊢; simp at h ⊢; omega)
        by_cases c28 : (((af ++ (⟨#[32]⟩ : ByteArray)) ++ ag) ++ (⟨#[32]⟩ : ByteArray)).size + am.size ≤ 9223372036854775807
        ·
         rw [if_pos c28] at H
         have bU := eq_true c28
         have bV : decide ((((af ++ (⟨#[32]⟩ : ByteArray)) ++ ag) ++ (⟨#[32]⟩ : ByteArray)).size + am.size ≤ 9223372036854775807) = true := decide_eq_true c28
         try have bW : (9223372036854775807 < (((af ++ (⟨#[32]⟩ : ByteArray)) ++ ag) ++ (⟨#[32]⟩ : ByteArray)).size + am.size) = False := eq_false (Nat.not_lt.2 c28)
         try have bX : (9223372036854775807 < af.size + 1 + ag.size + 1 + am.size) = False := eq_false (by have h := c28; simp only [ByteArray.size_append] at h; simp only [ByteArray.size] at h ⊢; simp at h ⊢; omega)
         obtain rfl := Option.some.inj H
         have aZ := cz_ aa 0
         have a3 := cz_ aa 1
         have a4 := cz_ aa 2
         have a5 := blk_frozen aa.out 0
         have a6 := blk_frozen aa.out 1
         have a7 := blk_frozen aa.out 2
         try go_wp2
         replace aa := dB_ aa
         replace HB := Aside0.mk (ld_ HB.out)
         refine start_ (n := 12) (S := fun w' => w'.cell? ⟨ah, 0, none⟩ = some (.slice an ae.length ao) ∧ w'.cell? ⟨ah, 1, none⟩ = some (.int .i64 a0_1) ∧ w'.cell? ⟨ah, 2, none⟩ = some (.slice av ac.length aq)) (ds := []) #[false, false, false, false, false, false, false, false, false, false, false, false] (by kernel_rfl) rfl rfl hh_ (fun hHeld => ?_); refine with_tabW spec_PlaceText.tab10 spec_PlaceText.bits10 (fun HT_ HW_ => ?_)
         generalize wr.drew = b5 at aa HB hHeld ⊢
         refine pu_ 0 (some 31) #[true, false, false, false, false, false, false, false, false, false, false, false] HT_ rfl rfl ?_
         refine pu_ 4 (some 35) #[true, false, false, false, true, false, false, false, false, false, false, false] HT_ rfl rfl ?_
         refine pu_ 9 (some 40) #[true, false, false, false, true, false, false, false, false, true, false, false] HT_ rfl rfl ?_
         refine ta_ 1 (some 32) #[true, true, false, false, true, false, false, false, false, true, false, false] HT_ HW_ hHeld rfl rfl ?_
         refine ta_ 5 (some 36) #[true, true, false, false, true, true, false, false, false, true, false, false] HT_ HW_ hHeld rfl rfl ?_
         refine one_ (i := 2) (N := some 33) #[true, true, true, false, true, true, false, false, false, true, false, false] rfl rfl (one_of HT_.out (by kernel_rfl)) (by decide) (fun K hK => ?_)
         refine goes_ Tryz.func72 (by kernel_rfl) rfl #[.slice an ae.length ao] (by rfl) rfl rfl tz_ ?_
         with_reducible refine (spec_l15Row.calls k1 _ _ ae af _ ?s1 ?s2 A23.out).mono ?_
         (case s1 => exact tD_)
         (case s2 => exact az.out)
         rintro e b6 ⟨rfl, hb⟩
         refine ⟨_, rfl, ?_⟩
         replace aa := bb_ aa hb
         replace HB := bs_ HB hb
         (try clear hb)
         (try clear hb2)
         (try clear hk)
         (try clear hi)
         refine hK.out _ _ hh_ (fun hHeld => ?_)
         clear hK K
         refine nr_ 33 ?_
         refine pu_ 3 (some 34) #[true, true, true, true, true, true, false, false, false, true, false, false] HT_ rfl rfl ?_
         refine one_ (i := 6) (N := some 37) #[true, true, true, true, true, true, true, false, false, true, false, false] rfl rfl (one_of HT_.out (by kernel_rfl)) (by decide) (fun K hK => ?_)
         refine goes_ Tryz.func73 (by kernel_rfl) rfl #[.int .i64 a0_1] (by rfl) rfl rfl tz_ ?_
         with_reducible refine (spec_l15Step.calls k1 a0_1 ag _ A25.out).mono ?_
         rintro e b7 ⟨rfl, hb⟩
         refine ⟨_, rfl, ?_⟩
         replace aa := bb_ aa hb
         replace HB := bs_ HB hb
         (try clear hb)
         (try clear hb2)
         (try clear hk)
         (try clear hi)
         refine hK.out _ _ hh_ (fun hHeld => ?_)
         clear hK K
         refine nr_ 37 ?_
         refine pu_ 7 (some 38) #[true, true, true, true, true, true, true, true, false, true, false, false] HT_ rfl rfl ?_
         refine pu_ 8 (some 39) #[true, true, true, true, true, true, true, true, true, true, false, false] HT_ rfl rfl ?_
         refine pu_ 10 (some 41) #[true, true, true, true, true, true, true, true, true, true, true, false] HT_ rfl rfl ?_
         refine pu_ 11 (some 2) #[true, true, true, true, true, true, true, true, true, true, true, true] HT_ rfl rfl ?_
         refine done_ (done_of HT_.out (by kernel_rfl)) ?_
         try go_wp2
         go_ret
         exact ⟨tw_, (tb_ HB.out)⟩
        ·
         rw [if_neg c28] at H
         exact absurd H (by simp)
       ·
        rw [if_neg c27] at H
        exact absurd H (by simp)
      ·
       rw [if_neg c26] at H
       exact absurd H (by simp)
     ·
      rw [if_neg c24] at H
      exact absurd H (by simp)
 ·
  replace c3 := Bool.eq_false_iff.mpr c3
  subst c3
  have H1 : (some (⟨#[]⟩ : ByteArray)) = some r := by rw [if_neg (show ¬ (false = true) by decide)] at H; exact H
  clear H
  have H := H1
  clear H1
  obtain rfl := Option.some.inj H
  go_enter Tryz.func43, Tryz.ntmps43
  go_wp2_with (first | ((with_reducible refine gate_dst (N := 1) rfl ?_); refine box_event ?hg (N := 1) ?hd (cs := #[.slice an ae.length ao, .int .i64 a0_1, .slice av ac.length aq]) (t := 39) ?hr ?_; (case hd => rfl); (case hg => rfl); (case hr => first | (go_simp; done) | (go_simp; rfl)); intro ah hg b8 hbox hb; have aa := Aside0.mk (hbox); have aJ := gx_ HB hg; have aK := gx_ HB hg; replace HB := bs_ HB hb; clear hb hbox hg; have a8 := cz_ aa 0; have a9 := cz_ aa 1; have bb := cz_ aa 2; have bc := blk_frozen aa.out 0; have bd := blk_frozen aa.out 1; have be := blk_frozen aa.out 2) | ((with_reducible refine gate_callee (f := 61) rfl ?_); refine gl_ (some 6) Tryz.func61 #[.agg #[.slice an ae.length ao, .int .i64 a0_1, .slice av ac.length aq]] ?_; (with_reducible refine (spec_PlaceOk.calls k _ _ ae a0_1 _ _ ac false _ ?s1 ?s2 ?s3 ?s4 A2.out).mono ?_); (case s1 => exact tD_); (case s2 => exact az.out); (case s3 => exact tD_); (case s4 => exact aA.out); rintro e b9 ⟨rfl, hb⟩; refine ⟨_, rfl, ?_⟩; replace aa := bb_ aa hb; replace HB := bs_ HB hb; (try clear hb); (try clear hb2); (try clear hk); (try clear hi)))
  go_ret
  exact ⟨tw_, (tb_ HB.out)⟩

end Go.Proofs.YtfibbdefcppfcaaGreatDoor.MFnExactStoreMend
