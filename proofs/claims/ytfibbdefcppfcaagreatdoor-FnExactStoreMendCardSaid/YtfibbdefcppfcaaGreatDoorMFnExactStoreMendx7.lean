/- For the law FnExactStoreMend: walks of the functions that it reaches: each call returns what the plain function beside it tells. The conditions stand in each statement. -/
import Derived.Test.YtfibbdefcppfcaaGreatDoorV
import Derived.Test.YtfibbdefcppfcaaGreatDoorMFnExactStoreMendx0
import Derived.Test.YtfibbdefcppfcaaGreatDoorMFnExactStoreMendx5
import Derived.Test.YtfibbdefcppfcaaGreatDoorMFnExactStoreMendx6
namespace Go.Proofs.YtfibbdefcppfcaaGreatDoor.MFnExactStoreMend
open Go.RowKit Go.Proofs.YtfibbdefcppfcaaGreatDoorW.PrintWords Go.Proofs.YtfibbdefcppfcaaGreatDoorW.PrintLast Go.Proofs.YtfibbdefcppfcaaGreatDoorW.PrintMore
attribute [local go_sem] max2_int min2_int max_two min_two max_three min_three max_four min_four   -- for this text's walks alone
set_option linter.unusedVariables false
set_option linter.unusedSimpArgs false

/-! ### spec_ReadPlace: function 50 -/
mutual
def spec_ReadPlace.l0 : Nat → ByteArray → List ByteArray → List ByteArray → Int → List Int → Int → Option (List Int × Int × List Int × Bool)
 | 0, _, _, _, _, _, _ => none
 | k + 1, x0, x4, x6, x7, ar, au => if x7 < (x6.length : Int) then (if 0 ≤ x7 then ((spec_l1Digits.f k (rdOf ByteArray.empty x6 x7)).bind fun aR => (if ar.length < 17592186044416 then (spec_ReadPlace.l0 k x0 x4 x6 (wrap64 (x7 + 1)) (ar ++ [aR]) au) else (none))) else (none)) else (spec_ReadPlace.l1 k x0 x4 0 ar au ([] : List Int))
def spec_ReadPlace.l1 : Nat → ByteArray → List ByteArray → Int → List Int → Int → List Int → Option (List Int × Int × List Int × Bool)
 | 0, _, _, _, _, _, _ => none
 | k + 1, x0, x4, x8, ar, au, aw => if 2 < (x4.length : Int) then (if x8 < ((rdOf ByteArray.empty x4 2).size : Int) then (if (rdOf ByteArray.empty x4 2).toList = ([46] : List UInt8) then (if x0.toList = ([] : List UInt8) then (some (([] : List Int), 0, ([] : List Int), false)) else ((spec_PlaceText.f k ar au aw).bind fun aD => (if aD.toList = x0.toList then (some (ar, au, aw, true)) else (some (([] : List Int), 0, ([] : List Int), false))))) else (if 0 ≤ x8 then (if aw.length < 17592186044416 then (spec_ReadPlace.l1 k x0 x4 (wrap64 (x8 + 1)) ar au (aw ++ [wrap64 ((wrap64 (bt (rdOf ByteArray.empty x4 2) x8)) - 97)])) else (none)) else (none))) else (if x0.toList = ([] : List UInt8) then (some (([] : List Int), 0, ([] : List Int), false)) else ((spec_PlaceText.f k ar au aw).bind fun aE => (if aE.toList = x0.toList then (some (ar, au, aw, true)) else (some (([] : List Int), 0, ([] : List Int), false)))))) else (none)
end
def spec_ReadPlace.f (k : Nat) (a0 : ByteArray) : Option (List Int × Int × List Int × Bool) := (spec_l1Cut.f k a0 32).bind fun ae => (if (ae.length : Int) = 3 then (if 1 < (ae.length : Int) then ((spec_l15Signed.f k (rdOf ByteArray.empty ae 1)).bind fun an => (if 0 < (ae.length : Int) then ((spec_l1Cut.f k (rdOf ByteArray.empty ae 0) 44).bind fun ay => (spec_ReadPlace.l0 k a0 ae ay 0 ([] : List Int) an)) else (none))) else (none)) else (some (([] : List Int), 0, ([] : List Int), false)))
theorem spec_ReadPlace.mono_l : ∀ k, (∀ y0 y1 y2 y3 y4 y5, LeO (spec_ReadPlace.l0 k y0 y1 y2 y3 y4 y5) (spec_ReadPlace.l0 (k + 1) y0 y1 y2 y3 y4 y5)) ∧ (∀ y0 y1 y2 y3 y4 y5, LeO (spec_ReadPlace.l1 k y0 y1 y2 y3 y4 y5) (spec_ReadPlace.l1 (k + 1) y0 y1 y2 y3 y4 y5))
 | 0 => ⟨fun _ _ _ _ _ _ r h => by simp [spec_ReadPlace.l0] at h, fun _ _ _ _ _ _ r h => by simp [spec_ReadPlace.l1] at h⟩
 | k + 1 => by
  obtain ⟨ih0, ih1⟩ := spec_ReadPlace.mono_l k
  refine ⟨?_, ?_⟩
  ·
   intro y0 y1 y2 y3 y4 y5
   unfold spec_ReadPlace.l0
   repeat' (with_reducible first | exact ih0 _ _ _ _ _ _ | exact ih1 _ _ _ _ _ _ | exact spec_PlaceText.mono _ _ _ _ | exact spec_l15Signed.mono _ _ | exact spec_l1Cut.mono _ _ _ | exact spec_l1Digits.mono _ _ | exact mr_ | exact mn_ | refine mi_ ?_ ?_ | refine mb_ ?_ (fun _ => ?_))
  ·
   intro y0 y1 y2 y3 y4 y5
   unfold spec_ReadPlace.l1
   repeat' (with_reducible first | exact ih0 _ _ _ _ _ _ | exact ih1 _ _ _ _ _ _ | exact spec_PlaceText.mono _ _ _ _ | exact spec_l15Signed.mono _ _ | exact spec_l1Cut.mono _ _ _ | exact spec_l1Digits.mono _ _ | exact mr_ | exact mn_ | refine mi_ ?_ ?_ | refine mb_ ?_ (fun _ => ?_))
theorem spec_ReadPlace.mono : ∀ a0 k, LeO (spec_ReadPlace.f k a0) (spec_ReadPlace.f (k + 1) a0) := by
 intro a0 k
 obtain ⟨ih0, ih1⟩ := spec_ReadPlace.mono_l k
 unfold spec_ReadPlace.f
 repeat' (with_reducible first | exact ih0 _ _ _ _ _ _ | exact ih1 _ _ _ _ _ _ | exact spec_PlaceText.mono _ _ _ _ | exact spec_l15Signed.mono _ _ | exact spec_l1Cut.mono _ _ _ | exact spec_l1Digits.mono _ _ | exact mr_ | exact mn_ | refine mi_ ?_ ?_ | refine mb_ ?_ (fun _ => ?_))
def spec_ReadPlace.T9 : Bool × List (List Nat × List Nat) := (true, [([], []), ([0], [0]), ([], []), ([], []), ([2, 3], [2, 3]), ([4], [4]), ([5], [5]), ([6], [6]), ([1, 7, 6], [1, 7]), ([0, 1, 2, 3, 4, 5, 6, 7, 8], []), ([9, 8, 8, 0, 1, 2, 3, 4, 5, 6, 7, 8], [8, 9])])
def spec_ReadPlace.B9 : List Nat := [0, 1, 0, 0, 12, 28, 60, 124, 255, 511, 1023]
theorem spec_ReadPlace.tab9 : rtab .any (opsOf Tryz.f50 9) = spec_ReadPlace.T9 := by kernel_rfl
theorem spec_ReadPlace.bits9 : waitsOk spec_ReadPlace.T9.2 spec_ReadPlace.B9 = true := by kernel_rfl
def spec_ReadPlace.T13 : Bool × List (List Nat × List Nat) := (true, [([], []), ([0], [0]), ([], []), ([2], [2]), ([3], [3]), ([], []), ([4, 5], [4, 5]), ([6], [6]), ([7], [7]), ([8], [8]), ([1, 9], [1, 9]), ([0, 1, 2, 3, 4, 5, 6, 7, 8, 9, 10], []), ([11, 10, 10, 0, 1, 2, 3, 4, 5, 6, 7, 8, 9, 10], [10, 11])])
def spec_ReadPlace.B13 : List Nat := [0, 1, 0, 4, 12, 0, 60, 124, 252, 508, 1023, 2047, 4095]
theorem spec_ReadPlace.tab13 : rtab .any (opsOf Tryz.f50 13) = spec_ReadPlace.T13 := by kernel_rfl
theorem spec_ReadPlace.bits13 : waitsOk spec_ReadPlace.T13.2 spec_ReadPlace.B13 = true := by kernel_rfl
set_option maxHeartbeats 8000000 in
set_option maxRecDepth 100000 in
theorem spec_ReadPlace.calls (k : Nat) (a0 : ByteArray) (r1 : List Int) (r2 : Int) (r3 : List Int) (r4 : Bool) (w : World) (h : spec_ReadPlace.f k a0 = some (r1, r2, r3, r4)) :
  Calls Tryz.prog 50 #[.string a0] w fun e w' => ∃ v0_ v2_ : Value, e = .returned (.tuple #[.agg #[v0_, .int .i64 r2, v2_], .bool r4]) ∧ Kd.R (Kd.int .i64) 3 w' w.heap.size (fun k_ => some k_ ≠ (v2_ : Value).ownBlock) v0_ r1 ∧ Kd.R (Kd.int .i64) 3 w' w.heap.size (fun k_ => some k_ ≠ (v0_ : Value).ownBlock) v2_ r3 ∧ Below w.heap.size w w' := by
 have hu39 := Tryz.underlying39
 have HB := Aside0.mk (Below.refl w.heap.size w)
 have H : ((spec_l1Cut.f k a0 32).bind fun ae => (if (ae.length : Int) = 3 then (if 1 < (ae.length : Int) then ((spec_l15Signed.f k (rdOf ByteArray.empty ae 1)).bind fun an => (if 0 < (ae.length : Int) then ((spec_l1Cut.f k (rdOf ByteArray.empty ae 0) 44).bind fun ay => (spec_ReadPlace.l0 k a0 ae ay 0 ([] : List Int) an)) else (none))) else (none)) else (some (([] : List Int), 0, ([] : List Int), false)))) = some (r1, r2, r3, r4) := h
 clear h
 obtain ⟨ae, A2, H⟩ := bnd_ H
 try dsimp only at H
 by_cases c3 : (ae.length : Int) = 3
 ·
  rw [if_pos c3] at H
  have bh : ((ae.length : Int) == 3) = true := beq_iff_eq.mpr c3
  have bi : ((ae.length : Int) != 3) = false := bne_eq_false_iff_eq.mpr c3
  clear c3
  by_cases c4 : 1 < (ae.length : Int)
  ·
   rw [if_pos c4] at H
   have bj : decide (1 < (ae.length : Int)) = true := decide_eq_true c4
   have bk : decide (1 < ae.length) = true := decide_eq_true (by omega)
   clear c4
   obtain ⟨an, A5, H⟩ := bnd_ H
   try dsimp only at H
   by_cases c6 : 0 < (ae.length : Int)
   ·
    rw [if_pos c6] at H
    have bl : decide (0 < (ae.length : Int)) = true := decide_eq_true c6
    have bm : decide (0 < ae.length) = true := decide_eq_true (by omega)
    clear c6
    obtain ⟨ay, A7, H⟩ := bnd_ H
    try dsimp only at H
    have H' := Aside0.mk H
    clear H
    go_enter Tryz.func50, Tryz.ntmps50
    go_wp2_with (first | ((with_reducible refine gate_dst (N := 2) rfl ?_); refine box_event ?hg (N := 2) ?hd (cs := #[.slice none 0 0, .int .i64 0, .slice none 0 0]) (t := 39) ?hr ?_; (case hd => rfl); (case hg => rfl); (case hr => first | (go_simp; done) | (go_simp; rfl)); intro aj hg w8 hbox hb; have ac := Aside0.mk (hbox); have bn := gx_ HB hg; have bo := gx_ HB hg; replace HB := bs_ HB hb; clear hb hbox hg) | ((with_reducible refine gate_callee (f := 84) rfl ?_); refine gl_ (some 10) Tryz.func84 #[.string a0, .int .u8 32] ?_; (with_reducible refine (spec_l1Cut.calls k a0 32 ae _ A2.out).mono ?_); rintro e w9 ⟨df, rfl, ho0, hb⟩; refine ⟨_, rfl, ?_⟩; have aq := rx_ ho0 HB; replace ac := bb_ ac hb; replace HB := bs_ HB hb; (try clear hb); (try clear hb2); (try clear hk); (try clear hi); (try clear ho0); obtain ⟨dZ, aZ, dg⟩ := Kd.R_slice aq.out; subst dg; have p207 : 0 ≤ (1 : Int) := (by omega); have q207 : 1 < (ae.length : Int) := od_; obtain ⟨ad207, e207, az⟩ := Kd.at_string (Kd.R_reads' aq.out).2.2 1 p207 q207; cases e207; (try simp only [show (1 : Int).toNat = 1 from rfl, Nat.reduceMul, Nat.reduceEqDiff, Go.Addr.add, ↓reduceIte] at az); have dC : (1 < ae.length) = True := eq_true (by omega); (try rw [show ((1 : Int)).toNat = 1 from rfl] at az); replace p207 := eq_true p207; replace q207 := eq_true q207) | ((with_reducible refine gate_callee (f := 85) rfl ?_); refine gl_ (some 18) Tryz.func85 #[.string (rdOf ByteArray.empty ae 1)] ?_; (with_reducible refine (spec_l15Signed.calls k (rdOf ByteArray.empty ae 1) an _ A5.out).mono ?_); rintro e w' ⟨rfl, ⟨nd, rfl⟩⟩; refine ⟨_, rfl, ?_⟩; (try (rw [drewN_self w9]; generalize hq_ : World.drewN w9 _ = w9; have n0_ : Aside0 (Kd.R Kd.string 9 w9 w.heap.size (fun _ => True) (.slice (some ad207) ae.length aZ) ae) := ⟨by rw [← hq_]; exact (rR_ aq.out)⟩; have n1_ : Aside0 (w9.heap[aj]? = some (.cells #[.slice none 0 0, .int .i64 0, .slice none 0 0] 39 (0, 0))) := ⟨by rw [← hq_]; exact (tk_ ac.out)⟩; have n2_ : Aside0 (Below w.heap.size w w9) := ⟨by rw [← hq_]; exact (tb_ HB.out)⟩; clear aq ac HB hq_; have aq := n0_; have ac := n1_; have HB := n2_; clear n0_ n1_ n2_))) | ((with_reducible refine gate_dst (N := 5) rfl ?_); refine box_event ?hg (N := 5) ?hd (cs := #[.slice none 0 0, .int .i64 0, .slice none 0 0]) (t := 39) ?hr ?_; (case hd => rfl); (case hg => rfl); (case hr => first | (go_simp; done) | (go_simp; rfl)); intro ai hg ed hbox hb; replace aq := rb_ aq hb; have aa := Aside0.mk (hbox); have dD := gx_ HB hg; have dE := gx_ HB hg; replace HB := bs_ HB hb; have al := nl_ ac hg; have am := ng_ ac hg; replace ac := bb_ ac hb; clear hb hbox hg; have dF := am.out; have dG := al.out; have aI := cz_ aa 0; have aJ := cz_ aa 1; have aK := cz_ aa 2; have aM := blk_frozen aa.out 0; have aN := blk_frozen aa.out 1; have aQ := blk_frozen aa.out 2; have p210 : 0 ≤ (0 : Int) := (by omega); have q210 : 0 < (ae.length : Int) := od_; obtain ⟨ad210, e210, ap⟩ := Kd.at_string (Kd.R_reads' aq.out).2.2 0 p210 q210; obtain rfl : ad207 = ad210 := (by injection e210); have dH : (0 < ae.length) = True := eq_true (by omega); (try rw [show ((0 : Int)).toNat = 0 from rfl] at ap); (try rw [Addr.add_zero'] at ap); have hn210_0 : ad207.block ≠ ai := Kd.own_blk (Kd.R_ne aq.out aa.out (by decide)); have hn210_1 : ad207.block ≠ ai := Kd.own_blk (Kd.R_ne aq.out aa.out (by decide)); have hn210_2 : ad207.block ≠ ai := Kd.own_blk (Kd.R_ne aq.out aa.out (by decide)); replace ap := (cell_far (p := ⟨ai, 0, none⟩) (by first | (rw [add_block]; exact hn210_0) | (show (Addr.add _ _).block ≠ _; rw [add_block]; exact hn210_0) | exact hn210_0) (.slice none 0 0)).trans ap; replace ap := (cell_far (p := ⟨ai, 1, none⟩) (by first | (rw [add_block]; exact hn210_1) | (show (Addr.add _ _).block ≠ _; rw [add_block]; exact hn210_1) | exact hn210_1) (.int .i64 an)).trans ap; replace ap := (cell_far (p := ⟨ai, 2, none⟩) (by first | (rw [add_block]; exact hn210_2) | (show (Addr.add _ _).block ≠ _; rw [add_block]; exact hn210_2) | exact hn210_2) (.slice none 0 0)).trans ap; clear hn210_0 hn210_1 hn210_2; replace p210 := eq_true p210; replace q210 := eq_true q210) | ((with_reducible refine gate_callee (f := 84) rfl ?_); refine gl_ (some 23) Tryz.func84 #[.string (rdOf ByteArray.empty ae 0), .int .u8 44] ?_; (with_reducible refine (spec_l1Cut.calls k (rdOf ByteArray.empty ae 0) 44 ay _ A7.out).mono ?_); rintro e ee ⟨bp, rfl, ho0, hb⟩; refine ⟨_, rfl, ?_⟩; have bq := Aside0.mk (Kd.R_lower (Kd.R_new' ho0 (Kd.R_lt (by refine qR_ ?_; exact (Kd.R_mono (Kd.R_far (p := ⟨ai, 2, none⟩) (Kd.R_far (p := ⟨ai, 1, none⟩) (Kd.R_far (p := ⟨ai, 0, none⟩) (Kd.R_types aq.out aa.out (by decide)) (fun _ hk => hk.2) (.slice none 0 0)) (fun _ hk => hk.2) (.int .i64 an)) (fun _ hk => hk.2) (.slice none 0 0)) (fun _ h_ => h_.1))))) (below_size (tb_ HB.out))); replace aq := Aside0.mk (Kd.R_elder' (by refine qR_ ?_; exact (Kd.R_mono (Kd.R_far (p := ⟨ai, 2, none⟩) (Kd.R_far (p := ⟨ai, 1, none⟩) (Kd.R_far (p := ⟨ai, 0, none⟩) (Kd.R_types aq.out aa.out (by decide)) (fun _ hk => hk.2) (.slice none 0 0)) (fun _ hk => hk.2) (.int .i64 an)) (fun _ hk => hk.2) (.slice none 0 0)) (fun _ h_ => h_.1))) (Kd.R_base ho0) hb); replace ac := bb_ ac hb; replace aa := Aside0.mk (blk_below (g := ai) (o := .cells #[.slice none 0 0, .int .i64 an, .slice none 0 0] 39 (0, 0)) (ps_ aa.out) hb); replace HB := bs_ HB hb; (try clear hb); (try clear hb2); (try clear hk); (try clear hi); (try clear ho0)))
    go_loopg [7] k (fun kq v7 w' => ∃ (av : Int) (af : List Int) (u210000 : Value), v7 = .int .i64 av ∧ Aside0 (spec_ReadPlace.l0 kq a0 ae ay av af an = some (r1, r2, r3, r4)) ∧ Aside0 (kq ≤ k) ∧ Aside0 (Kd.R Kd.string 9 w' w.heap.size (fun k_ => some k_ ≠ (bp : Value).ownBlock) (.slice (some ad207) ae.length aZ) ae) ∧ Aside0 (Kd.R Kd.string 9 w' w.heap.size (fun k_ => some k_ ≠ ((.slice (some ad207) ae.length aZ) : Value).ownBlock) bp ay) ∧ Aside0 (Kd.R (Kd.int .i64) 3 w' w.heap.size (fun _ => True) u210000 af) ∧ Aside0 (w'.heap[aj]? = some (.cells #[(.slice none 0 0), .int .i64 0, (.slice none 0 0)] 39 (0, 0))) ∧ Aside0 (w'.heap[ai]? = some (.cells #[u210000, .int .i64 an, (.slice none 0 0)] 39 (0, 0))) ∧ Aside0 (Below w.heap.size w w'))
    case atStart => exact ⟨(0), (([] : List Int)), (.slice none 0 0), tx_, H', ⟨Nat.le_refl _⟩, ⟨by refine qR_ ?_; exact Kd.R_mono aq.out (fun _ hk => hk.2)⟩, ⟨by refine qR_ ?_; exact Kd.R_mono bq.out (fun _ hk => hk.2)⟩, ⟨by first | exact Kd.R_nil _ _ _ _ _ | exact Kd.N_nil _ _ _ _ _ | exact Kd.V_nil _ _ _ _ _ | exact Kd.Q_nil _ _ _ _ _ | exact Kd.S_nil _ _ _ _ _⟩, ⟨tk_ ac.out⟩, ⟨tk_ aa.out⟩, ⟨(tb_ HB.out)⟩⟩
    case round =>
     clear H'
     try clear c1
     try clear p2
     try clear q2
     try clear hx2
     try clear d0
     try clear c3
     try clear bh
     try clear bi
     try clear c4
     try clear bj
     try clear bk
     try clear c5
     try clear c6
     try clear bl
     try clear bm
     try clear c8
     try clear c12
     try clear aI
     try clear aJ
     try clear aK
     try clear aM
     try clear aN
     try clear aQ
     try clear az
     try clear ap
     try clear p207
     try clear p210
     try clear q207
     try clear q210
     obtain ⟨av, af, u210000, rfl, HA, HK1, ak, aG, ab, ac, aa, HB⟩ := hrel
     cases gk with
     | zero => exact absurd HA.out (by simp [spec_ReadPlace.l0])
     | succ k1 =>
      have H := HA.out
      clear HA
      simp only [spec_ReadPlace.l0] at H
      by_cases c15 : av < (ay.length : Int)
      ·
       rw [if_pos c15] at H
       have be : decide (av < (ay.length : Int)) = true := decide_eq_true c15
       clear c15
       by_cases c16 : 0 ≤ av
       ·
        rw [if_pos c16] at H
        have br : decide (0 ≤ av) = true := decide_eq_true c16
        clear c16
        obtain ⟨aR, A17, H⟩ := bnd_ H
        try dsimp only at H
        by_cases c18 : af.length < 17592186044416
        ·
         rw [if_pos c18] at H
         have bs := Aside0.mk c18
         clear c18
         obtain ⟨aU, aW⟩ : ∃ y_ : List Int, y_ = (af ++ [aR]) := ⟨_, rfl⟩
         replace H : (spec_ReadPlace.l0 k1 a0 ae ay (wrap64 (av + 1)) aU an) = some (r1, r2, r3, r4) := yq_ aW H
         have bu := Aside0.mk aW
         clear aW
         have H' := Aside0.mk H
         clear H
         obtain ⟨d1, d2, dh⟩ := Kd.R_slice aG.out
         subst dh
         try go_wp2
         replace ak := rd_ ak
         replace aG := rd_ aG
         replace ab := rd_ ab
         replace ac := dB_ ac
         replace aa := dB_ aa
         replace HB := Aside0.mk (ld_ HB.out)
         have p214 : 0 ≤ (av : Int) := od_
         have q214 : av < (ay.length : Int) := od_
         obtain ⟨ad214, e214, aH⟩ := Kd.at_string (Kd.R_reads' aG.out).2.2 av p214 q214
         cases e214
         replace p214 := eq_true p214
         replace q214 := eq_true q214
         refine start_ (n := 11) (S := fun w' => w'.cell? ⟨ai, 0, none⟩ = some (u210000) ∧ w'.cell? ⟨ai, 1, none⟩ = some (.int .i64 an) ∧ w'.cell? ⟨ai, 2, none⟩ = some (.slice none 0 0) ∧ w'.cell? (ad214.add (av).toNat) = some (.string (rdOf ByteArray.empty ay av))) (ds := [8, 10]) #[false, false, false, false, false, false, false, false, false, false, false] (by kernel_rfl) rfl rfl ⟨(blk_cell aa.out 0).trans rfl, (blk_cell aa.out 1).trans rfl, (blk_cell aa.out 2).trans rfl, aH⟩ (fun hHeld => ?_); refine with_tabW spec_ReadPlace.tab9 spec_ReadPlace.bits9 (fun HT_ HW_ => ?_)
         generalize wr.drew = ef at ak aG ab ac aa HB aH hHeld ⊢
         refine pu_ 0 (some 30) #[true, false, false, false, false, false, false, false, false, false, false] HT_ rfl rfl ?_
         refine pu_ 2 (some 32) #[true, false, true, false, false, false, false, false, false, false, false] HT_ rfl rfl ?_
         refine pu_ 3 (some 33) #[true, false, true, true, false, false, false, false, false, false, false] HT_ rfl rfl ?_
         refine pu_ 4 (some 34) #[true, false, true, true, true, false, false, false, false, false, false] HT_ rfl rfl ?_
         refine ta_ 1 (some 31) #[true, true, true, true, true, false, false, false, false, false, false] HT_ HW_ hHeld rfl rfl ?_
         refine ta_ 5 (some 35) #[true, true, true, true, true, true, false, false, false, false, false] HT_ HW_ hHeld rfl rfl ?_
         refine one_ (i := 6) (N := some 36) #[true, true, true, true, true, true, true, false, false, false, false] rfl rfl (one_of HT_.out (by kernel_rfl)) (by decide) (fun K hK => ?_)
         refine goes_ Tryz.func86 (by kernel_rfl) rfl #[.string (rdOf ByteArray.empty ay av)] (by rfl) rfl rfl tz_ ?_
         with_reducible refine (spec_l1Digits.calls k1 (rdOf ByteArray.empty ay av) aR _ A17.out).mono ?_
         rintro e w' ⟨rfl, ⟨nd, rfl⟩⟩
         refine ⟨_, rfl, ?_⟩
         refine hK.out _ _ ⟨(blk_cell aa.out 0).trans rfl, (blk_cell aa.out 1).trans rfl, (blk_cell aa.out 2).trans rfl, hHeld.2.2.2⟩ (fun hHeld => ?_)
         clear hK K
         refine nr_ 36 ?_
         refine one_ (i := 7) (N := some 37) #[true, true, true, true, true, true, true, true, false, false, false] rfl rfl (one_of HT_.out (by kernel_rfl)) (by decide) (fun K hK => ?_)
         refine va_ rfl ?_
         refine hK.out _ _ ⟨(blk_cell (blk_alloc aa.out _) 0).trans rfl, (blk_cell (blk_alloc aa.out _) 1).trans rfl, (blk_cell (blk_alloc aa.out _) 2).trans rfl, (World.cell?_alloc_lt _ _ _ (World.block_lt_of_cell? _ _ (hHeld.2.2.2))).trans (hHeld.2.2.2)⟩ (fun hHeld => ?_)
         clear hK K
         refine nr_ 37 ?_
         refine last_ (i := 8) (N := some 38) #[true, true, true, true, true, true, true, true, true, false, false] rfl rfl (one_of HT_.out (by kernel_rfl)) (by decide) (fun K hK => ?_)
         refine Kd.R_append_step (Kd.int .i64) (w0 := w) w.heap.size (by rfl) (.tmp 31) (.tmp 37) 37 3 (.int .i64 0) 8 rfl Tryz.underlying37 info3 rfl (by decide) (by omega) u210000 af aR [.int .i64 aR] (fun _ => True) (fun _ => False) rfl rfl ?aP (fun _ hk => hk.elim) ?aF ?aO ?aB ?aS ?aL ?_
         (case aP => exact rfl)
         (case aB => exact (tb_ HB.out))
         (case aF => exact (fun _ _ => trivial))
         (case aO => exact (rR_ ab.out))
         (case aS => exact (below_size (tb_ HB.out)))
         (case aL => have := bs.out; omega)
         intro d3 d4 ho hb hg hat
         rw [← bu.out] at ho
         replace ak := Aside0.mk (Kd.R_over' (rR_ ak.out) (Kd.R_typed (rR_ ab.out)) (by decide) hg)
         replace aG := Aside0.mk (Kd.R_over' (rR_ aG.out) (Kd.R_typed (rR_ ab.out)) (by decide) hg)
         replace ac := bg_ ac hg (Kd.R_ne ab.out ac.out (by decide))
         replace aa := bg_ aa hg (Kd.R_ne ab.out aa.out (by decide))
         replace HB := Aside0.mk (hb)
         have bf := Aside0.mk (ho)
         clear ab
         clear ho hb hg hat
         obtain ⟨a1, a2, bv⟩ := Kd.R_slice bf.out
         (first | subst bv | (injection bv with f1_ f2_ f3_; have f4_ := f1_.symm; have f5_ := f3_.symm; clear f1_ f2_ f3_; subst f4_; subst f5_))
         refine hK.out _ _ ?_
         clear hK K
         refine nr_ 38 ?_
         refine pu_ 9 (some 39) #[true, true, true, true, true, true, true, true, true, true, false] HT_ rfl rfl ?_
         refine last_ (i := 10) (N := none) #[true, true, true, true, true, true, true, true, true, true, true] rfl rfl (one_of HT_.out (by kernel_rfl)) (by decide) (fun K hK => ?_)
         have hs23 : d4.cell? ⟨ai, 0, none⟩ = some (u210000) := (blk_cell aa.out 0).trans rfl
         have hfs23 := blk_frozen aa.out 0
         have bM := al.out
         have bN := am.out
         refine sk_ rfl ?_
         refine hK.out _ _ ?_
         clear hK K
         refine done_ (done_of HT_.out (by kernel_rfl)) ?_
         try go_wp2
         go_roundg k1
         case measure => have := HK1.out; omega
         case rel => exact ⟨(wrap64 (av + 1)), (aU), (.slice a1 aU.length a2), tx_, H', ⟨by have := HK1.out; omega⟩, ⟨by refine qR_ ?_; exact Kd.R_mono (Kd.R_far (p := ⟨ai, 0, none⟩) (Kd.R_types ak.out aa.out (by decide)) (fun _ hk => hk.2) (.slice a1 aU.length a2)) (fun _ hk => hk.1)⟩, ⟨by refine qR_ ?_; exact Kd.R_mono (Kd.R_far (p := ⟨ai, 0, none⟩) (Kd.R_types aG.out aa.out (by decide)) (fun _ hk => hk.2) (.slice a1 aU.length a2)) (fun _ hk => hk.1)⟩, ⟨by refine qR_ ?_; exact Kd.R_mono (Kd.R_far (p := ⟨ai, 0, none⟩) (Kd.R_types bf.out aa.out (by decide)) (fun _ hk => hk.2) (.slice a1 aU.length a2)) (fun _ hk => trivial)⟩, ⟨tk_ ac.out⟩, ⟨by refine bq_ ?_; refine blk_put (cs := #[u210000, .int .i64 an, .slice none 0 0]) ?_ 0 _ rfl; exact tk_ aa.out⟩, ⟨(tb_ HB.out)⟩⟩
        ·
         rw [if_neg c18] at H
         exact absurd H (by simp)
       ·
        rw [if_neg c16] at H
        exact absurd H (by simp)
      ·
       rw [if_neg c15] at H
       have be : decide (av < (ay.length : Int)) = false := decide_eq_false c15
       clear c15
       have H' := Aside0.mk H
       clear H
       obtain ⟨d5, d6, di⟩ := Kd.R_slice aG.out
       subst di
       go_wp2
       go_loopg [8] k1 (fun kq v8 w' => ∃ (ax : Int) (ag : List Int) (u210002 : Value), v8 = .int .i64 ax ∧ Aside0 (spec_ReadPlace.l1 kq a0 ae ax af an ag = some (r1, r2, r3, r4)) ∧ Aside0 (kq ≤ k1) ∧ Aside0 (Kd.R Kd.string 9 w' w.heap.size (fun _ => True) (.slice (some ad207) ae.length aZ) ae) ∧ Aside0 (Kd.R (Kd.int .i64) 3 w' w.heap.size (fun k_ => some k_ ≠ (u210002 : Value).ownBlock) u210000 af) ∧ Aside0 (Kd.R (Kd.int .i64) 3 w' w.heap.size (fun k_ => some k_ ≠ (u210000 : Value).ownBlock) u210002 ag) ∧ Aside0 (w'.heap[aj]? = some (.cells #[(.slice none 0 0), .int .i64 0, (.slice none 0 0)] 39 (0, 0))) ∧ Aside0 (w'.heap[ai]? = some (.cells #[u210000, .int .i64 an, u210002] 39 (0, 0))) ∧ Aside0 (Below w.heap.size w w'))
       case atStart => exact ⟨(0), (([] : List Int)), (.slice none 0 0), tx_, H', ⟨Nat.le_refl _⟩, ⟨by refine qR_ ?_; exact Kd.R_mono ak.out (fun _ hk => trivial)⟩, ⟨by refine qR_ ?_; exact Kd.R_mono ab.out (fun _ hk => (by simp [Value.ownBlock]))⟩, ⟨by first | exact Kd.R_nil _ _ _ _ _ | exact Kd.N_nil _ _ _ _ _ | exact Kd.V_nil _ _ _ _ _ | exact Kd.Q_nil _ _ _ _ _ | exact Kd.S_nil _ _ _ _ _⟩, ⟨tk_ ac.out⟩, ⟨tk_ aa.out⟩, ⟨(tb_ HB.out)⟩⟩
       case round =>
        clear H'
        try clear c1
        try clear p2
        try clear q2
        try clear hx2
        try clear d0
        try clear c3
        try clear bh
        try clear bi
        try clear c4
        try clear bj
        try clear bk
        try clear c5
        try clear c6
        try clear bl
        try clear bm
        try clear p6
        try clear c8
        try clear c12
        try clear c15
        try clear be
        try clear c16
        try clear br
        try clear c18
        try clear p20
        try clear q20
        try clear hx20
        try clear d7
        try clear p21
        try clear q21
        try clear hx21
        try clear d8
        try clear aI
        try clear aJ
        try clear aK
        try clear aM
        try clear aN
        try clear aQ
        try clear az
        try clear ap
        try clear aH
        try clear p2
        try clear p207
        try clear p210
        try clear p214
        try clear q2
        try clear q207
        try clear q210
        try clear q214
        obtain ⟨ax, ag, u210002, rfl, HA, HK2, ak, ab, ad, ac, aa, HB⟩ := hrel
        cases gk with
        | zero => exact absurd HA.out (by simp [spec_ReadPlace.l1])
        | succ k2 =>
         have H := HA.out
         clear HA
         simp only [spec_ReadPlace.l1] at H
         by_cases c25 : 2 < (ae.length : Int)
         ·
          rw [if_pos c25] at H
          have dI : decide (2 < (ae.length : Int)) = true := decide_eq_true c25
          have dJ : decide (2 < ae.length) = true := decide_eq_true (by omega)
          clear c25
          by_cases c26 : ax < ((rdOf ByteArray.empty ae 2).size : Int)
          ·
           rw [if_pos c26] at H
           have bw : decide (ax < ((rdOf ByteArray.empty ae 2).size : Int)) = true := decide_eq_true c26
           clear c26
           by_cases c27 : (rdOf ByteArray.empty ae 2).toList = ([46] : List UInt8)
           ·
            rw [if_pos c27] at H
            have bx : ((rdOf ByteArray.empty ae 2).toList == ([46] : List UInt8)) = true := beq_iff_eq.mpr c27
            have bz : ((rdOf ByteArray.empty ae 2).toList != ([46] : List UInt8)) = false := bne_eq_false_iff_eq.mpr c27
            clear c27
            by_cases c28 : a0.toList = ([] : List UInt8)
            ·
             rw [if_pos c28] at H
             have bB : (a0.toList == ([] : List UInt8)) = true := beq_iff_eq.mpr c28
             have bC : (a0.toList != ([] : List UInt8)) = false := bne_eq_false_iff_eq.mpr c28
             clear c28
             simp only [Option.some.injEq, Prod.mk.injEq] at H
             obtain ⟨rfl, rfl, rfl, rfl⟩ := H
             have p219 : 0 ≤ (2 : Int) := (by omega)
             have q219 : 2 < (ae.length : Int) := od_
             obtain ⟨ad219, e219, ah⟩ := Kd.at_string (Kd.R_reads' ak.out).2.2 2 p219 q219
             obtain rfl : ad207 = ad219 := (by injection e219)
             (try simp only [show (2 : Int).toNat = 2 from rfl, Nat.reduceMul, Nat.reduceEqDiff, Go.Addr.add, ↓reduceIte] at ah)
             have aC : (2 < ae.length) = True := eq_true (by omega)
             (try rw [show ((2 : Int)).toNat = 2 from rfl] at ah)
             replace p219 := eq_true p219
             replace q219 := eq_true q219
             have p220 : 0 ≤ (2 : Int) := (by omega)
             have q220 : 2 < (ae.length : Int) := od_
             obtain ⟨ad220, e220, ao⟩ := Kd.at_string (Kd.R_reads' ak.out).2.2 2 p220 q220
             obtain rfl : ad207 = ad220 := (by injection e220)
             (try simp only [show (2 : Int).toNat = 2 from rfl, Nat.reduceMul, Nat.reduceEqDiff, Go.Addr.add, ↓reduceIte] at ao)
             have aX : (2 < ae.length) = True := eq_true (by omega)
             (try rw [show ((2 : Int)).toNat = 2 from rfl] at ao)
             replace p220 := eq_true p220
             replace q220 := eq_true q220
             have dK := al.out
             have dL := am.out
             have bO := cz_ ac 0
             have bP := cz_ ac 1
             have bQ := cz_ ac 2
             have bR := blk_frozen ac.out 0
             have bS := blk_frozen ac.out 1
             have bU := blk_frozen ac.out 2
             go_wp2
             refine bodyPost_ret (results_ct rfl _ _ aj 39 #[.slice none 0 0, .int .i64 0, .slice none 0 0] (0, 0) _ rfl (ps_ ac.out) Tryz.underlying39 rfl (by kernel_rfl)) rfl ?_
             exact ⟨_, _, tw_, by first | exact Kd.R_nil _ _ _ _ _ | exact Kd.N_nil _ _ _ _ _ | exact Kd.V_nil _ _ _ _ _ | exact Kd.Q_nil _ _ _ _ _ | exact Kd.S_nil _ _ _ _ _, by first | exact Kd.R_nil _ _ _ _ _ | exact Kd.N_nil _ _ _ _ _ | exact Kd.V_nil _ _ _ _ _ | exact Kd.Q_nil _ _ _ _ _ | exact Kd.S_nil _ _ _ _ _, (tb_ HB.out)⟩
            ·
             rw [if_neg c28] at H
             have bB : (a0.toList == ([] : List UInt8)) = false := beq_eq_false_iff_ne.mpr c28
             have bC : (a0.toList != ([] : List UInt8)) = true := bne_iff_ne.mpr c28
             obtain ⟨aD, A31, H⟩ := bnd_ H
             try dsimp only at H
             by_cases c32 : aD.toList = a0.toList
             ·
              rw [if_pos c32] at H
              have bD : (aD.toList == a0.toList) = true := beq_iff_eq.mpr c32
              have bE : (aD.toList != a0.toList) = false := bne_eq_false_iff_eq.mpr c32
              clear c32
              simp only [Option.some.injEq, Prod.mk.injEq] at H
              obtain ⟨rfl, rfl, rfl, rfl⟩ := H
              have p219 : 0 ≤ (2 : Int) := (by omega)
              have q219 : 2 < (ae.length : Int) := od_
              obtain ⟨ad219, e219, ah⟩ := Kd.at_string (Kd.R_reads' ak.out).2.2 2 p219 q219
              obtain rfl : ad207 = ad219 := (by injection e219)
              (try simp only [show (2 : Int).toNat = 2 from rfl, Nat.reduceMul, Nat.reduceEqDiff, Go.Addr.add, ↓reduceIte] at ah)
              have aC : (2 < ae.length) = True := eq_true (by omega)
              (try rw [show ((2 : Int)).toNat = 2 from rfl] at ah)
              replace p219 := eq_true p219
              replace q219 := eq_true q219
              have p220 : 0 ≤ (2 : Int) := (by omega)
              have q220 : 2 < (ae.length : Int) := od_
              obtain ⟨ad220, e220, ao⟩ := Kd.at_string (Kd.R_reads' ak.out).2.2 2 p220 q220
              obtain rfl : ad207 = ad220 := (by injection e220)
              (try simp only [show (2 : Int).toNat = 2 from rfl, Nat.reduceMul, Nat.reduceEqDiff, Go.Addr.add, ↓reduceIte] at ao)
              have aX : (2 < ae.length) = True := eq_true (by omega)
              (try rw [show ((2 : Int)).toNat = 2 from rfl] at ao)
              replace p220 := eq_true p220
              replace q220 := eq_true q220
              have dM := am.out
              have dN := al.out
              have bV := cz_ aa 0
              have bW := cz_ aa 1
              have bX := cz_ aa 2
              have bZ := blk_frozen aa.out 0
              have b0 := blk_frozen aa.out 1
              have b1 := blk_frozen aa.out 2
              obtain ⟨a3, a4, dj⟩ := Kd.R_slice ab.out
              subst dj
              obtain ⟨a5, a6, dk⟩ := Kd.R_slice ad.out
              subst dk
              go_wp2_with (first | (go_at_call 43; (with_reducible refine (spec_PlaceText.calls k2 _ _ af an _ _ ag aD _ ?s1 ?s2 ?s3 ?s4 A31.out).mono ?_); (case s1 => repeat (first | exact (Kd.R_reads' ab.out).2.2 | (with_reducible refine Kd.C_alloc ?_ _) | (with_reducible refine Kd.C_drewN ?_ _) | (with_reducible refine Kd.C_drew ?_))); (case s2 => exact (Kd.R_reads' ab.out).2.1); (case s3 => repeat (first | exact (Kd.R_reads' ad.out).2.2 | (with_reducible refine Kd.C_alloc ?_ _) | (with_reducible refine Kd.C_drewN ?_ _) | (with_reducible refine Kd.C_drew ?_))); (case s4 => exact (Kd.R_reads' ad.out).2.1); rintro e eg ⟨rfl, hb⟩; have n0_ := Aside0.mk (Kd.R_below (rR_ ak.out) hb); have n1_ := Aside0.mk (Kd.R_below (rR_ ab.out) hb); have n2_ := Aside0.mk (Kd.R_below (rR_ ad.out) hb); have n3_ := Aside0.mk (blk_below (g := aj) (o := .cells #[.slice none 0 0, .int .i64 0, .slice none 0 0] 39 (0, 0)) (tk_ ac.out) hb); have n4_ := Aside0.mk (blk_below (g := ai) (o := .cells #[.slice a3 af.length a4, .int .i64 an, .slice a5 ag.length a6] 39 (0, 0)) (tk_ aa.out) hb); have n5_ := Aside0.mk (below_step (tb_ HB.out) hb); clear ak ab ad ac aa HB; have ak := n0_; have ab := n1_; have ad := n2_; have ac := n3_; have aa := n4_; have HB := n5_; clear n0_ n1_ n2_ n3_ n4_ n5_; (try clear hb); (try clear hb2); (try clear hk); (try clear hi); have b2 := cz_ aa 0; have b3 := cz_ aa 1; have b4 := cz_ aa 2; have b5 := blk_frozen aa.out 0; have b6 := blk_frozen aa.out 1; have b7 := blk_frozen aa.out 2; have b8 := cz_ ac 0; have b9 := cz_ ac 1; have ca := cz_ ac 2; have cb := blk_frozen ac.out 0; have cc := blk_frozen ac.out 1; have cd := blk_frozen ac.out 2))
              refine bodyPost_ret (results_ct rfl _ _ aj 39 #[.slice a3 af.length a4, .int .i64 an, .slice a5 ag.length a6] (0, 0) _ rfl (ps_ ac.out) Tryz.underlying39 rfl (by kernel_rfl)) rfl ?_
              exact ⟨_, _, tw_, by refine qR_ ?_; exact Kd.R_mono (Kd.R_far (p := ⟨aj, 2, none⟩) (Kd.R_far (p := ⟨aj, 1, none⟩) (Kd.R_far (p := ⟨aj, 0, none⟩) (Kd.R_types ab.out ac.out (by decide)) (fun _ hk => hk.2) (.slice a3 af.length a4)) (fun _ hk => hk.2) (.int .i64 an)) (fun _ hk => hk.2) (.slice a5 ag.length a6)) (fun _ hk => hk.1), by refine qR_ ?_; exact Kd.R_mono (Kd.R_far (p := ⟨aj, 2, none⟩) (Kd.R_far (p := ⟨aj, 1, none⟩) (Kd.R_far (p := ⟨aj, 0, none⟩) (Kd.R_types ad.out ac.out (by decide)) (fun _ hk => hk.2) (.slice a3 af.length a4)) (fun _ hk => hk.2) (.int .i64 an)) (fun _ hk => hk.2) (.slice a5 ag.length a6)) (fun _ hk => hk.1), (tb_ HB.out)⟩
             ·
              rw [if_neg c32] at H
              have bD : (aD.toList == a0.toList) = false := beq_eq_false_iff_ne.mpr c32
              have bE : (aD.toList != a0.toList) = true := bne_iff_ne.mpr c32
              simp only [Option.some.injEq, Prod.mk.injEq] at H
              obtain ⟨rfl, rfl, rfl, rfl⟩ := H
              have p219 : 0 ≤ (2 : Int) := (by omega)
              have q219 : 2 < (ae.length : Int) := od_
              obtain ⟨ad219, e219, ah⟩ := Kd.at_string (Kd.R_reads' ak.out).2.2 2 p219 q219
              obtain rfl : ad207 = ad219 := (by injection e219)
              (try simp only [show (2 : Int).toNat = 2 from rfl, Nat.reduceMul, Nat.reduceEqDiff, Go.Addr.add, ↓reduceIte] at ah)
              have aC : (2 < ae.length) = True := eq_true (by omega)
              (try rw [show ((2 : Int)).toNat = 2 from rfl] at ah)
              replace p219 := eq_true p219
              replace q219 := eq_true q219
              have p220 : 0 ≤ (2 : Int) := (by omega)
              have q220 : 2 < (ae.length : Int) := od_
              obtain ⟨ad220, e220, ao⟩ := Kd.at_string (Kd.R_reads' ak.out).2.2 2 p220 q220
              obtain rfl : ad207 = ad220 := (by injection e220)
              (try simp only [show (2 : Int).toNat = 2 from rfl, Nat.reduceMul, Nat.reduceEqDiff, Go.Addr.add, ↓reduceIte] at ao)
              have aX : (2 < ae.length) = True := eq_true (by omega)
              (try rw [show ((2 : Int)).toNat = 2 from rfl] at ao)
              replace p220 := eq_true p220
              replace q220 := eq_true q220
              have dP := am.out
              have dQ := al.out
              have ce := cz_ aa 0
              have cf := cz_ aa 1
              have cg := cz_ aa 2
              have ch := blk_frozen aa.out 0
              have ci := blk_frozen aa.out 1
              have cj := blk_frozen aa.out 2
              obtain ⟨dl, dm, dn⟩ := Kd.R_slice ab.out
              subst dn
              obtain ⟨dp, dq, dr⟩ := Kd.R_slice ad.out
              subst dr
              go_wp2_with (first | (go_at_call 43; (with_reducible refine (spec_PlaceText.calls k2 _ _ af an _ _ ag aD _ ?s1 ?s2 ?s3 ?s4 A31.out).mono ?_); (case s1 => repeat (first | exact (Kd.R_reads' ab.out).2.2 | (with_reducible refine Kd.C_alloc ?_ _) | (with_reducible refine Kd.C_drewN ?_ _) | (with_reducible refine Kd.C_drew ?_))); (case s2 => exact (Kd.R_reads' ab.out).2.1); (case s3 => repeat (first | exact (Kd.R_reads' ad.out).2.2 | (with_reducible refine Kd.C_alloc ?_ _) | (with_reducible refine Kd.C_drewN ?_ _) | (with_reducible refine Kd.C_drew ?_))); (case s4 => exact (Kd.R_reads' ad.out).2.1); rintro e eh ⟨rfl, hb⟩; have n0_ := Aside0.mk (Kd.R_below (rR_ ak.out) hb); have n1_ := Aside0.mk (Kd.R_below (rR_ ab.out) hb); have n2_ := Aside0.mk (Kd.R_below (rR_ ad.out) hb); have n3_ := Aside0.mk (blk_below (g := aj) (o := .cells #[.slice none 0 0, .int .i64 0, .slice none 0 0] 39 (0, 0)) (tk_ ac.out) hb); have n4_ := Aside0.mk (blk_below (g := ai) (o := .cells #[.slice dl af.length dm, .int .i64 an, .slice dp ag.length dq] 39 (0, 0)) (tk_ aa.out) hb); have n5_ := Aside0.mk (below_step (tb_ HB.out) hb); clear ak ab ad ac aa HB; have ak := n0_; have ab := n1_; have ad := n2_; have ac := n3_; have aa := n4_; have HB := n5_; clear n0_ n1_ n2_ n3_ n4_ n5_; (try clear hb); (try clear hb2); (try clear hk); (try clear hi); have ck := cz_ ac 0; have cl := cz_ ac 1; have cm := cz_ ac 2; have cn := blk_frozen ac.out 0; have co := blk_frozen ac.out 1; have cp := blk_frozen ac.out 2))
              refine bodyPost_ret (results_ct rfl _ _ aj 39 #[.slice none 0 0, .int .i64 0, .slice none 0 0] (0, 0) _ rfl (ps_ ac.out) Tryz.underlying39 rfl (by kernel_rfl)) rfl ?_
              exact ⟨_, _, tw_, by first | exact Kd.R_nil _ _ _ _ _ | exact Kd.N_nil _ _ _ _ _ | exact Kd.V_nil _ _ _ _ _ | exact Kd.Q_nil _ _ _ _ _ | exact Kd.S_nil _ _ _ _ _, by first | exact Kd.R_nil _ _ _ _ _ | exact Kd.N_nil _ _ _ _ _ | exact Kd.V_nil _ _ _ _ _ | exact Kd.Q_nil _ _ _ _ _ | exact Kd.S_nil _ _ _ _ _, (tb_ HB.out)⟩
           ·
            rw [if_neg c27] at H
            have bx : ((rdOf ByteArray.empty ae 2).toList == ([46] : List UInt8)) = false := beq_eq_false_iff_ne.mpr c27
            have bz : ((rdOf ByteArray.empty ae 2).toList != ([46] : List UInt8)) = true := bne_iff_ne.mpr c27
            by_cases c46 : 0 ≤ ax
            ·
             rw [if_pos c46] at H
             have dR : decide (0 ≤ ax) = true := decide_eq_true c46
             clear c46
             by_cases c48 : ag.length < 17592186044416
             ·
              rw [if_pos c48] at H
              have bF := Aside0.mk c48
              clear c48
              obtain ⟨aV, aY⟩ : ∃ y_ : List Int, y_ = (ag ++ [wrap64 ((wrap64 (bt (rdOf ByteArray.empty ae 2) ax)) - 97)]) := ⟨_, rfl⟩
              replace H : (spec_ReadPlace.l1 k2 a0 ae (wrap64 (ax + 1)) af an aV) = some (r1, r2, r3, r4) := yq_ aY H
              have bG := Aside0.mk aY
              clear aY
              have H' := Aside0.mk H
              clear H
              have p219 : 0 ≤ (2 : Int) := (by omega)
              have q219 : 2 < (ae.length : Int) := od_
              obtain ⟨ad219, e219, ah⟩ := Kd.at_string (Kd.R_reads' ak.out).2.2 2 p219 q219
              obtain rfl : ad207 = ad219 := (by injection e219)
              (try simp only [show (2 : Int).toNat = 2 from rfl, Nat.reduceMul, Nat.reduceEqDiff, Go.Addr.add, ↓reduceIte] at ah)
              have aC : (2 < ae.length) = True := eq_true (by omega)
              (try rw [show ((2 : Int)).toNat = 2 from rfl] at ah)
              replace p219 := eq_true p219
              replace q219 := eq_true q219
              have p220 : 0 ≤ (2 : Int) := (by omega)
              have q220 : 2 < (ae.length : Int) := od_
              obtain ⟨ad220, e220, ao⟩ := Kd.at_string (Kd.R_reads' ak.out).2.2 2 p220 q220
              obtain rfl : ad207 = ad220 := (by injection e220)
              (try simp only [show (2 : Int).toNat = 2 from rfl, Nat.reduceMul, Nat.reduceEqDiff, Go.Addr.add, ↓reduceIte] at ao)
              have aX : (2 < ae.length) = True := eq_true (by omega)
              (try rw [show ((2 : Int)).toNat = 2 from rfl] at ao)
              replace p220 := eq_true p220
              replace q220 := eq_true q220
              try go_wp2
              replace ak := rd_ ak
              replace ab := rd_ ab
              replace ad := rd_ ad
              replace ac := dB_ ac
              replace aa := dB_ aa
              replace HB := Aside0.mk (ld_ HB.out)
              have p222 : 0 ≤ (2 : Int) := (by omega)
              have q222 : 2 < (ae.length : Int) := od_
              obtain ⟨ad222, e222, aA⟩ := Kd.at_string (Kd.R_reads' ak.out).2.2 2 p222 q222
              obtain rfl : ad207 = ad222 := (by injection e222)
              (try simp only [show (2 : Int).toNat = 2 from rfl, Nat.reduceMul, Nat.reduceEqDiff, Go.Addr.add, ↓reduceIte] at aA)
              have dS : (2 < ae.length) = True := eq_true (by omega)
              (try rw [show ((2 : Int)).toNat = 2 from rfl] at aA)
              replace p222 := eq_true p222
              replace q222 := eq_true q222
              have p47 : 0 ≤ (ax : Int) := od_
              have q47 : ax < ((rdOf ByteArray.empty ae 2).size : Int) := od_
              have hx47 := bt_at (rdOf ByteArray.empty ae 2) ax
              replace p47 := eq_true p47
              replace q47 := eq_true q47
              refine start_ (n := 13) (S := fun w' => w'.cell? ⟨ai, 0, none⟩ = some (u210000) ∧ w'.cell? ⟨ai, 1, none⟩ = some (.int .i64 an) ∧ w'.cell? ⟨ai, 2, none⟩ = some (u210002) ∧ w'.cell? ⟨ad207.block, ad207.off + 2, none⟩ = some (.string (rdOf ByteArray.empty ae 2))) (ds := [10, 12]) #[false, false, false, false, false, false, false, false, false, false, false, false, false] (by kernel_rfl) rfl rfl ⟨(blk_cell aa.out 0).trans rfl, (blk_cell aa.out 1).trans rfl, (blk_cell aa.out 2).trans rfl, aA⟩ (fun hHeld => ?_); refine with_tabW spec_ReadPlace.tab13 spec_ReadPlace.bits13 (fun HT_ HW_ => ?_)
              generalize wr.drew = ei at ak ab ad ac aa HB aA hHeld ⊢
              refine pu_ 0 (some 54) #[true, false, false, false, false, false, false, false, false, false, false, false, false] HT_ rfl rfl ?_
              refine pu_ 2 (some 56) #[true, false, true, false, false, false, false, false, false, false, false, false, false] HT_ rfl rfl ?_
              refine pu_ 3 (some 57) #[true, false, true, true, false, false, false, false, false, false, false, false, false] HT_ rfl rfl ?_
              refine pu_ 5 (some 59) #[true, false, true, true, false, true, false, false, false, false, false, false, false] HT_ rfl rfl ?_
              refine ta_ 1 (some 55) #[true, true, true, true, false, true, false, false, false, false, false, false, false] HT_ HW_ hHeld rfl rfl ?_
              refine ta_ 4 (some 58) #[true, true, true, true, true, true, false, false, false, false, false, false, false] HT_ HW_ hHeld rfl rfl ?_
              refine ta_ 6 (some 60) #[true, true, true, true, true, true, true, false, false, false, false, false, false] HT_ HW_ hHeld rfl rfl ?_
              refine pu_ 7 (some 61) #[true, true, true, true, true, true, true, true, false, false, false, false, false] HT_ rfl rfl ?_
              refine pu_ 8 (some 62) #[true, true, true, true, true, true, true, true, true, false, false, false, false] HT_ rfl rfl ?_
              refine one_ (i := 9) (N := some 63) #[true, true, true, true, true, true, true, true, true, true, false, false, false] rfl rfl (one_of HT_.out (by kernel_rfl)) (by decide) (fun K hK => ?_)
              refine va_ rfl ?_
              refine hK.out _ _ ⟨(blk_cell (blk_alloc aa.out _) 0).trans rfl, (blk_cell (blk_alloc aa.out _) 1).trans rfl, (blk_cell (blk_alloc aa.out _) 2).trans rfl, (World.cell?_alloc_lt _ _ _ (World.block_lt_of_cell? _ _ (hHeld.2.2.2))).trans (hHeld.2.2.2)⟩ (fun hHeld => ?_)
              clear hK K
              refine nr_ 63 ?_
              refine last_ (i := 10) (N := some 64) #[true, true, true, true, true, true, true, true, true, true, true, false, false] rfl rfl (one_of HT_.out (by kernel_rfl)) (by decide) (fun K hK => ?_)
              refine Kd.R_append_step (Kd.int .i64) (w0 := w) w.heap.size (by rfl) (.tmp 55) (.tmp 63) 37 3 (.int .i64 0) 8 rfl Tryz.underlying37 info3 rfl (by decide) (by omega) u210002 ag (wrap64 ((wrap64 (bt (rdOf ByteArray.empty ae 2) ax)) - 97)) [.int .i64 (wrap64 ((wrap64 (bt (rdOf ByteArray.empty ae 2) ax)) - 97))] (fun k_ => some k_ ≠ (u210000 : Value).ownBlock) (fun _ => False) rfl rfl ?aP (fun _ hk => hk.elim) ?aF ?aO ?aB ?aS ?aL ?_
              (case aP => exact rfl)
              (case aB => exact (tb_ HB.out))
              (case aF => exact (fun k_ hk => Kd.fresh' (Kd.R_lt (rR_ ab.out)) k_ hk))
              (case aO => exact (rR_ ad.out))
              (case aS => exact (below_size (tb_ HB.out)))
              (case aL => have := bF.out; omega)
              intro d9 ea ho hb hg hat
              rw [← bG.out] at ho
              replace ak := Aside0.mk (Kd.R_over' (rR_ ak.out) (Kd.R_typed (rR_ ad.out)) (by decide) hg)
              replace ab := Aside0.mk (Kd.R_after (ok := (fun _ => True)) (by refine qR_ ?_; exact Kd.R_mono ab.out (fun _ hk => ⟨trivial, hk⟩)) hg hat)
              replace ac := bg_ ac hg (Kd.R_ne ad.out ac.out (by decide))
              replace aa := bg_ aa hg (Kd.R_ne ad.out aa.out (by decide))
              replace HB := Aside0.mk (hb)
              have bg := Aside0.mk (ho)
              clear ad
              clear ho hb hg hat
              obtain ⟨a7, a8, bH⟩ := Kd.R_slice bg.out
              (first | subst bH | (injection bH with f1_ f2_ f3_; have f4_ := f1_.symm; have f5_ := f3_.symm; clear f1_ f2_ f3_; subst f4_; subst f5_))
              refine hK.out _ _ ?_
              clear hK K
              refine nr_ 64 ?_
              refine pu_ 11 (some 65) #[true, true, true, true, true, true, true, true, true, true, true, true, false] HT_ rfl rfl ?_
              refine last_ (i := 12) (N := none) #[true, true, true, true, true, true, true, true, true, true, true, true, true] rfl rfl (one_of HT_.out (by kernel_rfl)) (by decide) (fun K hK => ?_)
              have hs52 : ea.cell? ⟨ai, 2, none⟩ = some (u210002) := (blk_cell aa.out 2).trans rfl
              have hfs52 := blk_frozen aa.out 2
              have cq := al.out
              have cr := am.out
              refine sk_ rfl ?_
              refine hK.out _ _ ?_
              clear hK K
              refine done_ (done_of HT_.out (by kernel_rfl)) ?_
              try go_wp2
              go_roundg k2
              case measure => have := HK1.out; have := HK2.out; omega
              case rel => exact ⟨(wrap64 (ax + 1)), (aV), (.slice a7 aV.length a8), tx_, H', ⟨by have := HK1.out; have := HK2.out; omega⟩, ⟨by refine qR_ ?_; exact Kd.R_mono (Kd.R_far (p := ⟨ai, 2, none⟩) (Kd.R_types ak.out aa.out (by decide)) (fun _ hk => hk.2) (.slice a7 aV.length a8)) (fun _ hk => trivial)⟩, ⟨by refine qR_ ?_; exact Kd.R_mono (Kd.R_far (p := ⟨ai, 2, none⟩) (Kd.R_types ab.out aa.out (by decide)) (fun _ hk => hk.2) (.slice a7 aV.length a8)) (fun _ hk => hk.1.2)⟩, ⟨by refine qR_ ?_; exact Kd.R_mono (Kd.R_far (p := ⟨ai, 2, none⟩) (Kd.R_types bg.out aa.out (by decide)) (fun _ hk => hk.2) (.slice a7 aV.length a8)) (fun _ hk => hk.1)⟩, ⟨tk_ ac.out⟩, ⟨by refine bq_ ?_; refine blk_put (cs := #[u210000, .int .i64 an, u210002]) ?_ 2 _ rfl; exact tk_ aa.out⟩, ⟨(tb_ HB.out)⟩⟩
             ·
              rw [if_neg c48] at H
              exact absurd H (by simp)
            ·
             rw [if_neg c46] at H
             exact absurd H (by simp)
          ·
           rw [if_neg c26] at H
           have bw : decide (ax < ((rdOf ByteArray.empty ae 2).size : Int)) = false := decide_eq_false c26
           clear c26
           by_cases c53 : a0.toList = ([] : List UInt8)
           ·
            rw [if_pos c53] at H
            have bI : (a0.toList == ([] : List UInt8)) = true := beq_iff_eq.mpr c53
            have bJ : (a0.toList != ([] : List UInt8)) = false := bne_eq_false_iff_eq.mpr c53
            clear c53
            simp only [Option.some.injEq, Prod.mk.injEq] at H
            obtain ⟨rfl, rfl, rfl, rfl⟩ := H
            have p219 : 0 ≤ (2 : Int) := (by omega)
            have q219 : 2 < (ae.length : Int) := od_
            obtain ⟨ad219, e219, ah⟩ := Kd.at_string (Kd.R_reads' ak.out).2.2 2 p219 q219
            obtain rfl : ad207 = ad219 := (by injection e219)
            (try simp only [show (2 : Int).toNat = 2 from rfl, Nat.reduceMul, Nat.reduceEqDiff, Go.Addr.add, ↓reduceIte] at ah)
            have aC : (2 < ae.length) = True := eq_true (by omega)
            (try rw [show ((2 : Int)).toNat = 2 from rfl] at ah)
            replace p219 := eq_true p219
            replace q219 := eq_true q219
            have dT := al.out
            have dU := am.out
            have ct := cz_ ac 0
            have cu := cz_ ac 1
            have cv := cz_ ac 2
            have cw := blk_frozen ac.out 0
            have cx := blk_frozen ac.out 1
            have cy := blk_frozen ac.out 2
            go_wp2
            refine bodyPost_ret (results_ct rfl _ _ aj 39 #[.slice none 0 0, .int .i64 0, .slice none 0 0] (0, 0) _ rfl (ps_ ac.out) Tryz.underlying39 rfl (by kernel_rfl)) rfl ?_
            exact ⟨_, _, tw_, by first | exact Kd.R_nil _ _ _ _ _ | exact Kd.N_nil _ _ _ _ _ | exact Kd.V_nil _ _ _ _ _ | exact Kd.Q_nil _ _ _ _ _ | exact Kd.S_nil _ _ _ _ _, by first | exact Kd.R_nil _ _ _ _ _ | exact Kd.N_nil _ _ _ _ _ | exact Kd.V_nil _ _ _ _ _ | exact Kd.Q_nil _ _ _ _ _ | exact Kd.S_nil _ _ _ _ _, (tb_ HB.out)⟩
           ·
            rw [if_neg c53] at H
            have bI : (a0.toList == ([] : List UInt8)) = false := beq_eq_false_iff_ne.mpr c53
            have bJ : (a0.toList != ([] : List UInt8)) = true := bne_iff_ne.mpr c53
            obtain ⟨aE, A56, H⟩ := bnd_ H
            try dsimp only at H
            by_cases c57 : aE.toList = a0.toList
            ·
             rw [if_pos c57] at H
             have bK : (aE.toList == a0.toList) = true := beq_iff_eq.mpr c57
             have bL : (aE.toList != a0.toList) = false := bne_eq_false_iff_eq.mpr c57
             clear c57
             simp only [Option.some.injEq, Prod.mk.injEq] at H
             obtain ⟨rfl, rfl, rfl, rfl⟩ := H
             have p219 : 0 ≤ (2 : Int) := (by omega)
             have q219 : 2 < (ae.length : Int) := od_
             obtain ⟨ad219, e219, ah⟩ := Kd.at_string (Kd.R_reads' ak.out).2.2 2 p219 q219
             obtain rfl : ad207 = ad219 := (by injection e219)
             (try simp only [show (2 : Int).toNat = 2 from rfl, Nat.reduceMul, Nat.reduceEqDiff, Go.Addr.add, ↓reduceIte] at ah)
             have aC : (2 < ae.length) = True := eq_true (by omega)
             (try rw [show ((2 : Int)).toNat = 2 from rfl] at ah)
             replace p219 := eq_true p219
             replace q219 := eq_true q219
             have dV := am.out
             have dW := al.out
             have cz := cz_ aa 0
             have cA := cz_ aa 1
             have cB := cz_ aa 2
             have cC := blk_frozen aa.out 0
             have cD := blk_frozen aa.out 1
             have cE := blk_frozen aa.out 2
             obtain ⟨a9, bb, dt⟩ := Kd.R_slice ab.out
             subst dt
             obtain ⟨bc, bd, du⟩ := Kd.R_slice ad.out
             subst du
             go_wp2_with (first | (go_at_call 43; (with_reducible refine (spec_PlaceText.calls k2 _ _ af an _ _ ag aE _ ?s1 ?s2 ?s3 ?s4 A56.out).mono ?_); (case s1 => repeat (first | exact (Kd.R_reads' ab.out).2.2 | (with_reducible refine Kd.C_alloc ?_ _) | (with_reducible refine Kd.C_drewN ?_ _) | (with_reducible refine Kd.C_drew ?_))); (case s2 => exact (Kd.R_reads' ab.out).2.1); (case s3 => repeat (first | exact (Kd.R_reads' ad.out).2.2 | (with_reducible refine Kd.C_alloc ?_ _) | (with_reducible refine Kd.C_drewN ?_ _) | (with_reducible refine Kd.C_drew ?_))); (case s4 => exact (Kd.R_reads' ad.out).2.1); rintro e ej ⟨rfl, hb⟩; have n0_ := Aside0.mk (Kd.R_below (rR_ ak.out) hb); have n1_ := Aside0.mk (Kd.R_below (rR_ ab.out) hb); have n2_ := Aside0.mk (Kd.R_below (rR_ ad.out) hb); have n3_ := Aside0.mk (blk_below (g := aj) (o := .cells #[.slice none 0 0, .int .i64 0, .slice none 0 0] 39 (0, 0)) (tk_ ac.out) hb); have n4_ := Aside0.mk (blk_below (g := ai) (o := .cells #[.slice a9 af.length bb, .int .i64 an, .slice bc ag.length bd] 39 (0, 0)) (tk_ aa.out) hb); have n5_ := Aside0.mk (below_step (tb_ HB.out) hb); clear ak ab ad ac aa HB; have ak := n0_; have ab := n1_; have ad := n2_; have ac := n3_; have aa := n4_; have HB := n5_; clear n0_ n1_ n2_ n3_ n4_ n5_; (try clear hb); (try clear hb2); (try clear hk); (try clear hi); have cF := cz_ aa 0; have cG := cz_ aa 1; have cH := cz_ aa 2; have cI := blk_frozen aa.out 0; have cJ := blk_frozen aa.out 1; have cK := blk_frozen aa.out 2; have cL := cz_ ac 0; have cM := cz_ ac 1; have cN := cz_ ac 2; have cO := blk_frozen ac.out 0; have cP := blk_frozen ac.out 1; have cQ := blk_frozen ac.out 2))
             refine bodyPost_ret (results_ct rfl _ _ aj 39 #[.slice a9 af.length bb, .int .i64 an, .slice bc ag.length bd] (0, 0) _ rfl (ps_ ac.out) Tryz.underlying39 rfl (by kernel_rfl)) rfl ?_
             exact ⟨_, _, tw_, by refine qR_ ?_; exact Kd.R_mono (Kd.R_far (p := ⟨aj, 2, none⟩) (Kd.R_far (p := ⟨aj, 1, none⟩) (Kd.R_far (p := ⟨aj, 0, none⟩) (Kd.R_types ab.out ac.out (by decide)) (fun _ hk => hk.2) (.slice a9 af.length bb)) (fun _ hk => hk.2) (.int .i64 an)) (fun _ hk => hk.2) (.slice bc ag.length bd)) (fun _ hk => hk.1), by refine qR_ ?_; exact Kd.R_mono (Kd.R_far (p := ⟨aj, 2, none⟩) (Kd.R_far (p := ⟨aj, 1, none⟩) (Kd.R_far (p := ⟨aj, 0, none⟩) (Kd.R_types ad.out ac.out (by decide)) (fun _ hk => hk.2) (.slice a9 af.length bb)) (fun _ hk => hk.2) (.int .i64 an)) (fun _ hk => hk.2) (.slice bc ag.length bd)) (fun _ hk => hk.1), (tb_ HB.out)⟩
            ·
             rw [if_neg c57] at H
             have bK : (aE.toList == a0.toList) = false := beq_eq_false_iff_ne.mpr c57
             have bL : (aE.toList != a0.toList) = true := bne_iff_ne.mpr c57
             simp only [Option.some.injEq, Prod.mk.injEq] at H
             obtain ⟨rfl, rfl, rfl, rfl⟩ := H
             have p219 : 0 ≤ (2 : Int) := (by omega)
             have q219 : 2 < (ae.length : Int) := od_
             obtain ⟨ad219, e219, ah⟩ := Kd.at_string (Kd.R_reads' ak.out).2.2 2 p219 q219
             obtain rfl : ad207 = ad219 := (by injection e219)
             (try simp only [show (2 : Int).toNat = 2 from rfl, Nat.reduceMul, Nat.reduceEqDiff, Go.Addr.add, ↓reduceIte] at ah)
             have aC : (2 < ae.length) = True := eq_true (by omega)
             (try rw [show ((2 : Int)).toNat = 2 from rfl] at ah)
             replace p219 := eq_true p219
             replace q219 := eq_true q219
             have dX := am.out
             have dY := al.out
             have cR := cz_ aa 0
             have cS := cz_ aa 1
             have cT := cz_ aa 2
             have cU := blk_frozen aa.out 0
             have cV := blk_frozen aa.out 1
             have cW := blk_frozen aa.out 2
             obtain ⟨dv, dw, dx⟩ := Kd.R_slice ab.out
             subst dx
             obtain ⟨dy, dz, dA⟩ := Kd.R_slice ad.out
             subst dA
             go_wp2_with (first | (go_at_call 43; (with_reducible refine (spec_PlaceText.calls k2 _ _ af an _ _ ag aE _ ?s1 ?s2 ?s3 ?s4 A56.out).mono ?_); (case s1 => repeat (first | exact (Kd.R_reads' ab.out).2.2 | (with_reducible refine Kd.C_alloc ?_ _) | (with_reducible refine Kd.C_drewN ?_ _) | (with_reducible refine Kd.C_drew ?_))); (case s2 => exact (Kd.R_reads' ab.out).2.1); (case s3 => repeat (first | exact (Kd.R_reads' ad.out).2.2 | (with_reducible refine Kd.C_alloc ?_ _) | (with_reducible refine Kd.C_drewN ?_ _) | (with_reducible refine Kd.C_drew ?_))); (case s4 => exact (Kd.R_reads' ad.out).2.1); rintro e ek ⟨rfl, hb⟩; have n0_ := Aside0.mk (Kd.R_below (rR_ ak.out) hb); have n1_ := Aside0.mk (Kd.R_below (rR_ ab.out) hb); have n2_ := Aside0.mk (Kd.R_below (rR_ ad.out) hb); have n3_ := Aside0.mk (blk_below (g := aj) (o := .cells #[.slice none 0 0, .int .i64 0, .slice none 0 0] 39 (0, 0)) (tk_ ac.out) hb); have n4_ := Aside0.mk (blk_below (g := ai) (o := .cells #[.slice dv af.length dw, .int .i64 an, .slice dy ag.length dz] 39 (0, 0)) (tk_ aa.out) hb); have n5_ := Aside0.mk (below_step (tb_ HB.out) hb); clear ak ab ad ac aa HB; have ak := n0_; have ab := n1_; have ad := n2_; have ac := n3_; have aa := n4_; have HB := n5_; clear n0_ n1_ n2_ n3_ n4_ n5_; (try clear hb); (try clear hb2); (try clear hk); (try clear hi); have cX := cz_ ac 0; have cY := cz_ ac 1; have cZ := cz_ ac 2; have c0 := blk_frozen ac.out 0; have c2 := blk_frozen ac.out 1; have c7 := blk_frozen ac.out 2))
             refine bodyPost_ret (results_ct rfl _ _ aj 39 #[.slice none 0 0, .int .i64 0, .slice none 0 0] (0, 0) _ rfl (ps_ ac.out) Tryz.underlying39 rfl (by kernel_rfl)) rfl ?_
             exact ⟨_, _, tw_, by first | exact Kd.R_nil _ _ _ _ _ | exact Kd.N_nil _ _ _ _ _ | exact Kd.V_nil _ _ _ _ _ | exact Kd.Q_nil _ _ _ _ _ | exact Kd.S_nil _ _ _ _ _, by first | exact Kd.R_nil _ _ _ _ _ | exact Kd.N_nil _ _ _ _ _ | exact Kd.V_nil _ _ _ _ _ | exact Kd.Q_nil _ _ _ _ _ | exact Kd.S_nil _ _ _ _ _, (tb_ HB.out)⟩
         ·
          rw [if_neg c25] at H
          exact absurd H (by simp)
   ·
    rw [if_neg c6] at H
    exact absurd H (by simp)
  ·
   rw [if_neg c4] at H
   exact absurd H (by simp)
 ·
  rw [if_neg c3] at H
  have bh : ((ae.length : Int) == 3) = false := beq_eq_false_iff_ne.mpr c3
  have bi : ((ae.length : Int) != 3) = true := bne_iff_ne.mpr c3
  simp only [Option.some.injEq, Prod.mk.injEq] at H
  obtain ⟨rfl, rfl, rfl, rfl⟩ := H
  go_enter Tryz.func50, Tryz.ntmps50
  go_wp2_with (first | ((with_reducible refine gate_dst (N := 2) rfl ?_); refine box_event ?hg (N := 2) ?hd (cs := #[.slice none 0 0, .int .i64 0, .slice none 0 0]) (t := 39) ?hr ?_; (case hd => rfl); (case hg => rfl); (case hr => first | (go_simp; done) | (go_simp; rfl)); intro aj hg el hbox hb; have ac := Aside0.mk (hbox); have bn := gx_ HB hg; have bo := gx_ HB hg; replace HB := bs_ HB hb; clear hb hbox hg) | ((with_reducible refine gate_callee (f := 84) rfl ?_); refine gl_ (some 10) Tryz.func84 #[.string a0, .int .u8 32] ?_; (with_reducible refine (spec_l1Cut.calls k a0 32 ae _ A2.out).mono ?_); rintro e em ⟨df, rfl, ho0, hb⟩; refine ⟨_, rfl, ?_⟩; have aq := rx_ ho0 HB; replace ac := bb_ ac hb; replace HB := bs_ HB hb; (try clear hb); (try clear hb2); (try clear hk); (try clear hi); (try clear ho0); obtain ⟨eb, ec, dB⟩ := Kd.R_slice aq.out; subst dB; have c9 := cz_ ac 0; have da := cz_ ac 1; have db := cz_ ac 2; have dc := blk_frozen ac.out 0; have dd := blk_frozen ac.out 1; have de := blk_frozen ac.out 2))
  refine bodyPost_ret (results_ct rfl _ _ aj 39 #[.slice none 0 0, .int .i64 0, .slice none 0 0] (0, 0) _ rfl (ps_ ac.out) Tryz.underlying39 rfl (by kernel_rfl)) rfl ?_
  exact ⟨_, _, tw_, by first | exact Kd.R_nil _ _ _ _ _ | exact Kd.N_nil _ _ _ _ _ | exact Kd.V_nil _ _ _ _ _ | exact Kd.Q_nil _ _ _ _ _ | exact Kd.S_nil _ _ _ _ _, by first | exact Kd.R_nil _ _ _ _ _ | exact Kd.N_nil _ _ _ _ _ | exact Kd.V_nil _ _ _ _ _ | exact Kd.Q_nil _ _ _ _ _ | exact Kd.S_nil _ _ _ _ _, (tb_ HB.out)⟩

end Go.Proofs.YtfibbdefcppfcaaGreatDoor.MFnExactStoreMend
