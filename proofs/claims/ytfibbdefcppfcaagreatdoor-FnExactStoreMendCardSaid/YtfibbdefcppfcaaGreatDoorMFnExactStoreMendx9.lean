/- For the law FnExactStoreMend: walks of the functions that it reaches: each call returns what the plain function beside it tells. The conditions stand in each statement. -/
import Derived.Test.YtfibbdefcppfcaaGreatDoorV
import Derived.Test.YtfibbdefcppfcaaGreatDoorMFnExactStoreMendx0
import Derived.Test.YtfibbdefcppfcaaGreatDoorMFnExactStoreMendx6
import Derived.Test.YtfibbdefcppfcaaGreatDoorMFnExactStoreMendx8
namespace Go.Proofs.YtfibbdefcppfcaaGreatDoor.MFnExactStoreMend
open Go.RowKit Go.Proofs.YtfibbdefcppfcaaGreatDoorW.PrintWords Go.Proofs.YtfibbdefcppfcaaGreatDoorW.PrintLast Go.Proofs.YtfibbdefcppfcaaGreatDoorW.PrintMore
attribute [local go_sem] max2_int min2_int max_two min_two max_three min_three max_four min_four   -- for this text's walks alone
set_option linter.unusedVariables false
set_option linter.unusedSimpArgs false

/-! ### spec_ReadDeed: function 69 -/
mutual
def spec_ReadDeed.j0 : Nat → ByteArray → List ByteArray → List (S34) → Option (Int × Int × Int × Bool)
 | 0, _, _, _ => none
 | k + 1, x0, x4, x5 => if (x4.length : Int) = 3 then (if 1 < (x4.length : Int) then ((spec_l15Signed.f k (rdOf ByteArray.empty x4 1)).bind fun aI => (if 2 < (x4.length : Int) then ((spec_l15Signed.f k (rdOf ByteArray.empty x4 2)).bind fun aJ => (if x5.length < 5864062014805 then (spec_ReadDeed.j1 k x0 (x5 ++ [(⟨0, aI, aJ⟩ : S34)])) else (none))) else (none))) else (none)) else (spec_ReadDeed.j1 k x0 x5)
def spec_ReadDeed.j1 : Nat → ByteArray → List (S34) → Option (Int × Int × Int × Bool)
 | 0, _, _ => none
 | k + 1, x0, x5 => spec_ReadDeed.l0 k x0 x5 0
def spec_ReadDeed.l0 : Nat → ByteArray → List (S34) → Int → Option (Int × Int × Int × Bool)
 | 0, _, _, _ => none
 | k + 1, x0, x5, x7 => if x7 < (x5.length : Int) then (if x0.toList = ([] : List UInt8) then (spec_ReadDeed.l0 k x0 x5 (wrap64 (x7 + 1))) else (if 0 ≤ x7 then ((spec_DeedText.f k ((rd_T34 x5 x7).f0) ((rd_T34 x5 x7).f1) ((rd_T34 x5 x7).f2)).bind fun aE => (if aE.toList = x0.toList then (some ((rd_T34 x5 x7).f0, (rd_T34 x5 x7).f1, (rd_T34 x5 x7).f2, true)) else (spec_ReadDeed.l0 k x0 x5 (wrap64 (x7 + 1))))) else (none))) else (some (0, 0, 0, false))
end
def spec_ReadDeed.f (k : Nat) (a0 : ByteArray) : Option (Int × Int × Int × Bool) := (spec_l1Cut.f k a0 32).bind fun ab => ((some (([(⟨3, 0, 0⟩ : S34), (⟨4, 0, 0⟩ : S34)] : List (S34)) : List (S34))).bind fun ao => (if (ab.length : Int) = 2 then (if 1 < (ab.length : Int) then ((spec_l15Signed.f k (rdOf ByteArray.empty ab 1)).bind fun al => ((some (([(⟨1, al, 0⟩ : S34), (⟨2, al, 0⟩ : S34)] : List (S34)) : List (S34))).bind fun au => (if ao.length + au.length < 5864062014805 then (spec_ReadDeed.j0 k a0 ab (ao ++ au)) else (none)))) else (none)) else (spec_ReadDeed.j0 k a0 ab ao)))
theorem spec_ReadDeed.mono_l : ∀ k, (∀ y0 y1 y2, LeO (spec_ReadDeed.j0 k y0 y1 y2) (spec_ReadDeed.j0 (k + 1) y0 y1 y2)) ∧ (∀ y0 y1, LeO (spec_ReadDeed.j1 k y0 y1) (spec_ReadDeed.j1 (k + 1) y0 y1)) ∧ (∀ y0 y1 y2, LeO (spec_ReadDeed.l0 k y0 y1 y2) (spec_ReadDeed.l0 (k + 1) y0 y1 y2))
 | 0 => ⟨fun _ _ _ r h => by simp [spec_ReadDeed.j0] at h, fun _ _ r h => by simp [spec_ReadDeed.j1] at h, fun _ _ _ r h => by simp [spec_ReadDeed.l0] at h⟩
 | k + 1 => by
  obtain ⟨ih0, ih1, ih2⟩ := spec_ReadDeed.mono_l k
  refine ⟨?_, ?_, ?_⟩
  ·
   intro y0 y1 y2
   unfold spec_ReadDeed.j0
   repeat' (with_reducible first | exact ih0 _ _ _ | exact ih1 _ _ | exact ih2 _ _ _ | exact spec_DeedText.mono _ _ _ _ | exact spec_l15Signed.mono _ _ | exact spec_l1Cut.mono _ _ _ | exact mr_ | exact mn_ | refine mi_ ?_ ?_ | refine mb_ ?_ (fun _ => ?_))
  ·
   intro y0 y1
   unfold spec_ReadDeed.j1
   repeat' (with_reducible first | exact ih0 _ _ _ | exact ih1 _ _ | exact ih2 _ _ _ | exact spec_DeedText.mono _ _ _ _ | exact spec_l15Signed.mono _ _ | exact spec_l1Cut.mono _ _ _ | exact mr_ | exact mn_ | refine mi_ ?_ ?_ | refine mb_ ?_ (fun _ => ?_))
  ·
   intro y0 y1 y2
   unfold spec_ReadDeed.l0
   repeat' (with_reducible first | exact ih0 _ _ _ | exact ih1 _ _ | exact ih2 _ _ _ | exact spec_DeedText.mono _ _ _ _ | exact spec_l15Signed.mono _ _ | exact spec_l1Cut.mono _ _ _ | exact mr_ | exact mn_ | refine mi_ ?_ ?_ | refine mb_ ?_ (fun _ => ?_))
theorem spec_ReadDeed.mono : ∀ a0 k, LeO (spec_ReadDeed.f k a0) (spec_ReadDeed.f (k + 1) a0) := by
 intro a0 k
 obtain ⟨ih0, ih1, ih2⟩ := spec_ReadDeed.mono_l k
 unfold spec_ReadDeed.f
 repeat' (with_reducible first | exact ih0 _ _ _ | exact ih1 _ _ | exact ih2 _ _ _ | exact spec_DeedText.mono _ _ _ _ | exact spec_l15Signed.mono _ _ | exact spec_l1Cut.mono _ _ _ | exact mr_ | exact mn_ | refine mi_ ?_ ?_ | refine mb_ ?_ (fun _ => ?_))
def spec_ReadDeed.T7 : Bool × List (List Nat × List Nat) := (true, [([], []), ([], []), ([1], [1]), ([2], [2]), ([3], [3]), ([], []), ([5], [5]), ([6], [6]), ([7, 4], [7]), ([4, 8], [4, 8]), ([9], [9]), ([0, 10, 8], [0, 10]), ([11, 11, 0, 1, 2, 3, 4, 5, 6, 7, 8, 9, 10, 11], [0, 11])])
def spec_ReadDeed.B7 : List Nat := [0, 0, 2, 6, 14, 0, 32, 96, 254, 510, 1022, 2047, 4095]
theorem spec_ReadDeed.tab7 : rtab .any (opsOf Tryz.f69 7) = spec_ReadDeed.T7 := by kernel_rfl
theorem spec_ReadDeed.bits7 : waitsOk spec_ReadDeed.T7.2 spec_ReadDeed.B7 = true := by kernel_rfl
set_option maxHeartbeats 8000000 in
set_option maxRecDepth 100000 in
theorem spec_ReadDeed.calls (k : Nat) (a0 : ByteArray) (r1 : Int) (r2 : Int) (r3 : Int) (r4 : Bool) (w : World) (h : spec_ReadDeed.f k a0 = some (r1, r2, r3, r4)) :
  Calls Tryz.prog 69 #[.string a0] w fun e w' => e = .returned (.tuple #[.agg #[.int .i64 r1, .int .i64 r2, .int .i64 r3], .bool r4]) ∧ Below w.heap.size w w' := by
 have hu34 := Tryz.underlying34
 have HB := Aside0.mk (Below.refl w.heap.size w)
 have H : ((spec_l1Cut.f k a0 32).bind fun ab => ((some (([(⟨3, 0, 0⟩ : S34), (⟨4, 0, 0⟩ : S34)] : List (S34)) : List (S34))).bind fun ao => (if (ab.length : Int) = 2 then (if 1 < (ab.length : Int) then ((spec_l15Signed.f k (rdOf ByteArray.empty ab 1)).bind fun al => ((some (([(⟨1, al, 0⟩ : S34), (⟨2, al, 0⟩ : S34)] : List (S34)) : List (S34))).bind fun au => (if ao.length + au.length < 5864062014805 then (spec_ReadDeed.j0 k a0 ab (ao ++ au)) else (none)))) else (none)) else (spec_ReadDeed.j0 k a0 ab ao)))) = some (r1, r2, r3, r4) := h
 clear h
 obtain ⟨ab, A2, H⟩ := bnd_ H
 try dsimp only at H
 obtain ⟨ao, aU⟩ : ∃ y_ : List (S34), y_ = (([(⟨3, 0, 0⟩ : S34), (⟨4, 0, 0⟩ : S34)] : List (S34))) := ⟨_, rfl⟩
 replace H : (if (ab.length : Int) = 2 then (if 1 < (ab.length : Int) then ((spec_l15Signed.f k (rdOf ByteArray.empty ab 1)).bind fun al => ((some (([(⟨1, al, 0⟩ : S34), (⟨2, al, 0⟩ : S34)] : List (S34)) : List (S34))).bind fun au => (if ao.length + au.length < 5864062014805 then (spec_ReadDeed.j0 k a0 ab (ao ++ au)) else (none)))) else (none)) else (spec_ReadDeed.j0 k a0 ab ao)) = some (r1, r2, r3, r4) := yq_ aU H
 have a6 := Aside0.mk aU
 clear aU
 have HC3 := Aside0.mk H
 clear H
 go_enter Tryz.func69, Tryz.ntmps69
 go_upto_if 15 with (first | ((with_reducible refine gate_dst (N := 2) rfl ?_); refine box_event ?hg (N := 2) ?hd (cs := #[.int .i64 0, .int .i64 0, .int .i64 0]) (t := 34) ?hr ?_; (case hd => rfl); (case hg => rfl); (case hr => first | (go_simp; done) | (go_simp; rfl)); intro af hg w4 hbox hb; have aa := Aside0.mk (hbox); have ci := gx_ HB hg; have cj := gx_ HB hg; replace HB := bs_ HB hb; clear hb hbox hg) | ((with_reducible refine gate_callee (f := 84) rfl ?_); refine gl_ (some 9) Tryz.func84 #[.string a0, .int .u8 32] ?_; (with_reducible refine (spec_l1Cut.calls k a0 32 ab _ A2.out).mono ?_); rintro e w5 ⟨cp, rfl, ho0, hb⟩; refine ⟨_, rfl, ?_⟩; have ar := rx_ ho0 HB; replace aa := bb_ aa hb; replace HB := bs_ HB hb; (try clear hb); (try clear hb2); (try clear hk); (try clear hi); (try clear ho0)) | ((with_reducible refine gate_dst (N := 12) rfl ?_); refine Kd.R_lit k34 _ 34 ?hg (N := 12) ?hd (xs := ([(⟨3, 0, 0⟩ : S34), (⟨4, 0, 0⟩ : S34)] : List (S34))) (inner := [.int .i64 3, .int .i64 0, .int .i64 0, .int .i64 4, .int .i64 0, .int .i64 0]) (ok := fun _ => True) (okp := fun _ => True) ?hr ?hp (fun _ hk => hk) trivial (Below.refl _ _) (Nat.le_refl _) (by simp) ?_; (case hd => rfl); (case hg => rfl); (case hr => first | (go_simp; done) | (go_simp; rfl)); (case hp => exact (Reps.c3 (show Kd.M k34 _ _ _ (⟨3, 0, 0⟩ : S34) [.int .i64 3, .int .i64 0, .int .i64 0] from (k34_mkM _ _ _ (⟨3, 0, 0⟩ : S34) )) (Reps.c3 (show Kd.M k34 _ _ _ (⟨4, 0, 0⟩ : S34) [.int .i64 4, .int .i64 0, .int .i64 0] from (k34_mkM _ _ _ (⟨4, 0, 0⟩ : S34) )) (Reps.none _ _)))); intro b5 w6 ho7 hb hg_ hnew_; clear hg_ hnew_; (first | rw [← a6.out] at ho7 | (simp only [Int.reduceToNat] at ho7; rw [← a6.out] at ho7)); replace ar := rb_ ar hb; have ax := Aside0.mk (Kd.R_lower (Kd.R_newB ho7 (g := af) (o := .cells #[.int .i64 0, .int .i64 0, .int .i64 0] 34 (0, 0)) (tk_ aa.out)) (below_size (tb_ HB.out))); replace aa := bb_ aa hb; replace HB := bs_ HB hb; clear hb ho7; obtain ⟨cq, co8, cr⟩ := Kd.R_slice ar.out; subst cr))
 (try simp only [Act.put, sa_, sb_, sc_])
 go_cut [5] (fun v5 wc => ∃ (kq : Nat) (aK : List (S34)), Aside0 (spec_ReadDeed.j0 kq a0 ab aK = some (r1, r2, r3, r4)) ∧ Aside0 (kq ≤ k) ∧ Aside0 (Kd.R Kd.string 9 wc w.heap.size (fun _ => True) (.slice cq ab.length co8) ab) ∧ Aside0 (Kd.R k34 34 wc w.heap.size (fun k_ => k_ ≠ af) v5 aK) ∧ Aside0 (wc.heap[af]? = some (.cells #[.int .i64 0, .int .i64 0, .int .i64 0] 34 (0, 0))) ∧ Aside0 (Below w.heap.size w wc))
 case first =>
  have H := HC3.out
  clear HC3
  by_cases c9 : (ab.length : Int) = 2
  ·
   rw [if_pos c9] at H
   have aG : ((ab.length : Int) == 2) = true := beq_iff_eq.mpr c9
   have aV : ((ab.length : Int) != 2) = false := bne_eq_false_iff_eq.mpr c9
   clear c9
   (first | rw [aG] | (simp only [i64_w, i32_w]; rw [aG]) | skip)
   by_cases c10 : 1 < (ab.length : Int)
   ·
    rw [if_pos c10] at H
    have aM : decide (1 < (ab.length : Int)) = true := decide_eq_true c10
    have aN : decide (1 < ab.length) = true := decide_eq_true (by omega)
    clear c10
    obtain ⟨al, A11, H⟩ := bnd_ H
    try dsimp only at H
    obtain ⟨au, aW⟩ : ∃ y_ : List (S34), y_ = (([(⟨1, al, 0⟩ : S34), (⟨2, al, 0⟩ : S34)] : List (S34))) := ⟨_, rfl⟩
    replace H : (if ao.length + au.length < 5864062014805 then (spec_ReadDeed.j0 k a0 ab (ao ++ au)) else (none)) = some (r1, r2, r3, r4) := yq_ aW H
    have a7 := Aside0.mk aW
    clear aW
    by_cases c12 : ao.length + au.length < 5864062014805
    ·
     rw [if_pos c12] at H
     have be := Aside0.mk c12
     clear c12
     obtain ⟨bf, aX⟩ : ∃ y_ : List (S34), y_ = (ao ++ au) := ⟨_, rfl⟩
     replace H : (spec_ReadDeed.j0 k a0 ab bf) = some (r1, r2, r3, r4) := yq_ aX H
     have bg := Aside0.mk aX
     clear aX
     have H' := Aside0.mk H
     clear H
     have p252 : 0 ≤ (1 : Int) := (by omega)
     have q252 : 1 < (ab.length : Int) := od_
     obtain ⟨ad252, e252, av⟩ := Kd.at_string (Kd.R_reads' ar.out).2.2 1 p252 q252
     cases e252
     (try simp only [show (1 : Int).toNat = 1 from rfl, Nat.reduceMul, Nat.reduceEqDiff, Go.Addr.add, ↓reduceIte] at av)
     have ck : (1 < ab.length) = True := eq_true (by omega)
     (try rw [show ((1 : Int)).toNat = 1 from rfl] at av)
     replace p252 := eq_true p252
     replace q252 := eq_true q252
     go_wp2_with (first | ((with_reducible refine gate_callee (f := 85) rfl ?_); refine gl_ (some 19) Tryz.func85 #[.string (rdOf ByteArray.empty ab 1)] ?_; (with_reducible refine (spec_l15Signed.calls k (rdOf ByteArray.empty ab 1) al _ A11.out).mono ?_); rintro e w' ⟨rfl, ⟨nd, rfl⟩⟩; refine ⟨_, rfl, ?_⟩) | ((with_reducible refine gate_dst (N := 25) rfl ?_); refine Kd.R_lit k34 _ 34 ?hg (N := 25) ?hd (xs := ([(⟨1, al, 0⟩ : S34), (⟨2, al, 0⟩ : S34)] : List (S34))) (inner := [.int .i64 1, .int .i64 al, .int .i64 0, .int .i64 2, .int .i64 al, .int .i64 0]) (ok := fun _ => True) (okp := fun _ => True) ?hr ?hp (fun _ hk => hk) trivial (Below.refl _ _) (Nat.le_refl _) (by simp) ?_; (case hd => rfl); (case hg => rfl); (case hr => first | (go_simp; done) | (go_simp; rfl)); (case hp => exact (Reps.c3 (show Kd.M k34 _ _ _ (⟨1, al, 0⟩ : S34) [.int .i64 1, .int .i64 al, .int .i64 0] from (k34_mkM _ _ _ (⟨1, al, 0⟩ : S34) )) (Reps.c3 (show Kd.M k34 _ _ _ (⟨2, al, 0⟩ : S34) [.int .i64 2, .int .i64 al, .int .i64 0] from (k34_mkM _ _ _ (⟨2, al, 0⟩ : S34) )) (Reps.none _ _)))); intro ct cK ho14 hb hg_ hnew_; clear hg_ hnew_; (first | rw [← a7.out] at ho14 | (simp only [Int.reduceToNat] at ho14; rw [← a7.out] at ho14)); replace ar := rb_ ar hb; have aH := Aside0.mk (Kd.R_lower (Kd.R_newB (Kd.R_new' ho14 (Kd.R_lt (rR_ ax.out))) (g := af) (o := .cells #[.int .i64 0, .int .i64 0, .int .i64 0] 34 (0, 0)) (tk_ aa.out)) (below_size (tb_ HB.out))); replace ax := Aside0.mk (Kd.R_elder' (rR_ ax.out) (Kd.R_base ho14) hb); replace aa := bb_ aa hb; replace HB := bs_ HB hb; clear hb ho14; obtain ⟨b6, b7, b8⟩ := Kd.R_slice aH.out; subst b8) | ((with_reducible refine gate_builtin (b := .append) (xs := #[.tmp 20, .tmp 25]) rfl ?_); at_builtin; refine Kd.R_append_rows k34 (w0 := w) w.heap.size rfl (.tmp 20) (.tmp 25) 58 34 (.agg #[(.int .i64 0), (.int .i64 0), (.int .i64 0)]) 24 rfl Tryz.underlying58 info34 rfl (by decide) (by omega) b5 ao au _ _ _ (fun k_ => some k_ ≠ (.slice b6 au.length b7 : Value).ownBlock ∧ k_ ≠ af) (fun _ => False) rfl rfl ?aO ?aR (fun _ _ h => h) (fun _ h => h.elim) ?aF ?aB ?aS ?aL ?_; (case aR => repeat (first | exact (Kd.R_reads' aH.out).2.2 | (with_reducible refine Kd.C_alloc ?_ _) | (with_reducible refine Kd.C_drewN ?_ _) | (with_reducible refine Kd.C_drew ?_))); (case aB => exact (tb_ HB.out)); (case aF => exact (fun k_ hk => ⟨Kd.fresh' (Kd.R_lt (rR_ aH.out)) k_ hk, Kd.freshB (g := af) (o := .cells #[.int .i64 0, .int .i64 0, .int .i64 0] 34 (0, 0)) (tk_ aa.out) k_ hk⟩)); (case aO => exact (by refine qR_ ?_; exact Kd.R_mono ax.out (fun _ hk => ⟨hk.2, hk.1.2⟩))); (case aS => exact (below_size (tb_ HB.out))); (case aL => have := be.out; omega); intro cu cv ho hb hg hat; rw [← bg.out] at ho; replace aa := bg_ aa hg (Kd.R_away ax.out (fun _ hk => hk.1.2)); replace ar := Aside0.mk (Kd.R_over' (rR_ ar.out) (Kd.R_typed (rR_ ax.out)) (by decide) hg); replace aH := Aside0.mk (Kd.R_after (ok := (fun k_ => k_ ≠ af)) (by refine qR_ ?_; exact Kd.R_mono aH.out (fun _ hk => ⟨hk.2, hk.1.2⟩)) hg hat); replace HB := Aside0.mk (hb); have bh := Aside0.mk (ho); clear ax ho hb hg hat))
     go_meet
     case rel => exact ⟨_, (bf), H', ⟨by first | omega | exact Nat.le_refl _⟩, ⟨rR_ ar.out⟩, ⟨by refine qR_ ?_; exact Kd.R_mono bh.out (fun _ hk => hk.2)⟩, ⟨tk_ aa.out⟩, ⟨(tb_ HB.out)⟩⟩
    ·
     rw [if_neg c12] at H
     exact absurd H (by simp)
   ·
    rw [if_neg c10] at H
    exact absurd H (by simp)
  ·
   rw [if_neg c9] at H
   have aG : ((ab.length : Int) == 2) = false := beq_eq_false_iff_ne.mpr c9
   have aV : ((ab.length : Int) != 2) = true := bne_iff_ne.mpr c9
   (first | rw [aG] | (simp only [i64_w, i32_w]; rw [aG]) | skip)
   have H' := Aside0.mk H
   clear H
   go_wp2
   go_meet
   case rel => exact ⟨_, (ao), H', ⟨by first | omega | exact Nat.le_refl _⟩, ⟨rR_ ar.out⟩, ⟨by refine qR_ ?_; exact Kd.R_mono ax.out (fun _ hk => hk.2)⟩, ⟨tk_ aa.out⟩, ⟨(tb_ HB.out)⟩⟩
 case rest =>
  clear HC3
  try clear c1
  try clear p2
  try clear q2
  try clear hx2
  try clear cl
  try clear c3
  try clear c6
  try clear c8
  try clear c9
  try clear aG
  try clear aV
  try clear c10
  try clear aM
  try clear aN
  try clear c12
  try clear av
  try clear p252
  try clear q252
  obtain ⟨kq, aK, HA, HJ2, am, ag, aa, HB⟩ := hcut
  cases kq with
  | zero => exact absurd HA.out (by simp [spec_ReadDeed.j0])
  | succ kj2 =>
   have H := HA.out
   clear HA
   simp only [spec_ReadDeed.j0] at H
   have HC17 := Aside0.mk H
   clear H
   go_upto_if 29 with (fail)
   go_cut [5] (fun v5 wc => ∃ (kq : Nat) (ad : List (S34)), Aside0 (spec_ReadDeed.j1 kq a0 ad = some (r1, r2, r3, r4)) ∧ Aside0 (kq ≤ kj2) ∧ Aside0 (Kd.R k34 34 wc w.heap.size (fun k_ => k_ ≠ af) v5 ad) ∧ Aside0 (wc.heap[af]? = some (.cells #[.int .i64 0, .int .i64 0, .int .i64 0] 34 (0, 0))) ∧ Aside0 (Below w.heap.size w wc))
   case first =>
    have H := HC17.out
    clear HC17
    by_cases c18 : (ab.length : Int) = 3
    ·
     rw [if_pos c18] at H
     have ay : ((ab.length : Int) == 3) = true := beq_iff_eq.mpr c18
     have aY : ((ab.length : Int) != 3) = false := bne_eq_false_iff_eq.mpr c18
     clear c18
     (first | rw [ay] | (simp only [i64_w, i32_w]; rw [ay]) | skip)
     by_cases c19 : 1 < (ab.length : Int)
     ·
      rw [if_pos c19] at H
      have a8 : decide (1 < (ab.length : Int)) = true := decide_eq_true c19
      have a9 : decide (1 < ab.length) = true := decide_eq_true (by omega)
      clear c19
      obtain ⟨aI, A20, H⟩ := bnd_ H
      try dsimp only at H
      by_cases c21 : 2 < (ab.length : Int)
      ·
       rw [if_pos c21] at H
       have bb : decide (2 < (ab.length : Int)) = true := decide_eq_true c21
       have bc : decide (2 < ab.length) = true := decide_eq_true (by omega)
       clear c21
       obtain ⟨aJ, A22, H⟩ := bnd_ H
       try dsimp only at H
       by_cases c23 : aK.length < 5864062014805
       ·
        rw [if_pos c23] at H
        have bi := Aside0.mk c23
        clear c23
        obtain ⟨bj, aZ⟩ : ∃ y_ : List (S34), y_ = (aK ++ [(⟨0, aI, aJ⟩ : S34)]) := ⟨_, rfl⟩
        replace H : (spec_ReadDeed.j1 kj2 a0 bj) = some (r1, r2, r3, r4) := yq_ aZ H
        have bk := Aside0.mk aZ
        clear aZ
        have H' := Aside0.mk H
        clear H
        try go_wp2
        replace am := rd_ am
        replace ag := rd_ ag
        replace aa := dB_ aa
        replace HB := Aside0.mk (ld_ HB.out)
        have p260 : 0 ≤ (1 : Int) := (by omega)
        have q260 : 1 < (ab.length : Int) := od_
        obtain ⟨ad260, e260, ap⟩ := Kd.at_string (Kd.R_reads' am.out).2.2 1 p260 q260
        cases e260
        (try simp only [show (1 : Int).toNat = 1 from rfl, Nat.reduceMul, Nat.reduceEqDiff, Go.Addr.add, ↓reduceIte] at ap)
        have cm : (1 < ab.length) = True := eq_true (by omega)
        (try rw [show ((1 : Int)).toNat = 1 from rfl] at ap)
        replace p260 := eq_true p260
        replace q260 := eq_true q260
        have p262 : 0 ≤ (2 : Int) := (by omega)
        have q262 : 2 < (ab.length : Int) := od_
        obtain ⟨ad262, e262, aq⟩ := Kd.at_string (Kd.R_reads' am.out).2.2 2 p262 q262
        obtain rfl : ad260 = ad262 := (by injection e262)
        (try simp only [show (2 : Int).toNat = 2 from rfl, Nat.reduceMul, Nat.reduceEqDiff, Go.Addr.add, ↓reduceIte] at aq)
        have cn : (2 < ab.length) = True := eq_true (by omega)
        (try rw [show ((2 : Int)).toNat = 2 from rfl] at aq)
        replace p262 := eq_true p262
        replace q262 := eq_true q262
        refine start_ (n := 13) (S := fun w' => w'.cell? ⟨ad260.block, ad260.off + 1, none⟩ = some (.string (rdOf ByteArray.empty ab 1)) ∧ w'.cell? ⟨ad260.block, ad260.off + 2, none⟩ = some (.string (rdOf ByteArray.empty ab 2))) (ds := [10, 11]) #[false, false, false, false, false, false, false, false, false, false, false, false, false] (by kernel_rfl) rfl rfl ⟨ap, aq⟩ (fun hHeld => ?_); refine with_tabW spec_ReadDeed.tab7 spec_ReadDeed.bits7 (fun HT_ HW_ => ?_)
        generalize wc.drew = cL at am ag aa HB ap aq hHeld ⊢
        refine pu_ 0 (some 30) #[true, false, false, false, false, false, false, false, false, false, false, false, false] HT_ rfl rfl ?_
        refine pu_ 1 (some 31) #[true, true, false, false, false, false, false, false, false, false, false, false, false] HT_ rfl rfl ?_
        refine pu_ 2 (some 32) #[true, true, true, false, false, false, false, false, false, false, false, false, false] HT_ rfl rfl ?_
        refine pu_ 5 (some 35) #[true, true, true, false, false, true, false, false, false, false, false, false, false] HT_ rfl rfl ?_
        refine pu_ 6 (some 36) #[true, true, true, false, false, true, true, false, false, false, false, false, false] HT_ rfl rfl ?_
        refine ta_ 3 (some 33) #[true, true, true, true, false, true, true, false, false, false, false, false, false] HT_ HW_ hHeld rfl rfl ?_
        refine ta_ 7 (some 37) #[true, true, true, true, false, true, true, true, false, false, false, false, false] HT_ HW_ hHeld rfl rfl ?_
        refine one_ (i := 4) (N := some 34) #[true, true, true, true, true, true, true, true, false, false, false, false, false] rfl rfl (one_of HT_.out (by kernel_rfl)) (by decide) (fun K hK => ?_)
        refine goes_ Tryz.func85 (by kernel_rfl) rfl #[.string (rdOf ByteArray.empty ab 1)] (by rfl) rfl rfl tz_ ?_
        with_reducible refine (spec_l15Signed.calls kj2 (rdOf ByteArray.empty ab 1) aI _ A20.out).mono ?_
        rintro e w' ⟨rfl, ⟨nd, rfl⟩⟩
        refine ⟨_, rfl, ?_⟩
        refine hK.out _ _ ⟨hHeld.1, hHeld.2⟩ (fun hHeld => ?_)
        clear hK K
        refine nr_ 34 ?_
        refine one_ (i := 8) (N := some 38) #[true, true, true, true, true, true, true, true, true, false, false, false, false] rfl rfl (one_of HT_.out (by kernel_rfl)) (by decide) (fun K hK => ?_)
        refine goes_ Tryz.func85 (by kernel_rfl) rfl #[.string (rdOf ByteArray.empty ab 2)] (by rfl) rfl rfl tz_ ?_
        with_reducible refine (spec_l15Signed.calls kj2 (rdOf ByteArray.empty ab 2) aJ _ A22.out).mono ?_
        rintro e w' ⟨rfl, ⟨nd, rfl⟩⟩
        refine ⟨_, rfl, ?_⟩
        refine hK.out _ _ ⟨hHeld.1, hHeld.2⟩ (fun hHeld => ?_)
        clear hK K
        refine nr_ 38 ?_
        refine pu_ 9 (some 39) #[true, true, true, true, true, true, true, true, true, true, false, false, false] HT_ rfl rfl ?_
        refine last_ (i := 10) (N := some 40) #[true, true, true, true, true, true, true, true, true, true, true, false, false] rfl rfl (one_of HT_.out (by kernel_rfl)) (by decide) (fun K hK => ?_)
        refine va_ rfl ?_
        refine hK.out _ _ ?_
        clear hK K
        refine nr_ 40 ?_
        refine last_ (i := 11) (N := some 41) #[true, true, true, true, true, true, true, true, true, true, true, true, false] rfl rfl (one_of HT_.out (by kernel_rfl)) (by decide) (fun K hK => ?_)
        refine Kd.R_append_step k34 (w0 := w) w.heap.size (by rfl) (.tmp 30) (.tmp 40) 58 34 (.agg #[(.int .i64 0), (.int .i64 0), (.int .i64 0)]) 24 rfl Tryz.underlying58 info34 rfl (by decide) (by omega) u5 aK (⟨0, aI, aJ⟩ : S34) [.int .i64 0, .int .i64 aI, .int .i64 aJ] (fun k_ => k_ ≠ af) (fun _ => False) rfl rfl ?aP (fun _ hk => hk.elim) ?aF ?aO ?aB ?aS ?aL ?_
        (case aP => exact k34_mkM _ _ _ (⟨0, aI, aJ⟩ : S34))
        (case aB => exact (tb_ HB.out))
        (case aF => exact (fun k_ hk => Kd.freshB (g := af) (o := .cells #[.int .i64 0, .int .i64 0, .int .i64 0] 34 (0, 0)) (tk_ aa.out) k_ hk))
        (case aO => exact (rR_ ag.out))
        (case aS => exact (below_size (tb_ HB.out)))
        (case aL => have := bi.out; omega)
        intro cw cM ho hb hg hat
        rw [← bk.out] at ho
        replace am := Aside0.mk (Kd.R_over' (rR_ am.out) (Kd.R_typed (rR_ ag.out)) (by decide) hg)
        replace aa := bg_ aa hg (Kd.R_away ag.out (fun _ hk => hk))
        replace HB := Aside0.mk (hb)
        have bl := Aside0.mk (ho)
        clear ag
        clear ho hb hg hat
        refine hK.out _ _ ?_
        clear hK K
        refine nr_ 41 ?_
        refine pu_ 12 (some 5) #[true, true, true, true, true, true, true, true, true, true, true, true, true] HT_ rfl rfl ?_
        refine done_ (done_of HT_.out (by kernel_rfl)) ?_
        try go_wp2
        go_meet
        case rel => exact ⟨_, (bj), H', ⟨by have := HJ2.out; first | omega | exact Nat.le_refl _⟩, ⟨rR_ bl.out⟩, ⟨tk_ aa.out⟩, ⟨(tb_ HB.out)⟩⟩
       ·
        rw [if_neg c23] at H
        exact absurd H (by simp)
      ·
       rw [if_neg c21] at H
       exact absurd H (by simp)
     ·
      rw [if_neg c19] at H
      exact absurd H (by simp)
    ·
     rw [if_neg c18] at H
     have ay : ((ab.length : Int) == 3) = false := beq_eq_false_iff_ne.mpr c18
     have aY : ((ab.length : Int) != 3) = true := bne_iff_ne.mpr c18
     (first | rw [ay] | (simp only [i64_w, i32_w]; rw [ay]) | skip)
     have H' := Aside0.mk H
     clear H
     go_wp2
     go_meet
     case rel => exact ⟨_, (aK), H', ⟨by have := HJ2.out; first | omega | exact Nat.le_refl _⟩, ⟨rR_ ag.out⟩, ⟨tk_ aa.out⟩, ⟨(tb_ HB.out)⟩⟩
   case rest =>
    clear HC17
    try clear c1
    try clear c2
    try clear p2
    try clear q2
    try clear hx2
    try clear cl
    try clear c3
    try clear c6
    try clear c8
    try clear c9
    try clear aG
    try clear aV
    try clear c10
    try clear aM
    try clear aN
    try clear c12
    try clear c18
    try clear ay
    try clear aY
    try clear c19
    try clear a8
    try clear a9
    try clear c21
    try clear bb
    try clear bc
    try clear c23
    try clear p25
    try clear q25
    try clear hx25
    try clear b9
    try clear av
    try clear ap
    try clear aq
    try clear p2
    try clear p252
    try clear p260
    try clear p262
    try clear q2
    try clear q252
    try clear q260
    try clear q262
    obtain ⟨kq, ad, HA, HJ16, ag, aa, HB⟩ := hcut
    cases kq with
    | zero => exact absurd HA.out (by simp [spec_ReadDeed.j1])
    | succ kj16 =>
     have H := HA.out
     clear HA
     simp only [spec_ReadDeed.j1] at H
     have H' := Aside0.mk H
     clear H
     go_wp2
     go_loopg [7] kj16 (fun kq v7 w' => ∃ (ae : Int) (ai : Int) (aj : Int) (ak : Int), v7 = .int .i64 ae ∧ Aside0 (spec_ReadDeed.l0 kq a0 ad ae = some (r1, r2, r3, r4)) ∧ Aside0 (kq ≤ kj16) ∧ Aside0 (Kd.R k34 34 w' w.heap.size (fun k_ => k_ ≠ af) u5 ad) ∧ Aside0 (w'.heap[af]? = some (.cells #[.int .i64 ai, .int .i64 aj, .int .i64 ak] 34 (0, 0))) ∧ Aside0 (Below w.heap.size w w'))
     case atStart => exact ⟨(0), (0), (0), (0), tx_, H', ⟨Nat.le_refl _⟩, ⟨rR_ ag.out⟩, ⟨tk_ aa.out⟩, ⟨(tb_ HB.out)⟩⟩
     case round =>
      clear H'
      try clear c1
      try clear c2
      try clear p2
      try clear q2
      try clear hx2
      try clear cl
      try clear c3
      try clear c6
      try clear c8
      try clear c9
      try clear aG
      try clear aV
      try clear c10
      try clear aM
      try clear aN
      try clear c12
      try clear c18
      try clear ay
      try clear aY
      try clear c19
      try clear a8
      try clear a9
      try clear c21
      try clear bb
      try clear bc
      try clear c23
      try clear p25
      try clear q25
      try clear hx25
      try clear b9
      try clear av
      try clear ap
      try clear aq
      try clear p2
      try clear p25
      try clear p252
      try clear p260
      try clear p262
      try clear q2
      try clear q25
      try clear q252
      try clear q260
      try clear q262
      obtain ⟨ae, ai, aj, ak, rfl, HA, HK3, ag, aa, HB⟩ := hrel
      cases gk with
      | zero => exact absurd HA.out (by simp [spec_ReadDeed.l0])
      | succ k3 =>
       have H := HA.out
       clear HA
       simp only [spec_ReadDeed.l0] at H
       by_cases c26 : ae < (ad.length : Int)
       ·
        rw [if_pos c26] at H
        have bm : decide (ae < (ad.length : Int)) = true := decide_eq_true c26
        clear c26
        by_cases c27 : a0.toList = ([] : List UInt8)
        ·
         rw [if_pos c27] at H
         have bn : (a0.toList == ([] : List UInt8)) = true := beq_iff_eq.mpr c27
         have bo : (a0.toList != ([] : List UInt8)) = false := bne_eq_false_iff_eq.mpr c27
         clear c27
         have H' := Aside0.mk H
         clear H
         obtain ⟨cx, cy, ca⟩ := Kd.R_slice ag.out
         subst ca
         go_wp2
         go_roundg k3
         case measure => have := HJ2.out; have := HJ16.out; have := HK3.out; omega
         case rel => exact ⟨(wrap64 (ae + 1)), (ai), (aj), (ak), tx_, H', ⟨by have := HJ2.out; have := HJ16.out; have := HK3.out; omega⟩, ⟨rR_ ag.out⟩, ⟨tk_ aa.out⟩, ⟨(tb_ HB.out)⟩⟩
        ·
         rw [if_neg c27] at H
         have bn : (a0.toList == ([] : List UInt8)) = false := beq_eq_false_iff_ne.mpr c27
         have bo : (a0.toList != ([] : List UInt8)) = true := bne_iff_ne.mpr c27
         by_cases c29 : 0 ≤ ae
         ·
          rw [if_pos c29] at H
          have co : decide (0 ≤ ae) = true := decide_eq_true c29
          clear c29
          obtain ⟨aE, A30, H⟩ := bnd_ H
          try dsimp only at H
          by_cases c31 : aE.toList = a0.toList
          ·
           rw [if_pos c31] at H
           have bp : (aE.toList == a0.toList) = true := beq_iff_eq.mpr c31
           have bq : (aE.toList != a0.toList) = false := bne_eq_false_iff_eq.mpr c31
           clear c31
           simp only [Option.some.injEq, Prod.mk.injEq] at H
           obtain ⟨rfl, rfl, rfl, rfl⟩ := H
           obtain ⟨cz, cA, cb⟩ := Kd.R_slice ag.out
           subst cb
           have p267 : 0 ≤ (ae : Int) := od_
           have q267 : ae < (ad.length : Int) := od_
           obtain ⟨ad267, e267, a3, a4, a5⟩ := at_T34 (Kd.R_reads' ag.out).2.2 ae p267 q267
           cases e267
           replace p267 := eq_true p267
           replace q267 := eq_true q267
           go_wp2_with (first | (go_at_call 47; (with_reducible refine (spec_DeedText.calls k3 ((rd_T34 ad ae).f0) ((rd_T34 ad ae).f1) ((rd_T34 ad ae).f2) aE _ A30.out).mono ?_); rintro e cN ⟨rfl, hb⟩; have n0_ := Aside0.mk (Kd.R_below (rR_ ag.out) hb); have n1_ := Aside0.mk (blk_below (g := af) (o := .cells #[.int .i64 ai, .int .i64 aj, .int .i64 ak] 34 (0, 0)) (tk_ aa.out) hb); have n2_ := Aside0.mk (below_step (tb_ HB.out) hb); clear ag aa HB; have ag := n0_; have aa := n1_; have HB := n2_; clear n0_ n1_ n2_; (try clear hb); (try clear hb2); (try clear hk); (try clear hi); have p269 : 0 ≤ (ae : Int) := od_; have q269 : ae < (ad.length : Int) := od_; obtain ⟨ad269, e269, bC, bD, bE⟩ := at_T34 (Kd.R_reads' ag.out).2.2 ae p269 q269; obtain rfl : ad267 = ad269 := (by injection e269); replace p269 := eq_true p269; replace q269 := eq_true q269; have bF := cz_ aa 0; have bG := cz_ aa 1; have bH := cz_ aa 2; have bI := blk_frozen aa.out 0; have bJ := blk_frozen aa.out 1; have bK := blk_frozen aa.out 2))
           refine bodyPost_ret (results_ct rfl _ _ af 34 #[.int .i64 ((rd_T34 ad ae).f0), .int .i64 ((rd_T34 ad ae).f1), .int .i64 ((rd_T34 ad ae).f2)] (0, 0) _ rfl (ps_ aa.out) Tryz.underlying34 rfl (by kernel_rfl)) rfl ?_
           exact ⟨tw_, (tb_ HB.out)⟩
          ·
           rw [if_neg c31] at H
           have bp : (aE.toList == a0.toList) = false := beq_eq_false_iff_ne.mpr c31
           have bq : (aE.toList != a0.toList) = true := bne_iff_ne.mpr c31
           have H' := Aside0.mk H
           clear H
           obtain ⟨cB, cC, cc⟩ := Kd.R_slice ag.out
           subst cc
           have p267 : 0 ≤ (ae : Int) := od_
           have q267 : ae < (ad.length : Int) := od_
           obtain ⟨ad267, e267, a3, a4, a5⟩ := at_T34 (Kd.R_reads' ag.out).2.2 ae p267 q267
           cases e267
           replace p267 := eq_true p267
           replace q267 := eq_true q267
           go_wp2_with (first | (go_at_call 47; (with_reducible refine (spec_DeedText.calls k3 ((rd_T34 ad ae).f0) ((rd_T34 ad ae).f1) ((rd_T34 ad ae).f2) aE _ A30.out).mono ?_); rintro e cO ⟨rfl, hb⟩; have n0_ := Aside0.mk (Kd.R_below (rR_ ag.out) hb); have n1_ := Aside0.mk (blk_below (g := af) (o := .cells #[.int .i64 ai, .int .i64 aj, .int .i64 ak] 34 (0, 0)) (tk_ aa.out) hb); have n2_ := Aside0.mk (below_step (tb_ HB.out) hb); clear ag aa HB; have ag := n0_; have aa := n1_; have HB := n2_; clear n0_ n1_ n2_; (try clear hb); (try clear hb2); (try clear hk); (try clear hi)))
           go_roundg k3
           case measure => have := HJ2.out; have := HJ16.out; have := HK3.out; omega
           case rel => exact ⟨(wrap64 (ae + 1)), (ai), (aj), (ak), tx_, H', ⟨by have := HJ2.out; have := HJ16.out; have := HK3.out; omega⟩, ⟨rR_ ag.out⟩, ⟨tk_ aa.out⟩, ⟨(tb_ HB.out)⟩⟩
         ·
          rw [if_neg c29] at H
          exact absurd H (by simp)
       ·
        rw [if_neg c26] at H
        have bm : decide (ae < (ad.length : Int)) = false := decide_eq_false c26
        clear c26
        simp only [Option.some.injEq, Prod.mk.injEq] at H
        obtain ⟨rfl, rfl, rfl, rfl⟩ := H
        obtain ⟨cD, cE, cd⟩ := Kd.R_slice ag.out
        subst cd
        have bL := cz_ aa 0
        have bM := cz_ aa 1
        have bN := cz_ aa 2
        have bO := blk_frozen aa.out 0
        have bP := blk_frozen aa.out 1
        have bQ := blk_frozen aa.out 2
        go_wp2
        refine bodyPost_ret (results_ct rfl _ _ af 34 #[.int .i64 0, .int .i64 0, .int .i64 0] (0, 0) _ rfl (ps_ aa.out) Tryz.underlying34 rfl (by kernel_rfl)) rfl ?_
        exact ⟨tw_, (tb_ HB.out)⟩

/-! ### spec_ReadJournal: function 41 -/
def spec_ReadJournal.l0 : Nat → ByteArray → List (S34) → Int → Int → Option ((List (S34)) × Int)
 | 0, _, _, _, _ => none
 | k + 1, x0, x4, x5, x6 => if x6 < (x0.size : Int) then (if 0 ≤ x6 then (if (bt x0 x6) = 10 then (if 0 ≤ x5 then (if x5 ≤ x6 then (if x6 ≤ (x0.size : Int) then ((spec_ReadDeed.f k (x0.extract (x5 : Int).toNat (x6 : Int).toNat)).bind fun aQ => (if aQ.2.2.2 = true then (if x4.length < 5864062014805 then (spec_ReadJournal.l0 k x0 (x4 ++ [(⟨aQ.1, aQ.2.1, aQ.2.2.1⟩ : S34)]) (wrap64 (x6 + 1)) (wrap64 (x6 + 1))) else (none)) else (some (x4, x5)))) else (none)) else (none)) else (none)) else (spec_ReadJournal.l0 k x0 x4 x5 (wrap64 (x6 + 1)))) else (none)) else (some (x4, x5))
def spec_ReadJournal.f (k : Nat) (a0 : ByteArray) : Option ((List (S34)) × Int) := spec_ReadJournal.l0 k a0 (([] : List (S34))) 0 0
theorem spec_ReadJournal.mono_l : ∀ k, (∀ y0 y1 y2 y3, LeO (spec_ReadJournal.l0 k y0 y1 y2 y3) (spec_ReadJournal.l0 (k + 1) y0 y1 y2 y3))
 | 0 => fun _ _ _ _ r h => by simp [spec_ReadJournal.l0] at h
 | k + 1 => by
  have ih0 := spec_ReadJournal.mono_l k
  ·
   intro y0 y1 y2 y3
   unfold spec_ReadJournal.l0
   repeat' (with_reducible first | exact ih0 _ _ _ _ | exact spec_ReadDeed.mono _ _ | exact mr_ | exact mn_ | refine mi_ ?_ ?_ | refine mb_ ?_ (fun _ => ?_))
theorem spec_ReadJournal.mono : ∀ a0 k, LeO (spec_ReadJournal.f k a0) (spec_ReadJournal.f (k + 1) a0) := by
 intro a0 k
 have ih0 := spec_ReadJournal.mono_l k
 unfold spec_ReadJournal.f
 repeat' (with_reducible first | exact ih0 _ _ _ _ | exact spec_ReadDeed.mono _ _ | exact mr_ | exact mn_ | refine mi_ ?_ ?_ | refine mb_ ?_ (fun _ => ?_))
set_option maxHeartbeats 8000000 in
set_option maxRecDepth 100000 in
theorem spec_ReadJournal.calls (k : Nat) (a0 : ByteArray) (r1 : List (S34)) (r2 : Int) (w : World) (h : spec_ReadJournal.f k a0 = some (r1, r2)) :
  Calls Tryz.prog 41 #[.string a0] w fun e w' => ∃ v0_ : Value, e = .returned (.tuple #[v0_, .int .i64 r2]) ∧ Kd.R k34 34 w' w.heap.size (fun _ => True) v0_ r1 ∧ Below w.heap.size w w' := by
 have hu34 := Tryz.underlying34
 have HB := Aside0.mk (Below.refl w.heap.size w)
 have H : (spec_ReadJournal.l0 k a0 (([] : List (S34))) 0 0) = some (r1, r2) := h
 clear h
 obtain ⟨br, a1⟩ : ∃ y_ : List (S34), y_ = (([] : List (S34))) := ⟨_, rfl⟩
 replace H : (spec_ReadJournal.l0 k a0 br 0 0) = some (r1, r2) := yq_ a1 H
 have bd := Aside0.mk a1
 clear a1
 have H' := Aside0.mk H
 clear H
 go_enter Tryz.func41, Tryz.ntmps41
 go_wp2_with (first | ((with_reducible refine gate_dst (N := 9) rfl ?_); refine Kd.R_lit k34 _ 34 ?hg (N := 9) ?hd (xs := ([] : List (S34))) (inner := []) (ok := fun _ => True) (okp := fun _ => True) ?hr ?hp (fun _ hk => hk) trivial (Below.refl _ _) (Nat.le_refl _) (by simp) ?_; (case hd => rfl); (case hg => rfl); (case hr => first | (go_simp; done) | (go_simp; rfl)); (case hp => exact (Reps.none _ _)); intro cF w2 ho3 hb hg_ hnew_; clear hg_ hnew_; (first | rw [← bd.out] at ho3 | (simp only [Int.reduceToNat] at ho3; rw [← bd.out] at ho3)); have bs := rx_ ho3 HB; replace HB := bs_ HB hb; clear hb ho3))
 go_loopg [4, 5, 6] k (fun kq v4 v5 v6 w' => ∃ (aD : List (S34)) (aw : Int) (ac : Int), v5 = .int .i64 aw ∧ v6 = .int .i64 ac ∧ Aside0 (spec_ReadJournal.l0 kq a0 aD aw ac = some (r1, r2)) ∧ Aside0 (kq ≤ k) ∧ Aside0 (Kd.R k34 34 w' w.heap.size (fun _ => True) v4 aD) ∧ Aside0 (Below w.heap.size w w'))
 case atStart => exact ⟨(br), (0), (0), tx_, tx_, H', ⟨Nat.le_refl _⟩, ⟨rR_ bs.out⟩, ⟨(tb_ HB.out)⟩⟩
 case round =>
  clear H'
  try clear p2
  obtain ⟨aD, aw, ac, rfl, rfl, HA, HK1, am, HB⟩ := hrel
  cases gk with
  | zero => exact absurd HA.out (by simp [spec_ReadJournal.l0])
  | succ k1 =>
   have H := HA.out
   clear HA
   simp only [spec_ReadJournal.l0] at H
   by_cases c4 : ac < (a0.size : Int)
   ·
    rw [if_pos c4] at H
    have ce : decide (ac < (a0.size : Int)) = true := decide_eq_true c4
    clear c4
    by_cases c5 : 0 ≤ ac
    ·
     rw [if_pos c5] at H
     have cG : decide (0 ≤ ac) = true := decide_eq_true c5
     clear c5
     by_cases c7 : (bt a0 ac) = 10
     ·
      rw [if_pos c7] at H
      have cf : ((bt a0 ac) == 10) = true := beq_iff_eq.mpr c7
      have cg : ((bt a0 ac) != 10) = false := bne_eq_false_iff_eq.mpr c7
      clear c7
      by_cases c8 : 0 ≤ aw
      ·
       rw [if_pos c8] at H
       have cH := eq_true c8
       have cI : decide (0 ≤ aw) = true := decide_eq_true c8
       clear c8
       by_cases c9 : aw ≤ ac
       ·
        rw [if_pos c9] at H
        have aG := eq_true c9
        have aV : decide (aw ≤ ac) = true := decide_eq_true c9
        clear c9
        by_cases c10 : ac ≤ (a0.size : Int)
        ·
         rw [if_pos c10] at H
         have aM := eq_true c10
         have aN : decide (ac ≤ (a0.size : Int)) = true := decide_eq_true c10
         clear c10
         obtain ⟨⟨az, aA, aC, ch⟩, A11, H⟩ := bnd_ H
         try dsimp only at H
         by_cases c12 : ch = true
         ·
          subst c12
          have H1 : (if aD.length < 5864062014805 then (spec_ReadJournal.l0 k1 a0 (aD ++ [(⟨az, aA, aC⟩ : S34)]) (wrap64 (ac + 1)) (wrap64 (ac + 1))) else (none)) = some (r1, r2) := by rw [if_pos rfl] at H; exact H
          clear H
          have H := H1
          clear H1
          by_cases c13 : aD.length < 5864062014805
          ·
           rw [if_pos c13] at H
           have bu := Aside0.mk c13
           clear c13
           obtain ⟨bv, a2⟩ : ∃ y_ : List (S34), y_ = (aD ++ [(⟨az, aA, aC⟩ : S34)]) := ⟨_, rfl⟩
           replace H : (spec_ReadJournal.l0 k1 a0 bv (wrap64 (ac + 1)) (wrap64 (ac + 1))) = some (r1, r2) := yq_ a2 H
           have bw := Aside0.mk a2
           clear a2
           have H' := Aside0.mk H
           clear H
           have p6 : 0 ≤ (ac : Int) := od_
           have q6 : ac < (a0.size : Int) := od_
           have hx6 := bt_at a0 ac
           replace p6 := eq_true p6
           replace q6 := eq_true q6
           go_wp2_with (first | ((with_reducible refine gate_callee (f := 69) rfl ?_); refine gl_ (some 25) Tryz.func69 #[.string (a0.extract (aw : Int).toNat (ac : Int).toNat)] ?_; (with_reducible refine (spec_ReadDeed.calls k1 (a0.extract (aw : Int).toNat (ac : Int).toNat) az aA aC true _ A11.out).mono ?_); rintro e cP ⟨rfl, hb⟩; refine ⟨_, rfl, ?_⟩; replace am := rb_ am hb; replace HB := bs_ HB hb; (try clear hb); (try clear hb2); (try clear hk); (try clear hi)) | ((with_reducible refine gate_dst (N := 7) rfl ?_); refine box_event ?hg (N := 7) ?hd (cs := #[.int .i64 0, .int .i64 0, .int .i64 0]) (t := 34) ?hr ?_; (case hd => rfl); (case hg => rfl); (case hr => first | (go_simp; done) | (go_simp; rfl)); intro an hg cv hbox hb; replace am := Aside0.mk (Kd.R_below (Kd.R_elderB (rR_ am.out) an (Nat.le_of_eq hg.symm)) hb); have ah := Aside0.mk (hbox); have bx := gx_ HB hg; have bz := gx_ HB hg; replace HB := bs_ HB hb; clear hb hbox hg; have bR := cz_ ah 0; have bS := cz_ ah 1; have bU := cz_ ah 2; have bV := blk_frozen ah.out 0; have bW := blk_frozen ah.out 1; have bX := blk_frozen ah.out 2) | ((with_reducible refine gate_builtin (b := .append) (xs := #[.tmp 32, .tmp 34]) rfl ?_); at_builtin; refine Kd.R_append k34 (w0 := w) w.heap.size rfl (.tmp 32) (.tmp 34) 58 34 (.agg #[(.int .i64 0), (.int .i64 0), (.int .i64 0)]) 24 rfl Tryz.underlying58 info34 rfl (by decide) (by omega) u4 aD (⟨az, aA, aC⟩ : S34) [.int .i64 az, .int .i64 aA, .int .i64 aC] (fun k_ => k_ ≠ an) (fun _ => False) rfl (by first | (go_simp; done) | (go_simp; rfl)) ?aP (fun _ hk => hk.elim) ?aF ?aO ?aB ?aS ?aL ?_; (case aP => exact k34_mkM _ _ _ (⟨az, aA, aC⟩ : S34)); (case aB => exact (tb_ HB.out)); (case aF => exact (fun k_ hk => Kd.freshB (g := an) (o := .cells #[.int .i64 az, .int .i64 aA, .int .i64 aC] 34 (0, 0)) (ps_ ah.out) k_ hk)); (case aO => exact (by refine qR_ ?_; exact Kd.R_mono (Kd.R_far (p := ⟨an, 2, none⟩) (Kd.R_far (p := ⟨an, 1, none⟩) (Kd.R_far (p := ⟨an, 0, none⟩) (Kd.R_mono am.out (fun k_ hk => (⟨hk, hk.2⟩ : _ ∧ k_ ≠ an))) (fun _ hk => hk.2) (.int .i64 az)) (fun _ hk => hk.2) (.int .i64 aA)) (fun _ hk => hk.2) (.int .i64 aC)) (fun _ hk => hk.1.2))); (case aS => exact (below_size (tb_ HB.out))); (case aL => have := bu.out; omega); intro cJ cQ ho hb hg hat; rw [← bw.out] at ho; replace ah := Aside0.mk (blk_grown (g := an) (o := .cells #[.int .i64 az, .int .i64 aA, .int .i64 aC] 34 (0, 0)) (ps_ ah.out) hg (Kd.R_away am.out (fun _ hk => hk.2))); replace HB := Aside0.mk (hb); have bB := Aside0.mk (ho); clear am ho hb hg hat))
           go_roundg k1
           case measure => have := HK1.out; omega
           case rel => exact ⟨(bv), (wrap64 (ac + 1)), (wrap64 (ac + 1)), tx_, tx_, H', ⟨by have := HK1.out; omega⟩, ⟨by refine qR_ ?_; exact Kd.R_mono bB.out (fun _ hk => trivial)⟩, ⟨(tb_ HB.out)⟩⟩
          ·
           rw [if_neg c13] at H
           exact absurd H (by simp)
         ·
          replace c12 := Bool.eq_false_iff.mpr c12
          subst c12
          have H1 : (some (aD, aw)) = some (r1, r2) := by rw [if_neg (show ¬ (false = true) by decide)] at H; exact H
          clear H
          have H := H1
          clear H1
          simp only [Option.some.injEq, Prod.mk.injEq] at H
          obtain ⟨rfl, rfl⟩ := H
          have p6 : 0 ≤ (ac : Int) := od_
          have q6 : ac < (a0.size : Int) := od_
          have hx6 := bt_at a0 ac
          replace p6 := eq_true p6
          replace q6 := eq_true q6
          go_wp2_with (first | ((with_reducible refine gate_callee (f := 69) rfl ?_); refine gl_ (some 25) Tryz.func69 #[.string (a0.extract (aw : Int).toNat (ac : Int).toNat)] ?_; (with_reducible refine (spec_ReadDeed.calls k1 (a0.extract (aw : Int).toNat (ac : Int).toNat) az aA aC false _ A11.out).mono ?_); rintro e cR ⟨rfl, hb⟩; refine ⟨_, rfl, ?_⟩; replace am := rb_ am hb; replace HB := bs_ HB hb; (try clear hb); (try clear hb2); (try clear hk); (try clear hi)) | ((with_reducible refine gate_dst (N := 7) rfl ?_); refine box_event ?hg (N := 7) ?hd (cs := #[.int .i64 0, .int .i64 0, .int .i64 0]) (t := 34) ?hr ?_; (case hd => rfl); (case hg => rfl); (case hr => first | (go_simp; done) | (go_simp; rfl)); intro an hg cS hbox hb; replace am := Aside0.mk (Kd.R_below (Kd.R_elderB (rR_ am.out) an (Nat.le_of_eq hg.symm)) hb); have ah := Aside0.mk (hbox); have bx := gx_ HB hg; have bz := gx_ HB hg; replace HB := bs_ HB hb; clear hb hbox hg; have bZ := cz_ ah 0; have b0 := cz_ ah 1; have b1 := cz_ ah 2; have b2 := blk_frozen ah.out 0; have b3 := blk_frozen ah.out 1; have b4 := blk_frozen ah.out 2))
          go_ret2
          exact ⟨_, tw_, by refine qR_ ?_; exact Kd.R_mono (Kd.R_far (p := ⟨an, 2, none⟩) (Kd.R_far (p := ⟨an, 1, none⟩) (Kd.R_far (p := ⟨an, 0, none⟩) (Kd.R_mono am.out (fun k_ hk => (⟨hk, hk.2⟩ : _ ∧ k_ ≠ an))) (fun _ hk => hk.2) (.int .i64 az)) (fun _ hk => hk.2) (.int .i64 aA)) (fun _ hk => hk.2) (.int .i64 aC)) (fun _ hk => trivial), (tb_ HB.out)⟩
        ·
         rw [if_neg c10] at H
         exact absurd H (by simp)
       ·
        rw [if_neg c9] at H
        exact absurd H (by simp)
      ·
       rw [if_neg c8] at H
       exact absurd H (by simp)
     ·
      rw [if_neg c7] at H
      have cf : ((bt a0 ac) == 10) = false := beq_eq_false_iff_ne.mpr c7
      have cg : ((bt a0 ac) != 10) = true := bne_iff_ne.mpr c7
      have H' := Aside0.mk H
      clear H
      have p6 : 0 ≤ (ac : Int) := od_
      have q6 : ac < (a0.size : Int) := od_
      have hx6 := bt_at a0 ac
      replace p6 := eq_true p6
      replace q6 := eq_true q6
      go_wp2
      go_roundg k1
      case measure => have := HK1.out; omega
      case rel => exact ⟨(aD), (aw), (wrap64 (ac + 1)), tx_, tx_, H', ⟨by have := HK1.out; omega⟩, ⟨rR_ am.out⟩, ⟨(tb_ HB.out)⟩⟩
    ·
     rw [if_neg c5] at H
     exact absurd H (by simp)
   ·
    rw [if_neg c4] at H
    have ce : decide (ac < (a0.size : Int)) = false := decide_eq_false c4
    clear c4
    simp only [Option.some.injEq, Prod.mk.injEq] at H
    obtain ⟨rfl, rfl⟩ := H
    go_wp2
    go_ret2
    exact ⟨_, tw_, by refine qR_ ?_; exact am.out, (tb_ HB.out)⟩

end Go.Proofs.YtfibbdefcppfcaaGreatDoor.MFnExactStoreMend
