/- For the law FnJournalText: walks of the functions that it reaches: each call returns what the plain function beside it tells. The conditions stand in each statement. -/
import Derived.Test.YtlhiienanbpdlaaDoorV
import Derived.Test.YtlhiienanbpdlaaDoorMFnJournalTextx0
import Derived.Test.YtlhiienanbpdlaaDoorMFnJournalTextx3
import Derived.Test.YtlhiienanbpdlaaDoorMFnJournalTextx4
import Derived.Test.YtlhiienanbpdlaaDoorMFnJournalTextx7
import Derived.Test.YtlhiienanbpdlaaDoorMFnJournalTextx8
namespace Go.Proofs.YtlhiienanbpdlaaDoor.MFnJournalText
open Go.RowKit Go.Proofs.YtlhiienanbpdlaaDoorW.PrintWords Go.Proofs.YtlhiienanbpdlaaDoorW.PrintLast Go.Proofs.YtlhiienanbpdlaaDoorW.PrintMore
attribute [local go_sem] max2_int min2_int max_two min_two max_three min_three max_four min_four   -- for this text's walks alone
set_option linter.unusedVariables false
set_option linter.unusedSimpArgs false

/-! ### spec_PlaceOk: function 73 -/
def spec_PlaceOk.j0 : Nat → Bool → List Int → Int → List Int → Option (Bool)
 | 0, _, _, _, _ => none
 | k + 1, x14, aA, aX, aY => if x14 = true then (some false) else ((spec_SameRule.f k (aA.length : Int) aX).bind fun az => ((spec_AfterWord.f k aA az aY).bind fun aG => (some aG.2)))
def spec_PlaceOk.f (k : Nat) (ae : List Int) (a0_1 : Int) (ah : List Int) : Option (Bool) := (spec_StartOk.f k ae).bind fun aH => (if aH = true then ((spec_l1In.f a0_1 (-1) 3).bind fun aq => (spec_PlaceOk.j0 k (!aq) ae a0_1 ah)) else (spec_PlaceOk.j0 k true ae a0_1 ah))
theorem spec_PlaceOk.mono_l : ∀ k, (∀ y0 y1 y2 y3, LeO (spec_PlaceOk.j0 k y0 y1 y2 y3) (spec_PlaceOk.j0 (k + 1) y0 y1 y2 y3))
 | 0 => fun _ _ _ _ r h => by simp [spec_PlaceOk.j0] at h
 | k + 1 => by
  have ih0 := spec_PlaceOk.mono_l k
  ·
   intro y0 y1 y2 y3
   unfold spec_PlaceOk.j0
   repeat' (with_reducible first | exact ih0 _ _ _ _ | exact spec_AfterWord.mono _ _ _ _ | exact spec_SameRule.mono _ _ _ | exact spec_StartOk.mono _ _ | exact mr_ | exact mn_ | refine mi_ ?_ ?_ | refine mb_ ?_ (fun _ => ?_))
theorem spec_PlaceOk.mono : ∀ a0 a1 a2 k, LeO (spec_PlaceOk.f k a0 a1 a2) (spec_PlaceOk.f (k + 1) a0 a1 a2) := by
 intro a0 a1 a2 k
 have ih0 := spec_PlaceOk.mono_l k
 unfold spec_PlaceOk.f
 repeat' (with_reducible first | exact ih0 _ _ _ _ | exact spec_AfterWord.mono _ _ _ _ | exact spec_SameRule.mono _ _ _ | exact spec_StartOk.mono _ _ | exact mr_ | exact mn_ | refine mi_ ?_ ?_ | refine mb_ ?_ (fun _ => ?_))
def spec_PlaceOk.T3 : Bool × List (List Nat × List Nat) := (true, [([], []), ([0], [0]), ([], []), ([2], [2]), ([3], [3]), ([], []), ([5], [5]), ([4, 6], [4, 6]), ([], []), ([8], [8]), ([1, 7, 9, 7], [1, 7, 9]), ([10], [10]), ([11], [11]), ([11], [11]), ([12, 10, 0, 1, 2, 3, 4, 5, 6, 7, 8, 9, 10, 11, 12], [12]), ([13, 14, 0, 1, 2, 3, 4, 5, 6, 7, 8, 9, 10, 11, 12, 13, 14], [13])])
def spec_PlaceOk.B3 : List Nat := [0, 1, 0, 4, 12, 0, 32, 124, 0, 256, 1023, 2047, 4095, 4095, 8191, 32767]
theorem spec_PlaceOk.tab3 : rtab .any (opsOf Tryd.f73 3) = spec_PlaceOk.T3 := by kernel_rfl
theorem spec_PlaceOk.bits3 : waitsOk spec_PlaceOk.T3.2 spec_PlaceOk.B3 = true := by kernel_rfl
set_option maxHeartbeats 8000000 in
set_option maxRecDepth 100000 in
theorem spec_PlaceOk.calls (k : Nat) (ar : Option Addr) (au : Nat) (ae : List Int) (a0_1 : Int) (aD : Option Addr) (aE : Nat) (ah : List Int) (r : Bool) (w : World) (hr0_0 : Kd.C (Kd.int .i64) w ar ae.length ae) (hc0_0 : ae.length ≤ au) (hr0_2 : Kd.C (Kd.int .i64) w aD ah.length ah) (hc0_2 : ah.length ≤ aE) (h : spec_PlaceOk.f k ae a0_1 ah = some r) :
  Calls Tryd.prog 73 #[.agg #[.slice ar ae.length au, .int .i64 a0_1, .slice aD ah.length aE]] w fun e w' => e = .returned (.bool r) ∧ Below w.heap.size w w' := by
 have hu25 := Tryd.underlying25
 have bZ := Aside0.mk hr0_0
 have aI := Aside0.mk hc0_0
 clear hr0_0 hc0_0
 have b0 := Aside0.mk hr0_2
 have bo := Aside0.mk hc0_2
 clear hr0_2 hc0_2
 have HB := Aside0.mk (Below.refl w.heap.size w)
 have H : ((spec_StartOk.f k ae).bind fun aH => (if aH = true then ((spec_l1In.f a0_1 (-1) 3).bind fun aq => (spec_PlaceOk.j0 k (!aq) ae a0_1 ah)) else (spec_PlaceOk.j0 k true ae a0_1 ah))) = some r := h
 clear h
 have HC2 := Aside0.mk H
 clear H
 go_enter Tryd.func73, Tryd.ntmps73
 go_upto_region 1 with (first | ((with_reducible refine gate_dst (N := 1) rfl ?_); refine box_event ?hg (N := 1) ?hd (cs := #[.slice ar ae.length au, .int .i64 a0_1, .slice aD ah.length aE]) (t := 25) ?hr ?_; (case hd => rfl); (case hg => rfl); (case hr => first | (go_simp; done) | (go_simp; rfl)); intro aB hg w3 hbox hb; have ad := Aside0.mk (hbox); have b1 := gx_ HB hg; have b2 := gx_ HB hg; replace HB := bs_ HB hb; clear hb hbox hg))
 (try simp only [Act.put, sa_, sb_, sc_])
 go_cut [14] (fun b9 wc => ∃ (kq : Nat) (aC : Bool), b9 = .bool aC ∧ Aside0 (spec_PlaceOk.j0 kq aC ae a0_1 ah = some r) ∧ Aside0 (kq ≤ k) ∧ Aside0 (wc.heap[aB]? = some (.cells #[(.slice ar ae.length au), .int .i64 a0_1, (.slice aD ah.length aE)] 25 (0, 0))) ∧ Aside0 (Below w.heap.size w wc))
 case first =>
  have H := HC2.out
  clear HC2
  obtain ⟨aH, A4, H⟩ := bnd_ H
  try dsimp only at H
  by_cases c5 : aH = true
  ·
   subst c5
   have H1 : ((spec_l1In.f a0_1 (-1) 3).bind fun aq => (spec_PlaceOk.j0 k (!aq) ae a0_1 ah)) = some r := by rw [if_pos rfl] at H; exact H
   clear H
   have H := H1
   clear H1
   obtain ⟨aq, A6, H⟩ := bnd_ H
   try dsimp only at H
   have H' := Aside0.mk H
   clear H
   have a9 := cz_ ad 0
   have bb := cz_ ad 1
   have bc := cz_ ad 2
   have bd := blk_frozen ad.out 0
   have be := blk_frozen ad.out 1
   have bf := blk_frozen ad.out 2
   go_wp2_with (first | ((with_reducible refine gate_callee (f := 116) rfl ?_); refine gl_ (some 7) Tryd.func116 #[.slice ar ae.length au] ?_; (with_reducible refine (spec_StartOk.calls k _ _ ae true _ ?s1 ?s2 A4.out).mono ?_); (case s1 => exact tD_); (case s2 => exact aI.out); rintro e w' ⟨rfl, ⟨nd, rfl⟩⟩; refine ⟨_, rfl, ?_⟩) | (go_at_call 99; (with_reducible refine (spec_l1In.calls a0_1 (-1) 3 aq _ A6.out).mono ?_); rintro e w' ⟨rfl, ⟨nd, rfl⟩⟩))
   go_meet
   case rel => exact ⟨_, (!aq), tx_, H', ⟨by first | omega | exact Nat.le_refl _⟩, ⟨tk_ ad.out⟩, ⟨(tb_ HB.out)⟩⟩
  ·
   replace c5 := Bool.eq_false_iff.mpr c5
   subst c5
   have H1 : (spec_PlaceOk.j0 k true ae a0_1 ah) = some r := by rw [if_neg (show ¬ (false = true) by decide)] at H; exact H
   clear H
   have H := H1
   clear H1
   have H' := Aside0.mk H
   clear H
   have bg := cz_ ad 0
   have bh := cz_ ad 1
   have bi := cz_ ad 2
   have bj := blk_frozen ad.out 0
   have bk := blk_frozen ad.out 1
   have bl := blk_frozen ad.out 2
   go_wp2_with (first | ((with_reducible refine gate_callee (f := 116) rfl ?_); refine gl_ (some 7) Tryd.func116 #[.slice ar ae.length au] ?_; (with_reducible refine (spec_StartOk.calls k _ _ ae false _ ?s1 ?s2 A4.out).mono ?_); (case s1 => exact tD_); (case s2 => exact aI.out); rintro e w' ⟨rfl, ⟨nd, rfl⟩⟩; refine ⟨_, rfl, ?_⟩))
   go_meet
   case rel => exact ⟨_, (true), tx_, H', ⟨by first | omega | exact Nat.le_refl _⟩, ⟨tk_ ad.out⟩, ⟨(tb_ HB.out)⟩⟩
 case rest =>
  clear HC2
  try clear c1
  try clear p2
  try clear c5
  try clear c7
  try clear a9
  try clear bb
  try clear bc
  try clear bg
  try clear bh
  try clear bi
  try clear bd
  try clear be
  try clear bf
  try clear bj
  try clear bk
  try clear bl
  obtain ⟨kq, aC, rfl, HA, HJ1, ad, HB⟩ := hcut
  cases kq with
  | zero => exact absurd HA.out (by simp [spec_PlaceOk.j0])
  | succ kj1 =>
   have H := HA.out
   clear HA
   simp only [spec_PlaceOk.j0] at H
   by_cases c9 : aC = true
   ·
    subst c9
    have H1 : (some false) = some r := by rw [if_pos rfl] at H; exact H
    clear H
    have H := H1
    clear H1
    obtain rfl := Option.some.inj H
    go_wp2
    go_ret
    exact ⟨tw_, (tb_ HB.out)⟩
   ·
    replace c9 := Bool.eq_false_iff.mpr c9
    subst c9
    have H1 : ((spec_SameRule.f kj1 (ae.length : Int) a0_1).bind fun az => ((spec_AfterWord.f kj1 ae az ah).bind fun aG => (some aG.2))) = some r := by rw [if_neg (show ¬ (false = true) by decide)] at H; exact H
    clear H
    have H := H1
    clear H1
    obtain ⟨az, A10, H⟩ := bnd_ H
    try dsimp only at H
    obtain ⟨⟨bM, bN⟩, A11, H⟩ := bnd_ H
    try dsimp only at H
    obtain rfl := Option.some.inj H
    try go_wp2
    replace ad := dB_ ad
    replace HB := Aside0.mk (ld_ HB.out)
    refine start_ (n := 16) (S := fun w' => w'.cell? ⟨aB, 0, none⟩ = some (.slice ar ae.length au) ∧ w'.cell? ⟨aB, 1, none⟩ = some (.int .i64 a0_1) ∧ w'.cell? ⟨aB, 2, none⟩ = some (.slice aD ah.length aE)) (ds := []) #[false, false, false, false, false, false, false, false, false, false, false, false, false, false, false, false] (by kernel_rfl) rfl rfl hh_ (fun hHeld => ?_); refine with_tabW spec_PlaceOk.tab3 spec_PlaceOk.bits3 (fun HT_ HW_ => ?_)
    generalize wc.drew = cj at ad HB hHeld ⊢
    refine pu_ 0 (some 16) #[true, false, false, false, false, false, false, false, false, false, false, false, false, false, false, false] HT_ rfl rfl ?_
    refine pu_ 2 (some 18) #[true, false, true, false, false, false, false, false, false, false, false, false, false, false, false, false] HT_ rfl rfl ?_
    refine pu_ 5 (some 21) #[true, false, true, false, false, true, false, false, false, false, false, false, false, false, false, false] HT_ rfl rfl ?_
    refine pu_ 8 (some 24) #[true, false, true, false, false, true, false, false, true, false, false, false, false, false, false, false] HT_ rfl rfl ?_
    refine ta_ 1 (some 17) #[true, true, true, false, false, true, false, false, true, false, false, false, false, false, false, false] HT_ HW_ hHeld rfl rfl ?_
    refine ta_ 3 (some 19) #[true, true, true, true, false, true, false, false, true, false, false, false, false, false, false, false] HT_ HW_ hHeld rfl rfl ?_
    refine pu_ 4 (some 20) #[true, true, true, true, true, true, false, false, true, false, false, false, false, false, false, false] HT_ rfl rfl ?_
    refine ta_ 6 (some 22) #[true, true, true, true, true, true, true, false, true, false, false, false, false, false, false, false] HT_ HW_ hHeld rfl rfl ?_
    refine ta_ 9 (some 25) #[true, true, true, true, true, true, true, false, true, true, false, false, false, false, false, false] HT_ HW_ hHeld rfl rfl ?_
    refine one_ (i := 7) (N := some 23) #[true, true, true, true, true, true, true, true, true, true, false, false, false, false, false, false] rfl rfl (one_of HT_.out (by kernel_rfl)) (by decide) (fun K hK => ?_)
    refine goes_ Tryd.func118 (by kernel_rfl) rfl #[.int .i64 (ae.length : Int), .int .i64 a0_1] (by rfl) rfl rfl tz_ ?_
    with_reducible refine (spec_SameRule.calls kj1 (ae.length : Int) a0_1 az _ A10.out).mono ?_
    rintro e ck ⟨ca, rfl, ho0, hb⟩
    refine ⟨_, rfl, ?_⟩
    have av := Aside0.mk (Kd.S_lower ho0 (below_size (tb_ HB.out)))
    replace ad := bb_ ad hb
    replace HB := bs_ HB hb
    (try clear hb)
    (try clear hb2)
    (try clear hk)
    (try clear hi)
    (try clear ho0)
    obtain ⟨bO, bP, bp⟩ := Kd.S_slice av.out
    (first | subst bp | (injection bp with f1_ f2_ f3_; have f4_ := f1_.symm; have f5_ := f3_.symm; clear f1_ f2_ f3_; subst f4_; subst f5_))
    refine hK.out _ _ hh_ (fun hHeld => ?_)
    clear hK K
    refine nr_ 23 ?_
    refine one_ (i := 10) (N := some 26) #[true, true, true, true, true, true, true, true, true, true, true, false, false, false, false, false] rfl rfl (one_of HT_.out (by kernel_rfl)) (by decide) (fun K hK => ?_)
    refine goes_ Tryd.func117 (by kernel_rfl) rfl #[.slice ar ae.length au, .slice bO az.length bP, .slice aD ah.length aE] (by rfl) rfl rfl tz_ ?_
    with_reducible refine (spec_AfterWord.calls kj1 _ _ ae _ _ az _ _ ah bM bN _ ?s1 ?s2 ?s3 ?s4 ?s5 ?s6 A11.out).mono ?_
    (case s1 => exact tD_)
    (case s2 => exact aI.out)
    (case s3 => repeat (first | exact (Kd.S_reads' av.out).2.2 | (with_reducible refine Kd.C_alloc ?_ _) | (with_reducible refine Kd.C_drewN ?_ _) | (with_reducible refine Kd.C_drew ?_)))
    (case s4 => exact (Kd.S_reads' av.out).2.1)
    (case s5 => exact tD_)
    (case s6 => exact bo.out)
    rintro e cl ⟨cb, rfl, ho0, hb⟩
    refine ⟨_, rfl, ?_⟩
    replace av := Aside0.mk (Kd.S_elder' (rS_ av.out) (Kd.R_base ho0) hb)
    have b3 := rx_ ho0 HB
    replace ad := bb_ ad hb
    replace HB := bs_ HB hb
    (try clear hb)
    (try clear hb2)
    (try clear hk)
    (try clear hi)
    (try clear ho0)
    refine hK.out _ _ hh_ (fun hHeld => ?_)
    clear hK K
    refine nr_ 26 ?_
    refine pu_ 11 (some 15) #[true, true, true, true, true, true, true, true, true, true, true, true, false, false, false, false] HT_ rfl rfl ?_
    refine pu_ 12 (some 27) #[true, true, true, true, true, true, true, true, true, true, true, true, true, false, false, false] HT_ rfl rfl ?_
    refine pu_ 13 (some 28) #[true, true, true, true, true, true, true, true, true, true, true, true, true, true, false, false] HT_ rfl rfl ?_
    refine pu_ 14 (some 3) #[true, true, true, true, true, true, true, true, true, true, true, true, true, true, true, false] HT_ rfl rfl ?_
    refine pu_ 15 (some 4) #[true, true, true, true, true, true, true, true, true, true, true, true, true, true, true, true] HT_ rfl rfl ?_
    refine done_ (done_of HT_.out (by kernel_rfl)) ?_
    try go_wp2
    go_ret
    exact ⟨tw_, (tb_ HB.out)⟩

/-! ### spec_l20Urn: function 127 -/
def spec_l20Urn.l0 : Nat → Int → List Int → Int → List Int → Int → Option (List Int × Int)
 | 0, _, _, _, _, _ => none
 | k + 1, x1, x5, x6, aw, a3 => if x6 > 0 then ((spec_l20Rd_pick.f k aw a3 6).bind fun a4 => (if x5.length < 17592186044416 then (spec_l20Urn.l0 k x1 (x5 ++ [a4.1]) (wrap64 (x6 - 1)) aw a4.2) else (none))) else ((spec_l20Rd_odd.f k aw a3 x1).bind fun aJ => (if aJ.1 = true then ((spec_l20Rd_pick.f k aw aJ.2 3).bind fun ai => (if ai.1 = 0 then (some ((([] : List Int)), ai.2)) else (if ai.1 = 1 then ((some (([(-1), 41] : List Int) : List Int)).bind fun aj => ((spec_l20Rd_pick.f k aw ai.2 2).bind fun af => (if 0 ≤ af.1 then (if af.1 < (aj.length : Int) then (if 0 < (x5.length : Int) then (some ((x5.set (0 : Int).toNat (rd aj af.1)), af.2)) else (none)) else (none)) else (none)))) else (some ((([1, 1, 1, 1] : List Int)), ai.2))))) else (some (x5, aJ.2))))
def spec_l20Urn.f (k : Nat) (ab : List Int) (ax : Int) (a1 : Int) : Option (List Int × Int) := (spec_l20Rd_pick.f k ab ax 3).bind fun al => (spec_l20Urn.l0 k a1 (([] : List Int)) (wrap64 (1 + al.1)) ab al.2)
theorem spec_l20Urn.mono_l : ∀ k, (∀ y0 y1 y2 y3 y4, LeO (spec_l20Urn.l0 k y0 y1 y2 y3 y4) (spec_l20Urn.l0 (k + 1) y0 y1 y2 y3 y4))
 | 0 => fun _ _ _ _ _ r h => by simp [spec_l20Urn.l0] at h
 | k + 1 => by
  have ih0 := spec_l20Urn.mono_l k
  ·
   intro y0 y1 y2 y3 y4
   unfold spec_l20Urn.l0
   repeat' (with_reducible first | exact ih0 _ _ _ _ _ | exact spec_l20Rd_odd.mono _ _ _ _ | exact spec_l20Rd_pick.mono _ _ _ _ | exact mr_ | exact mn_ | refine mi_ ?_ ?_ | refine mb_ ?_ (fun _ => ?_))
theorem spec_l20Urn.mono : ∀ a0 a1 a2 k, LeO (spec_l20Urn.f k a0 a1 a2) (spec_l20Urn.f (k + 1) a0 a1 a2) := by
 intro a0 a1 a2 k
 have ih0 := spec_l20Urn.mono_l k
 unfold spec_l20Urn.f
 repeat' (with_reducible first | exact ih0 _ _ _ _ _ | exact spec_l20Rd_odd.mono _ _ _ _ | exact spec_l20Rd_pick.mono _ _ _ _ | exact mr_ | exact mn_ | refine mi_ ?_ ?_ | refine mb_ ?_ (fun _ => ?_))
set_option maxHeartbeats 8000000 in
set_option maxRecDepth 100000 in
theorem spec_l20Urn.calls (k : Nat) (g : Nat) (ab : List Int) (ax : Int) (a1 : Int) (r1 : List Int) (r2 : Int) (w0 w : World) (hI : IsS126 w0 w g ab ax) (hB : Below w0.heap.size w0 w) (h : spec_l20Urn.f k ab ax a1 = some (r1, r2)) :
  Calls Tryd.prog 127 #[.pointer (some ⟨g, 0, none⟩), .int .i64 a1] w fun e w' => ∃ v0_ : Value, e = .returned (v0_) ∧ Kd.R (Kd.int .i64) 3 w' w.heap.size (fun _ => True) v0_ r1 ∧ IsS126 w0 w' g ab r2 ∧ Below w0.heap.size w0 w' ∧ KeepBut w w' g none := by
 have HI0 := Aside0.mk hI
 have HK := Aside0.mk (KeepBut.refl w g none)
 have HL := Aside0.mk hB.size
 have HLg := Aside0.mk hI.lt
 clear hI
 have HW0 := Aside0.mk hB.size
 have HB := Aside0.mk hB
 clear hB
 have H : ((spec_l20Rd_pick.f k ab ax 3).bind fun al => (spec_l20Urn.l0 k a1 (([] : List Int)) (wrap64 (1 + al.1)) ab al.2)) = some (r1, r2) := h
 clear h
 obtain ⟨bq, aK⟩ : ∃ y_ : List Int, y_ = (([] : List Int)) := ⟨_, rfl⟩
 replace H : ((spec_l20Rd_pick.f k ab ax 3).bind fun al => (spec_l20Urn.l0 k a1 bq (wrap64 (1 + al.1)) ab al.2)) = some (r1, r2) := yq_ aK H
 have a5 := Aside0.mk aK
 clear aK
 obtain ⟨⟨br, bs⟩, A3, H⟩ := bnd_ H
 try dsimp only at H
 have H' := Aside0.mk H
 clear H
 go_enter Tryd.func127, Tryd.ntmps127
 go_wp2_with (first | ((with_reducible refine gate_dst (N := 7) rfl ?_); refine Kd.R_lit (Kd.int .i64) _ 3 ?hg (N := 7) ?hd (xs := ([] : List Int)) (inner := []) (ok := fun _ => True) (okp := fun _ => True) ?hr ?hp (fun _ hk => hk) trivial (Below.refl _ _) (Nat.le_refl _) (by simp) ?_; (case hd => rfl); (case hg => rfl); (case hr => first | (go_simp; done) | (go_simp; rfl)); (case hp => exact (Reps.none _ _)); intro cc w4 ho5 hb hg_ hnew_; clear hg_ hnew_; (first | rw [← a5.out] at ho5 | (simp only [Int.reduceToNat] at ho5; rw [← a5.out] at ho5)); have aM := rl_ ho5 HK; replace HI0 := ti126_b HI0 hb; replace HK := ko_ HK hb; replace HB := tu126_s HB hb; clear hb ho5) | ((with_reducible refine gate_callee (f := 101) rfl ?_); refine gl_ (some 9) Tryd.func101 #[.pointer (some ⟨g, 0, none⟩), .int .i64 3] ?_; (with_reducible refine (spec_l20Rd_pick.calls k g ab ax 3 br bs w0 _ ?s1 ?s2 A3.out).mono ?_); (case s1 => exact ti126_ HI0.out); (case s2 => exact tu126_ HB.out); rintro e w6 ⟨rfl, hi, hb, hk⟩; refine ⟨_, rfl, ?_⟩; replace aM := Aside0.mk (Kd.R_mono (Kd.R_keep (IsS126.apart (ti126_ HI0.out : IsS126 w0 _ g ab ax) (rR_ aM.out) (by decide)) hk (fun _ h => h.2)) (fun _ h => h.1)); replace HK := kt_ HK hk; replace HB := Aside0.mk (hb); replace HI0 := Aside0.mk (hi); (try clear hb); (try clear hb2); (try clear hk); (try clear hi)))
 go_loopg [5, 6] k (fun kq v5 v6 w' => ∃ (ag : List Int) (ay : Int) (ac : Int), v6 = .int .i64 ay ∧ Aside0 (spec_l20Urn.l0 kq a1 ag ay ab ac = some (r1, r2)) ∧ Aside0 (kq ≤ k) ∧ Aside0 (Kd.R (Kd.int .i64) 3 w' w.heap.size (fun _ => True) v5 ag) ∧ Aside0 (IsS126 w0 w' g ab ac) ∧ Aside0 (KeepBut w w' g none) ∧ Aside0 (Below w0.heap.size w0 w'))
 case atStart => exact ⟨(bq), (wrap64 (1 + br)), (bs), tx_, H', ⟨Nat.le_refl _⟩, ⟨rR_ aM.out⟩, ⟨ti126_ HI0.out⟩, ⟨(tc_ HK.out)⟩, ⟨tu126_ HB.out⟩⟩
 case round =>
  clear H'
  try clear c1
  try clear p2
  try clear p6
  obtain ⟨ag, ay, ac, rfl, HA, HK1, aa, HI0, HK, HB⟩ := hrel
  cases gk with
  | zero => exact absurd HA.out (by simp [spec_l20Urn.l0])
  | succ k1 =>
   have H := HA.out
   clear HA
   simp only [spec_l20Urn.l0] at H
   by_cases c7 : ay > 0
   ·
    rw [if_pos c7] at H
    have bQ : decide (0 < ay) = true := decide_eq_true c7
    clear c7
    obtain ⟨⟨aZ, bm⟩, A8, H⟩ := bnd_ H
    try dsimp only at H
    by_cases c9 : ag.length < 17592186044416
    ·
     rw [if_pos c9] at H
     have bR := Aside0.mk c9
     clear c9
     obtain ⟨bu, aN⟩ : ∃ y_ : List Int, y_ = (ag ++ [aZ]) := ⟨_, rfl⟩
     replace H : (spec_l20Urn.l0 k1 a1 bu (wrap64 (ay - 1)) ab bm) = some (r1, r2) := yq_ aN H
     have bv := Aside0.mk aN
     clear aN
     have H' := Aside0.mk H
     clear H
     go_wp2_with (first | ((with_reducible refine gate_callee (f := 101) rfl ?_); refine gl_ (some 17) Tryd.func101 #[.pointer (some ⟨g, 0, none⟩), .int .i64 6] ?_; (with_reducible refine (spec_l20Rd_pick.calls k1 g ab ac 6 aZ bm w0 _ ?s1 ?s2 A8.out).mono ?_); (case s1 => exact ti126_ HI0.out); (case s2 => exact tu126_ HB.out); rintro e cm ⟨rfl, hi, hb, hk⟩; refine ⟨_, rfl, ?_⟩; replace aa := Aside0.mk (Kd.R_mono (Kd.R_keep (IsS126.apart (ti126_ HI0.out : IsS126 w0 _ g ab ac) (rR_ aa.out) (by decide)) hk (fun _ h => h.2)) (fun _ h => h.1)); replace HK := kt_ HK hk; replace HB := Aside0.mk (hb); replace HI0 := Aside0.mk (hi); (try clear hb); (try clear hb2); (try clear hk); (try clear hi)) | ((with_reducible refine gate_builtin (b := .append) (xs := #[.tmp 15, .tmp 18]) rfl ?_); at_builtin; refine Kd.R_append (Kd.int .i64) w.heap.size rfl (.tmp 15) (.tmp 18) 23 3 (.int .i64 0) 8 rfl Tryd.underlying23 info3 rfl (by decide) (by omega) u5 ag aZ [.int .i64 aZ] (fun _ => True) (fun _ => False) rfl rfl ?aP (fun _ hk => hk.elim) ?aF ?aO (Below.refl _ _) ?aS ?aL ?_; (case aP => exact rfl); (case aF => exact (fun _ _ => trivial)); (case aO => exact (rR_ aa.out)); (case aS => exact (keep_size (w := w) (g := g) (row := none) (tc_ HK.out))); (case aL => have := bR.out; omega); intro cd cn ho hb hg hat; rw [← bv.out] at ho; replace HI0 := Aside0.mk (IsS126.grown (ti126_ HI0.out) hg (IsS126.own_ne HI0.out aa.out (by decide))); replace HB := Aside0.mk (below_weaken (tu126_ HB.out) HL.out hb); replace HK := Aside0.mk (KeepBut.trans (tc_ HK.out) (KeepBut.of_grown hg g) (Kd.R_base2 aa.out)); have bw := Aside0.mk (ho); clear aa ho hb hg hat))
     go_roundg k1
     case measure => have := HK1.out; omega
     case rel => exact ⟨(bu), (wrap64 (ay - 1)), (bm), tx_, H', ⟨by have := HK1.out; omega⟩, ⟨rR_ bw.out⟩, ⟨ti126_ HI0.out⟩, ⟨(tc_ HK.out)⟩, ⟨tu126_ HB.out⟩⟩
    ·
     rw [if_neg c9] at H
     exact absurd H (by simp)
   ·
    rw [if_neg c7] at H
    have bQ : decide (0 < ay) = false := decide_eq_false c7
    clear c7
    obtain ⟨⟨bS, am⟩, A12, H⟩ := bnd_ H
    try dsimp only at H
    by_cases c13 : bS = true
    ·
     subst c13
     have H1 : ((spec_l20Rd_pick.f k1 ab am 3).bind fun ai => (if ai.1 = 0 then (some ((([] : List Int)), ai.2)) else (if ai.1 = 1 then ((some (([(-1), 41] : List Int) : List Int)).bind fun aj => ((spec_l20Rd_pick.f k1 ab ai.2 2).bind fun af => (if 0 ≤ af.1 then (if af.1 < (aj.length : Int) then (if 0 < (ag.length : Int) then (some ((ag.set (0 : Int).toNat (rd aj af.1)), af.2)) else (none)) else (none)) else (none)))) else (some ((([1, 1, 1, 1] : List Int)), ai.2))))) = some (r1, r2) := by rw [if_pos rfl] at H; exact H
     clear H
     have H := H1
     clear H1
     obtain ⟨⟨ak, ap⟩, A14, H⟩ := bnd_ H
     try dsimp only at H
     by_cases c15 : ak = 0
     ·
      rw [if_pos c15] at H
      have bx : (ak == 0) = true := beq_iff_eq.mpr c15
      have bz : (ak != 0) = false := bne_eq_false_iff_eq.mpr c15
      clear c15
      obtain ⟨bU, aQ⟩ : ∃ y_ : List Int, y_ = (([] : List Int)) := ⟨_, rfl⟩
      replace H : (some (bU, ap)) = some (r1, r2) := yq_ aQ H
      have a6 := Aside0.mk aQ
      clear aQ
      simp only [Option.some.injEq, Prod.mk.injEq] at H
      obtain ⟨rfl, rfl⟩ := H
      go_wp2_with (first | ((with_reducible refine gate_callee (f := 80) rfl ?_); refine gl_ (some 22) Tryd.func80 #[.pointer (some ⟨g, 0, none⟩), .int .i64 a1] ?_; (with_reducible refine (spec_l20Rd_odd.calls k1 g ab ac a1 true am w0 _ ?s1 ?s2 A12.out).mono ?_); (case s1 => exact ti126_ HI0.out); (case s2 => exact tu126_ HB.out); rintro e co ⟨rfl, hi, hb, hk⟩; refine ⟨_, rfl, ?_⟩; replace aa := Aside0.mk (Kd.R_mono (Kd.R_keep (IsS126.apart (ti126_ HI0.out : IsS126 w0 _ g ab ac) (rR_ aa.out) (by decide)) hk (fun _ h => h.2)) (fun _ h => h.1)); replace HK := kt_ HK hk; replace HB := Aside0.mk (hb); replace HI0 := Aside0.mk (hi); (try clear hb); (try clear hb2); (try clear hk); (try clear hi)) | ((with_reducible refine gate_callee (f := 101) rfl ?_); refine gl_ (some 24) Tryd.func101 #[.pointer (some ⟨g, 0, none⟩), .int .i64 3] ?_; (with_reducible refine (spec_l20Rd_pick.calls k1 g ab am 3 ak ap w0 _ ?s1 ?s2 A14.out).mono ?_); (case s1 => exact ti126_ HI0.out); (case s2 => exact tu126_ HB.out); rintro e cp ⟨rfl, hi, hb, hk⟩; refine ⟨_, rfl, ?_⟩; replace aa := Aside0.mk (Kd.R_mono (Kd.R_keep (IsS126.apart (ti126_ HI0.out : IsS126 w0 _ g ab am) (rR_ aa.out) (by decide)) hk (fun _ h => h.2)) (fun _ h => h.1)); replace HK := kt_ HK hk; replace HB := Aside0.mk (hb); replace HI0 := Aside0.mk (hi); (try clear hb); (try clear hb2); (try clear hk); (try clear hi)) | ((with_reducible refine gate_dst (N := 28) rfl ?_); refine Kd.R_lit (Kd.int .i64) _ 3 ?hg (N := 28) ?hd (xs := ([] : List Int)) (inner := []) (ok := fun _ => True) (okp := fun _ => True) ?hr ?hp (fun _ hk => hk) trivial (Below.refl _ _) (Nat.le_refl _) (by simp) ?_; (case hd => rfl); (case hg => rfl); (case hr => first | (go_simp; done) | (go_simp; rfl)); (case hp => exact (Reps.none _ _)); intro ce cq ho19 hb hg_ hnew_; clear hg_ hnew_; (first | rw [← a6.out] at ho19 | (simp only [Int.reduceToNat] at ho19; rw [← a6.out] at ho19)); have bB := Aside0.mk (Kd.R_lower (Kd.R_new' ho19 (Kd.R_lt (rR_ aa.out))) (keep_size (w := w) (g := g) (row := none) (tc_ HK.out))); replace aa := Aside0.mk (Kd.R_elder' (rR_ aa.out) (Kd.R_base ho19) hb); replace HI0 := ti126_b HI0 hb; replace HK := ko_ HK hb; replace HB := tu126_s HB hb; clear hb ho19))
      go_ret
      exact ⟨_, tw_, by refine qR_ ?_; exact Kd.R_mono bB.out (fun _ hk => trivial), ti126_ HI0.out, tu126_ HB.out, (tc_ HK.out)⟩
     ·
      rw [if_neg c15] at H
      have bx : (ak == 0) = false := beq_eq_false_iff_ne.mpr c15
      have bz : (ak != 0) = true := bne_iff_ne.mpr c15
      by_cases c20 : ak = 1
      ·
       rw [if_pos c20] at H
       have bC : (ak == 1) = true := beq_iff_eq.mpr c20
       have bD : (ak != 1) = false := bne_eq_false_iff_eq.mpr c20
       clear c20
       obtain ⟨aj, aR⟩ : ∃ y_ : List Int, y_ = (([(-1), 41] : List Int)) := ⟨_, rfl⟩
       replace H : ((spec_l20Rd_pick.f k1 ab ap 2).bind fun af => (if 0 ≤ af.1 then (if af.1 < (aj.length : Int) then (if 0 < (ag.length : Int) then (some ((ag.set (0 : Int).toNat (rd aj af.1)), af.2)) else (none)) else (none)) else (none))) = some (r1, r2) := yq_ aR H
       have a7 := Aside0.mk aR
       clear aR
       obtain ⟨⟨an, bE⟩, A21, H⟩ := bnd_ H
       try dsimp only at H
       by_cases c22 : 0 ≤ an
       ·
        rw [if_pos c22] at H
        have b4 : decide (0 ≤ an) = true := decide_eq_true c22
        clear c22
        by_cases c23 : an < (aj.length : Int)
        ·
         rw [if_pos c23] at H
         have b5 : decide (an < (aj.length : Int)) = true := decide_eq_true c23
         clear c23
         by_cases c24 : 0 < (ag.length : Int)
         ·
          rw [if_pos c24] at H
          have b6 : decide (0 < (ag.length : Int)) = true := decide_eq_true c24
          have b7 : decide (0 < ag.length) = true := decide_eq_true (by omega)
          clear c24
          obtain ⟨bF, aU⟩ : ∃ y_ : List Int, y_ = (ag.set (0 : Int).toNat (rd aj an)) := ⟨_, rfl⟩
          replace H : (some (bF, bE)) = some (r1, r2) := yq_ aU H
          have bG := Aside0.mk aU
          clear aU
          simp only [Option.some.injEq, Prod.mk.injEq] at H
          obtain ⟨rfl, rfl⟩ := H
          go_wp2_with (first | ((with_reducible refine gate_callee (f := 80) rfl ?_); refine gl_ (some 22) Tryd.func80 #[.pointer (some ⟨g, 0, none⟩), .int .i64 a1] ?_; (with_reducible refine (spec_l20Rd_odd.calls k1 g ab ac a1 true am w0 _ ?s1 ?s2 A12.out).mono ?_); (case s1 => exact ti126_ HI0.out); (case s2 => exact tu126_ HB.out); rintro e cr ⟨rfl, hi, hb, hk⟩; refine ⟨_, rfl, ?_⟩; replace aa := Aside0.mk (Kd.R_mono (Kd.R_keep (IsS126.apart (ti126_ HI0.out : IsS126 w0 _ g ab ac) (rR_ aa.out) (by decide)) hk (fun _ h => h.2)) (fun _ h => h.1)); replace HK := kt_ HK hk; replace HB := Aside0.mk (hb); replace HI0 := Aside0.mk (hi); (try clear hb); (try clear hb2); (try clear hk); (try clear hi)) | ((with_reducible refine gate_callee (f := 101) rfl ?_); refine gl_ (some 24) Tryd.func101 #[.pointer (some ⟨g, 0, none⟩), .int .i64 3] ?_; (with_reducible refine (spec_l20Rd_pick.calls k1 g ab am 3 ak ap w0 _ ?s1 ?s2 A14.out).mono ?_); (case s1 => exact ti126_ HI0.out); (case s2 => exact tu126_ HB.out); rintro e ct ⟨rfl, hi, hb, hk⟩; refine ⟨_, rfl, ?_⟩; replace aa := Aside0.mk (Kd.R_mono (Kd.R_keep (IsS126.apart (ti126_ HI0.out : IsS126 w0 _ g ab am) (rR_ aa.out) (by decide)) hk (fun _ h => h.2)) (fun _ h => h.1)); replace HK := kt_ HK hk; replace HB := Aside0.mk (hb); replace HI0 := Aside0.mk (hi); (try clear hb); (try clear hb2); (try clear hk); (try clear hi)) | ((with_reducible refine gate_dst (N := 32) rfl ?_); refine Kd.R_lit (Kd.int .i64) _ 3 ?hg (N := 32) ?hd (xs := ([(-1), 41] : List Int)) (inner := [.int .i64 (-1), .int .i64 41]) (ok := fun _ => True) (okp := fun _ => True) ?hr ?hp (fun _ hk => hk) trivial (Below.refl _ _) (Nat.le_refl _) (by simp) ?_; (case hd => rfl); (case hg => rfl); (case hr => first | (go_simp; done) | (go_simp; rfl)); (case hp => exact (Reps.one (show Kd.M (Kd.int .i64) _ _ _ (-1) [.int .i64 (-1)] from rfl) (Reps.one (show Kd.M (Kd.int .i64) _ _ _ 41 [.int .i64 41] from rfl) (Reps.none _ _)))); intro cf cu ho29 hb hg_ hnew_; clear hg_ hnew_; (first | rw [← a7.out] at ho29 | (simp only [Int.reduceToNat] at ho29; rw [← a7.out] at ho29)); have ao := Aside0.mk (Kd.R_lower (Kd.R_new' ho29 (Kd.R_lt (rR_ aa.out))) (keep_size (w := w) (g := g) (row := none) (tc_ HK.out))); replace aa := Aside0.mk (Kd.R_elder' (rR_ aa.out) (Kd.R_base ho29) hb); replace HI0 := ti126_b HI0 hb; replace HK := ko_ HK hb; replace HB := tu126_s HB hb; clear hb ho29) | ((with_reducible refine gate_callee (f := 101) rfl ?_); refine gl_ (some 34) Tryd.func101 #[.pointer (some ⟨g, 0, none⟩), .int .i64 2] ?_; (with_reducible refine (spec_l20Rd_pick.calls k1 g ab ap 2 an bE w0 _ ?s1 ?s2 A21.out).mono ?_); (case s1 => exact ti126_ HI0.out); (case s2 => exact tu126_ HB.out); rintro e b8 ⟨rfl, hi, hb, hk⟩; refine ⟨_, rfl, ?_⟩; replace aa := Aside0.mk (Kd.R_mono (Kd.R_keep (IsS126.apart (ti126_ HI0.out : IsS126 w0 _ g ab ap) (rR_ aa.out) (by decide)) hk (fun _ h => h.2)) (fun _ h => h.1)); replace ao := Aside0.mk (Kd.R_mono (Kd.R_keep (IsS126.apart (ti126_ HI0.out : IsS126 w0 _ g ab ap) (rR_ ao.out) (by decide)) hk (fun _ h => h.2)) (fun _ h => h.1)); replace HK := kt_ HK hk; replace HB := Aside0.mk (hb); replace HI0 := Aside0.mk (hi); (try clear hb); (try clear hb2); (try clear hk); (try clear hi); obtain ⟨cg, bH, bV⟩ := Kd.R_slice ao.out; subst bV; have p306 : 0 ≤ (an : Int) := od_; have q306 : an < (aj.length : Int) := od_; obtain ⟨ad306, e306, bL⟩ := Kd.at_int (Kd.R_reads' ao.out).2.2 an p306 q306; cases e306; replace p306 := eq_true p306; replace q306 := eq_true q306; have p25 : 0 ≤ (0 : Int) := (by omega); have q25 : (0 : Int) < ((ag.length : Int) : Int) := od_; have ch : (0 < ag.length) = True := eq_true (by omega); obtain ⟨go25, bn, bI, bJ, gl25, cl25, HG25⟩ := Kd.R_form aa.out (by omega); (first | cases bI | (injection bI with ea_ en_ ec_; (first | subst ea_ | (injection ea_ with ea_; subst ea_)); subst ec_; clear en_)); have GB25 := Aside0.mk bJ; have GG25 := Aside0.mk HG25; clear bJ gl25 HG25; obtain ⟨aV, hf25_0⟩ := Kd.R_celln 0 aa.out (0 : Int) p25 q25; (try rw [show ((0 : Int)).toNat = 0 from rfl] at aV); (try simp only [Nat.reduceMul, Nat.zero_mul, Nat.zero_add, Nat.reduceAdd] at aV); (try rw [show ((0 : Int)).toNat = 0 from rfl] at hf25_0); (try simp only [Nat.reduceMul, Nat.zero_mul, Nat.zero_add, Nat.reduceAdd] at hf25_0); replace p25 := eq_true p25; replace q25 := eq_true q25; have n_ := Aside0.mk (Kd.R_mono (ok' := (fun k_ => some k_ ≠ (.slice (some ad306) aj.length bH : Value).ownBlock)) aa.out (fun k_ hk => hk.2)); clear aa; have aa := n_; clear n_; obtain ⟨hy32_, hz32_⟩ := Kd.R_celln 0 aa.out (0 : Int) (by omega) (od_); (try simp only [Int.reduceToNat, Int.toNat_zero, Int.toNat_ofNat, Nat.reduceMul, Nat.zero_mul, Nat.zero_add] at hy32_ hz32_); (try rw [show ((0 : Int)).toNat = 0 from rfl] at hy32_); (try rw [show ((0 : Int)).toNat = 0 from rfl] at hz32_); have HP32 := Kd.R_putg aa.out (0 : Int) (rd aj an)) | ((with_reducible refine gate_store (t := 3) (p := 37) rfl ?_); refine store_event (t := 3) (p := 37) (v := ?vo_w33) (w1 := (b8.setCell ⟨go25, (0 : Int).toNat, none⟩ (.int .i64 (rd aj an)))) ?hg ?ho ?hn ?hr ?_; (case ho => rfl); (case hg => rfl); (case hn => rfl); (case hr => first | (go_simp; done) | (go_simp; rfl)); intro bW hw; have hg : b8.grownBy bW (some go25) := (by rw [hw]; exact HP32.2); have hp_ : Kd.R (Kd.int .i64) 3 bW w.heap.size (fun k_ => some k_ ≠ (.slice (some ad306) aj.length bH : Value).ownBlock) (.slice (some ⟨go25, 0, none⟩) ag.length bn) bF := (by rw [hw, bG.out]; exact HP32.1); clear HP32; replace HI0 := Aside0.mk (IsS126.grown (ti126_ HI0.out) hg (IsS126.own_ne HI0.out aa.out (by decide))); replace ao := Aside0.mk (Kd.R_after (v := (.slice (some ⟨go25, 0, none⟩) ag.length bn)) (v1 := (.slice (some ⟨go25, 0, none⟩) ag.length bn)) (ok := (fun _ => True)) (rR_ ao.out) hg (.inl rfl)); replace HB := Aside0.mk ((by rw [hw]; exact below_set (HB.out) (Nat.le_trans HL.out GB25.out) : Below w0.heap.size w0 bW)); replace HK := Aside0.mk (KeepBut.trans (tc_ HK.out) (KeepBut.of_grown hg g) (Kd.R_base2 aa.out)); replace aa := Aside0.mk (hp_); clear hg hw hp_))
          go_ret
          exact ⟨_, tw_, by refine qR_ ?_; exact Kd.R_mono aa.out (fun _ hk => trivial), ti126_ HI0.out, tu126_ HB.out, (tc_ HK.out)⟩
         ·
          rw [if_neg c24] at H
          exact absurd H (by simp)
        ·
         rw [if_neg c23] at H
         exact absurd H (by simp)
       ·
        rw [if_neg c22] at H
        exact absurd H (by simp)
      ·
       rw [if_neg c20] at H
       have bC : (ak == 1) = false := beq_eq_false_iff_ne.mpr c20
       have bD : (ak != 1) = true := bne_iff_ne.mpr c20
       obtain ⟨bX, aW⟩ : ∃ y_ : List Int, y_ = (([1, 1, 1, 1] : List Int)) := ⟨_, rfl⟩
       replace H : (some (bX, ap)) = some (r1, r2) := yq_ aW H
       have a8 := Aside0.mk aW
       clear aW
       simp only [Option.some.injEq, Prod.mk.injEq] at H
       obtain ⟨rfl, rfl⟩ := H
       go_wp2_with (first | ((with_reducible refine gate_callee (f := 80) rfl ?_); refine gl_ (some 22) Tryd.func80 #[.pointer (some ⟨g, 0, none⟩), .int .i64 a1] ?_; (with_reducible refine (spec_l20Rd_odd.calls k1 g ab ac a1 true am w0 _ ?s1 ?s2 A12.out).mono ?_); (case s1 => exact ti126_ HI0.out); (case s2 => exact tu126_ HB.out); rintro e cv ⟨rfl, hi, hb, hk⟩; refine ⟨_, rfl, ?_⟩; replace aa := Aside0.mk (Kd.R_mono (Kd.R_keep (IsS126.apart (ti126_ HI0.out : IsS126 w0 _ g ab ac) (rR_ aa.out) (by decide)) hk (fun _ h => h.2)) (fun _ h => h.1)); replace HK := kt_ HK hk; replace HB := Aside0.mk (hb); replace HI0 := Aside0.mk (hi); (try clear hb); (try clear hb2); (try clear hk); (try clear hi)) | ((with_reducible refine gate_callee (f := 101) rfl ?_); refine gl_ (some 24) Tryd.func101 #[.pointer (some ⟨g, 0, none⟩), .int .i64 3] ?_; (with_reducible refine (spec_l20Rd_pick.calls k1 g ab am 3 ak ap w0 _ ?s1 ?s2 A14.out).mono ?_); (case s1 => exact ti126_ HI0.out); (case s2 => exact tu126_ HB.out); rintro e cw ⟨rfl, hi, hb, hk⟩; refine ⟨_, rfl, ?_⟩; replace aa := Aside0.mk (Kd.R_mono (Kd.R_keep (IsS126.apart (ti126_ HI0.out : IsS126 w0 _ g ab am) (rR_ aa.out) (by decide)) hk (fun _ h => h.2)) (fun _ h => h.1)); replace HK := kt_ HK hk; replace HB := Aside0.mk (hb); replace HI0 := Aside0.mk (hi); (try clear hb); (try clear hb2); (try clear hk); (try clear hi)) | ((with_reducible refine gate_dst (N := 25) rfl ?_); refine Kd.R_lit (Kd.int .i64) _ 3 ?hg (N := 25) ?hd (xs := ([1, 1, 1, 1] : List Int)) (inner := [.int .i64 1, .int .i64 1, .int .i64 1, .int .i64 1]) (ok := fun _ => True) (okp := fun _ => True) ?hr ?hp (fun _ hk => hk) trivial (Below.refl _ _) (Nat.le_refl _) (by simp) ?_; (case hd => rfl); (case hg => rfl); (case hr => first | (go_simp; done) | (go_simp; rfl)); (case hp => exact (Reps.one (show Kd.M (Kd.int .i64) _ _ _ 1 [.int .i64 1] from rfl) (Reps.one (show Kd.M (Kd.int .i64) _ _ _ 1 [.int .i64 1] from rfl) (Reps.one (show Kd.M (Kd.int .i64) _ _ _ 1 [.int .i64 1] from rfl) (Reps.one (show Kd.M (Kd.int .i64) _ _ _ 1 [.int .i64 1] from rfl) (Reps.none _ _)))))); intro ci cx ho37 hb hg_ hnew_; clear hg_ hnew_; (first | rw [← a8.out] at ho37 | (simp only [Int.reduceToNat] at ho37; rw [← a8.out] at ho37)); have bK := Aside0.mk (Kd.R_lower (Kd.R_new' ho37 (Kd.R_lt (rR_ aa.out))) (keep_size (w := w) (g := g) (row := none) (tc_ HK.out))); replace aa := Aside0.mk (Kd.R_elder' (rR_ aa.out) (Kd.R_base ho37) hb); replace HI0 := ti126_b HI0 hb; replace HK := ko_ HK hb; replace HB := tu126_s HB hb; clear hb ho37))
       go_ret
       exact ⟨_, tw_, by refine qR_ ?_; exact Kd.R_mono bK.out (fun _ hk => trivial), ti126_ HI0.out, tu126_ HB.out, (tc_ HK.out)⟩
    ·
     replace c13 := Bool.eq_false_iff.mpr c13
     subst c13
     have H1 : (some (ag, am)) = some (r1, r2) := by rw [if_neg (show ¬ (false = true) by decide)] at H; exact H
     clear H
     have H := H1
     clear H1
     simp only [Option.some.injEq, Prod.mk.injEq] at H
     obtain ⟨rfl, rfl⟩ := H
     go_wp2_with (first | ((with_reducible refine gate_callee (f := 80) rfl ?_); refine gl_ (some 22) Tryd.func80 #[.pointer (some ⟨g, 0, none⟩), .int .i64 a1] ?_; (with_reducible refine (spec_l20Rd_odd.calls k1 g ab ac a1 false am w0 _ ?s1 ?s2 A12.out).mono ?_); (case s1 => exact ti126_ HI0.out); (case s2 => exact tu126_ HB.out); rintro e cy ⟨rfl, hi, hb, hk⟩; refine ⟨_, rfl, ?_⟩; replace aa := Aside0.mk (Kd.R_mono (Kd.R_keep (IsS126.apart (ti126_ HI0.out : IsS126 w0 _ g ab ac) (rR_ aa.out) (by decide)) hk (fun _ h => h.2)) (fun _ h => h.1)); replace HK := kt_ HK hk; replace HB := Aside0.mk (hb); replace HI0 := Aside0.mk (hi); (try clear hb); (try clear hb2); (try clear hk); (try clear hi)))
     go_ret
     exact ⟨_, tw_, by refine qR_ ?_; exact aa.out, ti126_ HI0.out, tu126_ HB.out, (tc_ HK.out)⟩

end Go.Proofs.YtlhiienanbpdlaaDoor.MFnJournalText
