/- For the law FnPlaceText: walks of the functions that it reaches: each call returns what the plain function beside it tells. The conditions stand in each statement. -/
import Derived.Test.YtlhiienanbpdlaaDoorV
import Derived.Test.YtlhiienanbpdlaaDoorMFnPlaceTextx0
import Derived.Test.YtlhiienanbpdlaaDoorMFnPlaceTextx3
namespace Go.Proofs.YtlhiienanbpdlaaDoor.MFnPlaceText
open Go.RowKit Go.Proofs.YtlhiienanbpdlaaDoorW.PrintWords Go.Proofs.YtlhiienanbpdlaaDoorW.PrintLast Go.Proofs.YtlhiienanbpdlaaDoorW.PrintMore
attribute [local go_sem] max2_int min2_int max_two min_two max_three min_three max_four min_four   -- for this text's walks alone
set_option linter.unusedVariables false
set_option linter.unusedSimpArgs false

/-! ### impl_ReadPlace: function 54 -/
mutual
def impl_ReadPlace.l0 : Nat → ByteArray → List ByteArray → List ByteArray → Int → Int → List Int → Int → Option (List Int × Int × List Int × Bool)
 | 0, _, _, _, _, _, _, _ => none
 | k + 1, x0, x4, x21, x22, x23, av, aA => if x23 < x22 then (if 0 ≤ x23 then (if x23 < (x21.length : Int) then ((strconv_Atoi.f (rdOf ByteArray.empty x21 x23)).bind fun cr => (if cr.2.isNone = true then (if (av.length : Int) > 3 then (some (([] : List Int), 0, ([] : List Int), false)) else (if av.length < 17592186044416 then (impl_ReadPlace.l0 k x0 x4 x21 x22 (wrap64 (x23 + 1)) (av ++ [cr.1]) aA) else (none))) else (some (([] : List Int), 0, ([] : List Int), false)))) else (none)) else (none)) else (if 1 < (x4.length : Int) then ((strconv_Atoi.f (rdOf ByteArray.empty x4 1)).bind fun aZ => (if 2 < (x4.length : Int) then (if (rdOf ByteArray.empty x4 2).toList = ([46] : List UInt8) then ((impl_PlaceText.f k av aZ.1 ([] : List Int)).bind fun aG => (if aG.toList = x0.toList then (some (av, aZ.1, ([] : List Int), true)) else (some (([] : List Int), 0, ([] : List Int), false)))) else (impl_ReadPlace.l1 k x0 x4 ((rdOf ByteArray.empty x4 2).size : Int) 0 av aZ.1 ([] : List Int))) else (none))) else (none))
def impl_ReadPlace.l1 : Nat → ByteArray → List ByteArray → Int → Int → List Int → Int → List Int → Option (List Int × Int × List Int × Bool)
 | 0, _, _, _, _, _, _, _ => none
 | k + 1, x0, x4, x63, x64, av, aA, aD => if x64 < x63 then (if 2 < (x4.length : Int) then (if 0 ≤ x64 then (if x64 < ((rdOf ByteArray.empty x4 2).size : Int) then (if aD.length < 17592186044416 then (impl_ReadPlace.l1 k x0 x4 x63 (wrap64 (x64 + 1)) av aA (aD ++ [wrap64 ((wrap64 (bt (rdOf ByteArray.empty x4 2) x64)) - 97)])) else (none)) else (none)) else (none)) else (none)) else ((impl_PlaceText.f k av aA aD).bind fun aH => (if aH.toList = x0.toList then (some (av, aA, aD, true)) else (some (([] : List Int), 0, ([] : List Int), false))))
end
def impl_ReadPlace.f (k : Nat) (a0 : ByteArray) : Option (List Int × Int × List Int × Bool) := (strings_Split.f a0 (⟨#[32]⟩ : ByteArray)).bind fun ae => (if (ae.length : Int) = 3 then (if 0 < (ae.length : Int) then ((strings_Split.f (rdOf ByteArray.empty ae 0) (⟨#[44]⟩ : ByteArray)).bind fun aq => (impl_ReadPlace.l0 k a0 ae aq (aq.length : Int) 0 ([] : List Int) 0)) else (none)) else (some (([] : List Int), 0, ([] : List Int), false)))
theorem impl_ReadPlace.mono_l : ∀ k, (∀ y0 y1 y2 y3 y4 y5 y6, LeO (impl_ReadPlace.l0 k y0 y1 y2 y3 y4 y5 y6) (impl_ReadPlace.l0 (k + 1) y0 y1 y2 y3 y4 y5 y6)) ∧ (∀ y0 y1 y2 y3 y4 y5 y6, LeO (impl_ReadPlace.l1 k y0 y1 y2 y3 y4 y5 y6) (impl_ReadPlace.l1 (k + 1) y0 y1 y2 y3 y4 y5 y6))
 | 0 => ⟨fun _ _ _ _ _ _ _ r h => by simp [impl_ReadPlace.l0] at h, fun _ _ _ _ _ _ _ r h => by simp [impl_ReadPlace.l1] at h⟩
 | k + 1 => by
  obtain ⟨ih0, ih1⟩ := impl_ReadPlace.mono_l k
  refine ⟨?_, ?_⟩
  ·
   intro y0 y1 y2 y3 y4 y5 y6
   unfold impl_ReadPlace.l0
   repeat' (with_reducible first | exact ih0 _ _ _ _ _ _ _ | exact ih1 _ _ _ _ _ _ _ | exact impl_PlaceText.mono _ _ _ _ | exact mr_ | exact mn_ | refine mi_ ?_ ?_ | refine mb_ ?_ (fun _ => ?_))
  ·
   intro y0 y1 y2 y3 y4 y5 y6
   unfold impl_ReadPlace.l1
   repeat' (with_reducible first | exact ih0 _ _ _ _ _ _ _ | exact ih1 _ _ _ _ _ _ _ | exact impl_PlaceText.mono _ _ _ _ | exact mr_ | exact mn_ | refine mi_ ?_ ?_ | refine mb_ ?_ (fun _ => ?_))
theorem impl_ReadPlace.mono : ∀ a0 k, LeO (impl_ReadPlace.f k a0) (impl_ReadPlace.f (k + 1) a0) := by
 intro a0 k
 obtain ⟨ih0, ih1⟩ := impl_ReadPlace.mono_l k
 unfold impl_ReadPlace.f
 repeat' (with_reducible first | exact ih0 _ _ _ _ _ _ _ | exact ih1 _ _ _ _ _ _ _ | exact impl_PlaceText.mono _ _ _ _ | exact mr_ | exact mn_ | refine mi_ ?_ ?_ | refine mb_ ?_ (fun _ => ?_))
def impl_ReadPlace.T18 : Bool × List (List Nat × List Nat) := (true, [([], []), ([0], [0]), ([], []), ([2], [2]), ([3], [3]), ([], []), ([4, 5], [4, 5]), ([6], [6]), ([7], [7]), ([8], [8]), ([1, 9], [1, 9]), ([0, 1, 2, 3, 4, 5, 6, 7, 8, 9, 10], []), ([11, 10, 10, 0, 1, 2, 3, 4, 5, 6, 7, 8, 9, 10], [10, 11])])
def impl_ReadPlace.B18 : List Nat := [0, 1, 0, 4, 12, 0, 60, 124, 252, 508, 1023, 2047, 4095]
theorem impl_ReadPlace.tab18 : rtab .any (opsOf Tryd.f54 18) = impl_ReadPlace.T18 := by kernel_rfl
theorem impl_ReadPlace.bits18 : waitsOk impl_ReadPlace.T18.2 impl_ReadPlace.B18 = true := by kernel_rfl
set_option maxHeartbeats 8000000 in
set_option maxRecDepth 100000 in
theorem impl_ReadPlace.calls (k : Nat) (a0 : ByteArray) (r1 : List Int) (r2 : Int) (r3 : List Int) (r4 : Bool) (w : World) (hG : GWb w) (h : impl_ReadPlace.f k a0 = some (r1, r2, r3, r4)) :
  Calls Tryd.prog 54 #[.string a0] w fun e w' => ∃ v0_ v2_ : Value, e = .returned (.tuple #[.agg #[v0_, .int .i64 r2, v2_], .bool r4]) ∧ Kd.R (Kd.int .i64) 3 w' w.heap.size (fun k_ => some k_ ≠ (v2_ : Value).ownBlock) v0_ r1 ∧ Kd.R (Kd.int .i64) 3 w' w.heap.size (fun k_ => some k_ ≠ (v0_ : Value).ownBlock) v2_ r3 ∧ Below w.heap.size w w' := by
 have HG := Aside0.mk hG
 clear hG
 have hu25 := Tryd.underlying25
 have hu111 := Tryd.underlying111
 have HB := Aside0.mk (Below.refl w.heap.size w)
 have H : ((strings_Split.f a0 (⟨#[32]⟩ : ByteArray)).bind fun ae => (if (ae.length : Int) = 3 then (if 0 < (ae.length : Int) then ((strings_Split.f (rdOf ByteArray.empty ae 0) (⟨#[44]⟩ : ByteArray)).bind fun aq => (impl_ReadPlace.l0 k a0 ae aq (aq.length : Int) 0 ([] : List Int) 0)) else (none)) else (some (([] : List Int), 0, ([] : List Int), false)))) = some (r1, r2, r3, r4) := h
 clear h
 obtain ⟨ae, A2, H⟩ := bnd_ H
 try dsimp only at H
 by_cases c3 : (ae.length : Int) = 3
 ·
  rw [if_pos c3] at H
  have aV : ((ae.length : Int) == 3) = true := beq_iff_eq.mpr c3
  have aW : ((ae.length : Int) != 3) = false := bne_eq_false_iff_eq.mpr c3
  clear c3
  by_cases c4 : 0 < (ae.length : Int)
  ·
   rw [if_pos c4] at H
   have a5 : decide (0 < (ae.length : Int)) = true := decide_eq_true c4
   have cH : decide (0 < ae.length) = true := decide_eq_true (by omega)
   clear c4
   obtain ⟨aq, A5, H⟩ := bnd_ H
   try dsimp only at H
   have H' := Aside0.mk H
   clear H
   go_enter Tryd.func54, Tryd.ntmps54
   go_wp2_with (first | ((with_reducible refine gate_dst (N := 2) rfl ?_); (try (refine gate_guard (by rfl) ?_; dsimp only)); refine box_event ?hg (N := 2) ?hd (cs := #[.slice none 0 0, .int .i64 0, .slice none 0 0]) (t := 25) ?hr ?_; (case hd => rfl); (case hg => rfl); (case hr => first | (go_simp; done) | (go_simp; rfl)); intro ar hg w6 hbox hb; have ac := Aside0.mk (hbox); have cI := gx_ HB hg; have cJ := gx_ HB hg; replace HB := bs_ HB hb; clear hb hbox hg) | ((with_reducible refine gate_callee (f := 93) rfl ?_); refine gl_ (some 12) Tryd.func93 #[.string a0, .string (⟨#[32]⟩ : ByteArray)] ?_; (with_reducible refine (strings_Split.calls a0 (⟨#[32]⟩ : ByteArray) ae _ ?s1 A2.out).mono ?_); (case s1 => exact GWb.below HG.out (tb_ HB.out)); rintro e w7 ⟨dS, rfl, ho0, hb⟩; refine ⟨_, rfl, ?_⟩; have ay := rx_ ho0 HB; replace ac := bb_ ac hb; replace HB := bs_ HB hb; (try clear hb); (try clear hb2); (try clear hk); (try clear hi); (try clear ho0); obtain ⟨eS, co8, eC⟩ := Kd.R_slice ay.out; subst eC) | ((with_reducible refine gate_dst (N := 5) rfl ?_); (try (refine gate_guard (by rfl) ?_; dsimp only)); refine box_event ?hg (N := 5) ?hd (cs := #[.slice none 0 0, .int .i64 0, .slice none 0 0]) (t := 25) ?hr ?_; (case hd => rfl); (case hg => rfl); (case hr => first | (go_simp; done) | (go_simp; rfl)); intro ag hg w9 hbox hb; replace ay := rb_ ay hb; have aa := Aside0.mk (hbox); have eb := gx_ HB hg; have ec := gx_ HB hg; replace HB := bs_ HB hb; have al := nl_ ac hg; have am := ng_ ac hg; replace ac := bb_ ac hb; clear hb hbox hg; have ed := am.out; have ee := al.out; have aK := cz_ aa 0; have aM := cz_ aa 1; have aN := cz_ aa 2; have aQ := blk_frozen aa.out 0; have aR := blk_frozen aa.out 1; have aU := blk_frozen aa.out 2; have p183 : 0 ≤ (0 : Int) := (by omega); have q183 : 0 < (ae.length : Int) := od_; obtain ⟨ad183, e183, aw⟩ := Kd.at_string (Kd.R_reads' ay.out).2.2 0 p183 q183; cases e183; have ef : (0 < ae.length) = True := eq_true (by omega); (try rw [show ((0 : Int)).toNat = 0 from rfl] at aw); (try rw [Addr.add_zero'] at aw); have hn183_0 : ad183.block ≠ ag := Kd.own_blk (Kd.R_ne ay.out aa.out (by decide)); have hn183_1 : ad183.block ≠ ag := Kd.own_blk (Kd.R_ne ay.out aa.out (by decide)); have hn183_2 : ad183.block ≠ ag := Kd.own_blk (Kd.R_ne ay.out aa.out (by decide)); replace aw := (cell_far (p := ⟨ag, 0, none⟩) (by first | (rw [add_block]; exact hn183_0) | (show (Addr.add _ _).block ≠ _; rw [add_block]; exact hn183_0) | exact hn183_0) (.slice none 0 0)).trans aw; replace aw := (cell_far (p := ⟨ag, 1, none⟩) (by first | (rw [add_block]; exact hn183_1) | (show (Addr.add _ _).block ≠ _; rw [add_block]; exact hn183_1) | exact hn183_1) (.int .i64 0)).trans aw; replace aw := (cell_far (p := ⟨ag, 2, none⟩) (by first | (rw [add_block]; exact hn183_2) | (show (Addr.add _ _).block ≠ _; rw [add_block]; exact hn183_2) | exact hn183_2) (.slice none 0 0)).trans aw; clear hn183_0 hn183_1 hn183_2; replace p183 := eq_true p183; replace q183 := eq_true q183) | ((with_reducible refine gate_callee (f := 93) rfl ?_); refine gl_ (some 21) Tryd.func93 #[.string (rdOf ByteArray.empty ae 0), .string (⟨#[44]⟩ : ByteArray)] ?_; (with_reducible refine (strings_Split.calls (rdOf ByteArray.empty ae 0) (⟨#[44]⟩ : ByteArray) aq _ ?s1 A5.out).mono ?_); (case s1 => exact GWb.below HG.out (tb_ HB.out)); rintro e eT ⟨eD, rfl, ho0, hb⟩; refine ⟨_, rfl, ?_⟩; have ct := Aside0.mk (Kd.R_lower (Kd.R_new' ho0 (Kd.R_lt (by refine qR_ ?_; exact (Kd.R_mono (Kd.R_far (p := ⟨ag, 2, none⟩) (Kd.R_far (p := ⟨ag, 1, none⟩) (Kd.R_far (p := ⟨ag, 0, none⟩) (Kd.R_types ay.out aa.out (by decide)) (fun _ hk => hk.2) (.slice none 0 0)) (fun _ hk => hk.2) (.int .i64 0)) (fun _ hk => hk.2) (.slice none 0 0)) (fun _ h_ => h_.1))))) (below_size (tb_ HB.out))); replace ay := Aside0.mk (Kd.R_elder' (by refine qR_ ?_; exact (Kd.R_mono (Kd.R_far (p := ⟨ag, 2, none⟩) (Kd.R_far (p := ⟨ag, 1, none⟩) (Kd.R_far (p := ⟨ag, 0, none⟩) (Kd.R_types ay.out aa.out (by decide)) (fun _ hk => hk.2) (.slice none 0 0)) (fun _ hk => hk.2) (.int .i64 0)) (fun _ hk => hk.2) (.slice none 0 0)) (fun _ h_ => h_.1))) (Kd.R_base ho0) hb); replace ac := bb_ ac hb; replace aa := Aside0.mk (blk_below (g := ag) (o := .cells #[.slice none 0 0, .int .i64 0, .slice none 0 0] 25 (0, 0)) (ps_ aa.out) hb); replace HB := bs_ HB hb; (try clear hb); (try clear hb2); (try clear hk); (try clear hi); (try clear ho0); obtain ⟨cK, cL, dT⟩ := Kd.R_slice ct.out; subst dT))
   go_loopg [23] k (fun kq eE w' => ∃ (aj : Int) (az : Int) (ad : List Int) (u183000 : Value), eE = .int .i64 aj ∧ Aside0 (impl_ReadPlace.l0 kq a0 ae aq (aq.length : Int) aj ad 0 = some (r1, r2, r3, r4)) ∧ Aside0 (kq ≤ k) ∧ Aside0 (Kd.R Kd.string 9 w' w.heap.size (fun k_ => some k_ ≠ ((.slice cK aq.length cL) : Value).ownBlock) (.slice (some ad183) ae.length co8) ae) ∧ Aside0 (Kd.R Kd.string 9 w' w.heap.size (fun k_ => some k_ ≠ ((.slice (some ad183) ae.length co8) : Value).ownBlock) (.slice cK aq.length cL) aq) ∧ Aside0 (Kd.R (Kd.int .i64) 3 w' w.heap.size (fun _ => True) u183000 ad) ∧ Aside0 (w'.heap[ar]? = some (.cells #[(.slice none 0 0), .int .i64 az, (.slice none 0 0)] 25 (0, 0))) ∧ Aside0 (w'.heap[ag]? = some (.cells #[u183000, .int .i64 0, (.slice none 0 0)] 25 (0, 0))) ∧ Aside0 (Below w.heap.size w w'))
   case atStart => exact ⟨(0), (0), (([] : List Int)), (.slice none 0 0), tx_, H', ⟨Nat.le_refl _⟩, ⟨by refine qR_ ?_; exact Kd.R_mono ay.out (fun _ hk => hk.2)⟩, ⟨by refine qR_ ?_; exact Kd.R_mono ct.out (fun _ hk => hk.2)⟩, ⟨by first | exact Kd.R_nil _ _ _ _ _ | exact Kd.N_nil _ _ _ _ _ | exact Kd.V_nil _ _ _ _ _ | exact Kd.Q_nil _ _ _ _ _ | exact Kd.S_nil _ _ _ _ _⟩, ⟨tk_ ac.out⟩, ⟨tk_ aa.out⟩, ⟨(tb_ HB.out)⟩⟩
   case round =>
    clear H'
    try clear c1
    try clear p1
    try clear q1
    try clear hx1
    try clear eF
    try clear p2
    try clear c3
    try clear aV
    try clear aW
    try clear c4
    try clear a5
    try clear cH
    try clear c5
    try clear c9
    try clear c10
    try clear aK
    try clear aM
    try clear aN
    try clear aQ
    try clear aR
    try clear aU
    try clear aw
    try clear p183
    try clear q183
    obtain ⟨aj, az, ad, u183000, rfl, HA, HK1, ai, ao, ab, ac, aa, HB⟩ := hrel
    cases gk with
    | zero => exact absurd HA.out (by simp [impl_ReadPlace.l0])
    | succ k1 =>
     have H := HA.out
     clear HA
     simp only [impl_ReadPlace.l0] at H
     by_cases c14 : aj < (aq.length : Int)
     ·
      rw [if_pos c14] at H
      have cu : decide (aj < (aq.length : Int)) = true := decide_eq_true c14
      clear c14
      by_cases c15 : 0 ≤ aj
      ·
       rw [if_pos c15] at H
       have cM : decide (0 ≤ aj) = true := decide_eq_true c15
       clear c15
       by_cases c16 : aj < (aq.length : Int)
       ·
        rw [if_pos c16] at H
        have cN : decide (aj < (aq.length : Int)) = true := decide_eq_true c16
        clear c16
        obtain ⟨⟨aJ, dU⟩, A17, H⟩ := bnd_ H
        try dsimp only at H
        rcases dU with _ | q190
        ·
         have H1 : (if (ad.length : Int) > 3 then (some (([] : List Int), 0, ([] : List Int), false)) else (if ad.length < 17592186044416 then (impl_ReadPlace.l0 k1 a0 ae aq (aq.length : Int) (wrap64 (aj + 1)) (ad ++ [aJ]) 0) else (none))) = some (r1, r2, r3, r4) := by rw [if_pos (show (none : Option Int).isNone = true by rfl)] at H; exact H
         clear H
         have H := H1
         clear H1
         try simp only [errW_none, errW_some, Option.map_none, Option.map_some]
         by_cases c18 : (ad.length : Int) > 3
         ·
          rw [if_pos c18] at H
          have cv : decide (3 < (ad.length : Int)) = true := decide_eq_true c18
          have cw : decide (3 < ad.length) = true := decide_eq_true (by omega)
          clear c18
          simp only [Option.some.injEq, Prod.mk.injEq] at H
          obtain ⟨rfl, rfl, rfl, rfl⟩ := H
          have p187 : 0 ≤ (aj : Int) := od_
          have q187 : aj < (aq.length : Int) := od_
          obtain ⟨ad187, e187, aI⟩ := Kd.at_string (Kd.R_reads' ao.out).2.2 aj p187 q187
          cases e187
          replace p187 := eq_true p187
          replace q187 := eq_true q187
          go_wp2_with (first | ((with_reducible refine gate_callee (f := 95) rfl ?_); refine gl_ (some 29) Tryd.func95 #[.string (rdOf ByteArray.empty aq aj)] ?_; (with_reducible refine (strconv_Atoi.calls (rdOf ByteArray.empty aq aj) aJ none _ ?s1 A17.out).mono ?_); (case s1 => exact GWb.below HG.out (tb_ HB.out)); rintro e eU ⟨N_, rfl, hb⟩; refine ⟨_, rfl, ?_⟩; replace ai := rb_ ai hb; replace ao := rb_ ao hb; replace ab := rb_ ab hb; replace ac := bb_ ac hb; replace aa := bb_ aa hb; replace HB := bs_ HB hb; (try clear hb); (try clear hb2); (try clear hk); (try clear hi); (try simp only [errW_none, errW_some, Option.map_none, Option.map_some]); have eg := am.out; have eh := al.out; have a6 := cz_ aa 0; have a7 := cz_ aa 1; have a8 := cz_ aa 2; have a9 := blk_frozen aa.out 0; have bb := blk_frozen aa.out 1; have bc := blk_frozen aa.out 2; obtain ⟨eG, eH, dV⟩ := Kd.R_slice ab.out; subst dV; have bd := cz_ ac 0; have be := cz_ ac 1; have bf := cz_ ac 2; have bg := blk_frozen ac.out 0; have bh := blk_frozen ac.out 1; have bi := blk_frozen ac.out 2))
          refine bodyPost_ret (results_ct rfl _ _ ar 25 #[.slice none 0 0, .int .i64 0, .slice none 0 0] (0, 0) _ rfl (ps_ ac.out) Tryd.underlying25 rfl (by kernel_rfl)) rfl ?_
          exact ⟨_, _, tw_, by first | exact Kd.R_nil _ _ _ _ _ | exact Kd.N_nil _ _ _ _ _ | exact Kd.V_nil _ _ _ _ _ | exact Kd.Q_nil _ _ _ _ _ | exact Kd.S_nil _ _ _ _ _, by first | exact Kd.R_nil _ _ _ _ _ | exact Kd.N_nil _ _ _ _ _ | exact Kd.V_nil _ _ _ _ _ | exact Kd.Q_nil _ _ _ _ _ | exact Kd.S_nil _ _ _ _ _, (tb_ HB.out)⟩
         ·
          rw [if_neg c18] at H
          have cv : decide (3 < (ad.length : Int)) = false := decide_eq_false c18
          have cw : decide (3 < ad.length) = false := decide_eq_false (by omega)
          clear c18
          by_cases c24 : ad.length < 17592186044416
          ·
           rw [if_pos c24] at H
           have cO := Aside0.mk c24
           clear c24
           obtain ⟨aX, a2⟩ : ∃ y_ : List Int, y_ = (ad ++ [aJ]) := ⟨_, rfl⟩
           replace H : (impl_ReadPlace.l0 k1 a0 ae aq (aq.length : Int) (wrap64 (aj + 1)) aX 0) = some (r1, r2, r3, r4) := yq_ a2 H
           have cP := Aside0.mk a2
           clear a2
           have H' := Aside0.mk H
           clear H
           have p187 : 0 ≤ (aj : Int) := od_
           have q187 : aj < (aq.length : Int) := od_
           obtain ⟨ad187, e187, aI⟩ := Kd.at_string (Kd.R_reads' ao.out).2.2 aj p187 q187
           cases e187
           replace p187 := eq_true p187
           replace q187 := eq_true q187
           go_wp2_with (first | ((with_reducible refine gate_callee (f := 95) rfl ?_); refine gl_ (some 29) Tryd.func95 #[.string (rdOf ByteArray.empty aq aj)] ?_; (with_reducible refine (strconv_Atoi.calls (rdOf ByteArray.empty aq aj) aJ none _ ?s1 A17.out).mono ?_); (case s1 => exact GWb.below HG.out (tb_ HB.out)); rintro e eV ⟨N_, rfl, hb⟩; refine ⟨_, rfl, ?_⟩; replace ai := rb_ ai hb; replace ao := rb_ ao hb; replace ab := rb_ ab hb; replace ac := bb_ ac hb; replace aa := bb_ aa hb; replace HB := bs_ HB hb; (try clear hb); (try clear hb2); (try clear hk); (try clear hi); (try simp only [errW_none, errW_some, Option.map_none, Option.map_some]); have ei := am.out; have ej := al.out; have bj := cz_ aa 0; have bk := cz_ aa 1; have bl := cz_ aa 2; have bm := blk_frozen aa.out 0; have bn := blk_frozen aa.out 1; have bo := blk_frozen aa.out 2; obtain ⟨cQ, cR, dW⟩ := Kd.R_slice ab.out; subst dW) | ((with_reducible refine gate_builtin (b := .append) (xs := #[.tmp 42, .tmp 44]) rfl ?_); (try (refine gate_guard (by rfl) ?_; dsimp only)); at_builtin; refine Kd.R_append (Kd.int .i64) (w0 := w) w.heap.size rfl (.tmp 42) (.tmp 44) 23 3 (.int .i64 0) 8 rfl Tryd.underlying23 info3 rfl (by decide) (by omega) (.slice cQ ad.length cR) ad aJ [.int .i64 aJ] (fun _ => True) (fun _ => False) rfl rfl ?aP (fun _ hk => hk.elim) ?aF ?aO ?aB ?aS ?aL ?_; (case aP => exact rfl); (case aB => exact (tb_ HB.out)); (case aF => exact (fun _ _ => trivial)); (case aO => exact (rR_ ab.out)); (case aS => exact (below_size (tb_ HB.out))); (case aL => have := cO.out; omega); intro eI eW ho hb hg hat; rw [← cP.out] at ho; replace ai := Aside0.mk (Kd.R_over' (rR_ ai.out) (Kd.R_typed (rR_ ab.out)) (by decide) hg); replace ao := Aside0.mk (Kd.R_over' (rR_ ao.out) (Kd.R_typed (rR_ ab.out)) (by decide) hg); replace ac := bg_ ac hg (Kd.R_ne ab.out ac.out (by decide)); replace aa := bg_ aa hg (Kd.R_ne ab.out aa.out (by decide)); replace HB := Aside0.mk (hb); have cx := Aside0.mk (ho); clear ab ho hb hg hat; obtain ⟨bp, bq, dX⟩ := Kd.R_slice cx.out; subst dX; have br := cz_ aa 0; have bs := cz_ aa 1; have bu := cz_ aa 2; have bv := blk_frozen aa.out 0; have bw := blk_frozen aa.out 1; have bx := blk_frozen aa.out 2))
           go_roundg k1
           case measure => have := HK1.out; omega
           case rel => exact ⟨(wrap64 (aj + 1)), (az), (aX), (.slice bp aX.length bq), tx_, H', ⟨by have := HK1.out; omega⟩, ⟨by refine qR_ ?_; exact Kd.R_mono (Kd.R_far (p := ⟨ag, 0, none⟩) (Kd.R_types ai.out aa.out (by decide)) (fun _ hk => hk.2) (.slice bp aX.length bq)) (fun _ hk => hk.1)⟩, ⟨by refine qR_ ?_; exact Kd.R_mono (Kd.R_far (p := ⟨ag, 0, none⟩) (Kd.R_types ao.out aa.out (by decide)) (fun _ hk => hk.2) (.slice bp aX.length bq)) (fun _ hk => hk.1)⟩, ⟨by refine qR_ ?_; exact Kd.R_mono (Kd.R_far (p := ⟨ag, 0, none⟩) (Kd.R_types cx.out aa.out (by decide)) (fun _ hk => hk.2) (.slice bp aX.length bq)) (fun _ hk => trivial)⟩, ⟨tk_ ac.out⟩, ⟨by refine bq_ ?_; refine blk_put (cs := #[.slice cQ ad.length cR, .int .i64 0, .slice none 0 0]) ?_ 0 _ rfl; exact tk_ aa.out⟩, ⟨(tb_ HB.out)⟩⟩
          ·
           rw [if_neg c24] at H
           exact absurd H (by simp)
        ·
         have H1 : (some (([] : List Int), 0, ([] : List Int), false)) = some (r1, r2, r3, r4) := by rw [if_neg (show ¬ (some q190).isNone = true by simp)] at H; exact H
         clear H
         have H := H1
         clear H1
         try simp only [errW_none, errW_some, Option.map_none, Option.map_some]
         simp only [Option.some.injEq, Prod.mk.injEq] at H
         obtain ⟨rfl, rfl, rfl, rfl⟩ := H
         have p187 : 0 ≤ (aj : Int) := od_
         have q187 : aj < (aq.length : Int) := od_
         obtain ⟨ad187, e187, aI⟩ := Kd.at_string (Kd.R_reads' ao.out).2.2 aj p187 q187
         cases e187
         replace p187 := eq_true p187
         replace q187 := eq_true q187
         go_wp2_with (first | ((with_reducible refine gate_callee (f := 95) rfl ?_); refine gl_ (some 29) Tryd.func95 #[.string (rdOf ByteArray.empty aq aj)] ?_; (with_reducible refine (strconv_Atoi.calls (rdOf ByteArray.empty aq aj) aJ (some q190) _ ?s1 A17.out).mono ?_); (case s1 => exact GWb.below HG.out (tb_ HB.out)); rintro e eX ⟨N_, rfl, hb⟩; refine ⟨_, rfl, ?_⟩; replace ai := rb_ ai hb; replace ao := rb_ ao hb; replace ab := rb_ ab hb; replace ac := bb_ ac hb; replace aa := bb_ aa hb; replace HB := bs_ HB hb; (try clear hb); (try clear hb2); (try clear hk); (try clear hi); (try simp only [errW_none, errW_some, Option.map_none, Option.map_some]); have ek := al.out; have el := am.out; have bz := cz_ ac 0; have bB := cz_ ac 1; have bC := cz_ ac 2; have bD := blk_frozen ac.out 0; have bE := blk_frozen ac.out 1; have bF := blk_frozen ac.out 2))
         refine bodyPost_ret (results_ct rfl _ _ ar 25 #[.slice none 0 0, .int .i64 0, .slice none 0 0] (0, 0) _ rfl (ps_ ac.out) Tryd.underlying25 rfl (by kernel_rfl)) rfl ?_
         exact ⟨_, _, tw_, by first | exact Kd.R_nil _ _ _ _ _ | exact Kd.N_nil _ _ _ _ _ | exact Kd.V_nil _ _ _ _ _ | exact Kd.Q_nil _ _ _ _ _ | exact Kd.S_nil _ _ _ _ _, by first | exact Kd.R_nil _ _ _ _ _ | exact Kd.N_nil _ _ _ _ _ | exact Kd.V_nil _ _ _ _ _ | exact Kd.Q_nil _ _ _ _ _ | exact Kd.S_nil _ _ _ _ _, (tb_ HB.out)⟩
       ·
        rw [if_neg c16] at H
        exact absurd H (by simp)
      ·
       rw [if_neg c15] at H
       exact absurd H (by simp)
     ·
      rw [if_neg c14] at H
      have cu : decide (aj < (aq.length : Int)) = false := decide_eq_false c14
      clear c14
      by_cases c35 : 1 < (ae.length : Int)
      ·
       rw [if_pos c35] at H
       have cS : decide (1 < (ae.length : Int)) = true := decide_eq_true c35
       have cT : decide (1 < ae.length) = true := decide_eq_true (by omega)
       clear c35
       obtain ⟨⟨an, cF⟩, A36, H⟩ := bnd_ H
       try dsimp only at H
       by_cases c37 : 2 < (ae.length : Int)
       ·
        rw [if_pos c37] at H
        have cU : decide (2 < (ae.length : Int)) = true := decide_eq_true c37
        have cV : decide (2 < ae.length) = true := decide_eq_true (by omega)
        clear c37
        by_cases c38 : (rdOf ByteArray.empty ae 2).toList = ([46] : List UInt8)
        ·
         rw [if_pos c38] at H
         have cy : ((rdOf ByteArray.empty ae 2).toList == ([46] : List UInt8)) = true := beq_iff_eq.mpr c38
         have cz : ((rdOf ByteArray.empty ae 2).toList != ([46] : List UInt8)) = false := bne_eq_false_iff_eq.mpr c38
         clear c38
         obtain ⟨aG, A39, H⟩ := bnd_ H
         try dsimp only at H
         by_cases c40 : aG.toList = a0.toList
         ·
          rw [if_pos c40] at H
          have cA : (aG.toList == a0.toList) = true := beq_iff_eq.mpr c40
          have cB : (aG.toList != a0.toList) = false := bne_eq_false_iff_eq.mpr c40
          clear c40
          simp only [Option.some.injEq, Prod.mk.injEq] at H
          obtain ⟨rfl, rfl, rfl, rfl⟩ := H
          have p194 : 0 ≤ (1 : Int) := (by omega)
          have q194 : 1 < (ae.length : Int) := od_
          obtain ⟨ad194, e194, ax⟩ := Kd.at_string (Kd.R_reads' ai.out).2.2 1 p194 q194
          obtain rfl : ad183 = ad194 := (by injection e194)
          (try simp only [show (1 : Int).toNat = 1 from rfl, Nat.reduceMul, Nat.reduceEqDiff, Go.Addr.add, ↓reduceIte] at ax)
          have cC : (1 < ae.length) = True := eq_true (by omega)
          (try rw [show ((1 : Int)).toNat = 1 from rfl] at ax)
          replace p194 := eq_true p194
          replace q194 := eq_true q194
          go_wp2_with (first | ((with_reducible refine gate_callee (f := 95) rfl ?_); refine gl_ (some 52) Tryd.func95 #[.string (rdOf ByteArray.empty ae 1)] ?_; (with_reducible refine (strconv_Atoi.calls (rdOf ByteArray.empty ae 1) an cF _ ?s1 A36.out).mono ?_); (case s1 => exact GWb.below HG.out (tb_ HB.out)); rintro e eY ⟨N_, rfl, hb⟩; refine ⟨_, rfl, ?_⟩; replace ai := rb_ ai hb; replace ao := rb_ ao hb; replace ab := rb_ ab hb; replace ac := bb_ ac hb; replace aa := bb_ aa hb; replace HB := bs_ HB hb; (try clear hb); (try clear hb2); (try clear hk); (try clear hi); (try simp only [errW_none, errW_some, Option.map_none, Option.map_some]); have em := am.out; have en := al.out; have bG := cz_ aa 0; have bH := cz_ aa 1; have bI := cz_ aa 2; have bJ := blk_frozen aa.out 0; have bK := blk_frozen aa.out 1; have bL := blk_frozen aa.out 2; have p197 : 0 ≤ (2 : Int) := (by omega); have q197 : 2 < (ae.length : Int) := od_; obtain ⟨ad197, e197, ak⟩ := Kd.at_string (Kd.R_reads' ai.out).2.2 2 p197 q197; obtain rfl : ad183 = ad197 := (by injection e197); (try simp only [show (2 : Int).toNat = 2 from rfl, Nat.reduceMul, Nat.reduceEqDiff, Go.Addr.add, ↓reduceIte] at ak); have cD : (2 < ae.length) = True := eq_true (by omega); (try rw [show ((2 : Int)).toNat = 2 from rfl] at ak); have hn197_0 : ad183.block ≠ ag := Kd.own_blk (Kd.R_ne ai.out aa.out (by decide)); replace ak := (cell_far (p := ⟨ag, 1, none⟩) (by first | (rw [add_block]; exact hn197_0) | (show (Addr.add _ _).block ≠ _; rw [add_block]; exact hn197_0) | exact hn197_0) (.int .i64 an)).trans ak; clear hn197_0; replace p197 := eq_true p197; replace q197 := eq_true q197; obtain ⟨bM, a3, dY⟩ := Kd.R_slice ab.out; subst dY) | ((with_reducible refine gate_callee (f := 60) rfl ?_); refine gl_ (some 81) Tryd.func60 #[.agg #[.slice bM ad.length a3, .int .i64 an, .slice none 0 0]] ?_; (refine (impl_PlaceText.calls k1 _ _ ad an _ _ ([] : List Int) aG _ ?s1 ?s2 ?s3 ?s4 ?s5 A39.out).mono ?_); (case s1 => refine (Kd.R_reads' (e := 3) (base := w.heap.size) (ok := fun k_ => True) (n := ad.length) (c := a3) ?_).2.2; exact (by refine qR_ ?_; exact (Kd.R_mono (Kd.R_far (p := ⟨ag, 1, none⟩) (Kd.R_types ab.out aa.out (by decide)) (fun _ hk => hk.2) (.int .i64 an)) (fun _ h_ => h_.1)))); (case s2 => exact (Kd.R_reads' ab.out).2.1); (case s3 => exact Kd.C_nil _ _); (case s4 => exact Nat.le_refl _); (case s5 => exact GWb.below HG.out (tb_ HB.out)); rintro e eZ ⟨rfl, hb⟩; refine ⟨_, rfl, ?_⟩; replace ai := Aside0.mk (Kd.R_below (by refine qR_ ?_; exact (Kd.R_mono (Kd.R_far (p := ⟨ag, 1, none⟩) (Kd.R_types ai.out aa.out (by decide)) (fun _ hk => hk.2) (.int .i64 an)) (fun _ h_ => h_.1))) hb); replace ao := Aside0.mk (Kd.R_below (by refine qR_ ?_; exact (Kd.R_mono (Kd.R_far (p := ⟨ag, 1, none⟩) (Kd.R_types ao.out aa.out (by decide)) (fun _ hk => hk.2) (.int .i64 an)) (fun _ h_ => h_.1))) hb); replace ab := Aside0.mk (Kd.R_below (by refine qR_ ?_; exact (Kd.R_mono (Kd.R_far (p := ⟨ag, 1, none⟩) (Kd.R_types ab.out aa.out (by decide)) (fun _ hk => hk.2) (.int .i64 an)) (fun _ h_ => h_.1))) hb); replace ac := bb_ ac hb; replace aa := Aside0.mk (blk_below (g := ag) (o := .cells #[.slice bM ad.length a3, .int .i64 an, .slice none 0 0] 25 (0, 0)) (ps_ aa.out) hb); replace HB := bs_ HB hb; (try clear hb); (try clear hb2); (try clear hk); (try clear hi); have bN := cz_ aa 0; have bO := cz_ aa 1; have bP := cz_ aa 2; have bQ := blk_frozen aa.out 0; have bR := blk_frozen aa.out 1; have bS := blk_frozen aa.out 2; have bU := cz_ ac 0; have bV := cz_ ac 1; have bW := cz_ ac 2; have bX := blk_frozen ac.out 0; have bZ := blk_frozen ac.out 1; have b0 := blk_frozen ac.out 2))
          refine bodyPost_ret (results_ct rfl _ _ ar 25 #[.slice bM ad.length a3, .int .i64 an, .slice none 0 0] (0, 0) _ rfl (ps_ ac.out) Tryd.underlying25 rfl (by kernel_rfl)) rfl ?_
          exact ⟨_, _, tw_, by refine qR_ ?_; exact Kd.R_mono (Kd.R_far (p := ⟨ar, 2, none⟩) (Kd.R_far (p := ⟨ar, 1, none⟩) (Kd.R_far (p := ⟨ar, 0, none⟩) (Kd.R_types ab.out ac.out (by decide)) (fun _ hk => hk.2) (.slice bM ad.length a3)) (fun _ hk => hk.2) (.int .i64 an)) (fun _ hk => hk.2) (.slice none 0 0)) (fun _ hk => (by simp [Value.ownBlock])), by first | exact Kd.R_nil _ _ _ _ _ | exact Kd.N_nil _ _ _ _ _ | exact Kd.V_nil _ _ _ _ _ | exact Kd.Q_nil _ _ _ _ _ | exact Kd.S_nil _ _ _ _ _, (tb_ HB.out)⟩
         ·
          rw [if_neg c40] at H
          have cA : (aG.toList == a0.toList) = false := beq_eq_false_iff_ne.mpr c40
          have cB : (aG.toList != a0.toList) = true := bne_iff_ne.mpr c40
          simp only [Option.some.injEq, Prod.mk.injEq] at H
          obtain ⟨rfl, rfl, rfl, rfl⟩ := H
          have p194 : 0 ≤ (1 : Int) := (by omega)
          have q194 : 1 < (ae.length : Int) := od_
          obtain ⟨ad194, e194, ax⟩ := Kd.at_string (Kd.R_reads' ai.out).2.2 1 p194 q194
          obtain rfl : ad183 = ad194 := (by injection e194)
          (try simp only [show (1 : Int).toNat = 1 from rfl, Nat.reduceMul, Nat.reduceEqDiff, Go.Addr.add, ↓reduceIte] at ax)
          have cC : (1 < ae.length) = True := eq_true (by omega)
          (try rw [show ((1 : Int)).toNat = 1 from rfl] at ax)
          replace p194 := eq_true p194
          replace q194 := eq_true q194
          go_wp2_with (first | ((with_reducible refine gate_callee (f := 95) rfl ?_); refine gl_ (some 52) Tryd.func95 #[.string (rdOf ByteArray.empty ae 1)] ?_; (with_reducible refine (strconv_Atoi.calls (rdOf ByteArray.empty ae 1) an cF _ ?s1 A36.out).mono ?_); (case s1 => exact GWb.below HG.out (tb_ HB.out)); rintro e e0 ⟨N_, rfl, hb⟩; refine ⟨_, rfl, ?_⟩; replace ai := rb_ ai hb; replace ao := rb_ ao hb; replace ab := rb_ ab hb; replace ac := bb_ ac hb; replace aa := bb_ aa hb; replace HB := bs_ HB hb; (try clear hb); (try clear hb2); (try clear hk); (try clear hi); (try simp only [errW_none, errW_some, Option.map_none, Option.map_some]); have eo := am.out; have ep := al.out; have b1 := cz_ aa 0; have b2 := cz_ aa 1; have b3 := cz_ aa 2; have b4 := blk_frozen aa.out 0; have b5 := blk_frozen aa.out 1; have b6 := blk_frozen aa.out 2; have p197 : 0 ≤ (2 : Int) := (by omega); have q197 : 2 < (ae.length : Int) := od_; obtain ⟨ad197, e197, ak⟩ := Kd.at_string (Kd.R_reads' ai.out).2.2 2 p197 q197; obtain rfl : ad183 = ad197 := (by injection e197); (try simp only [show (2 : Int).toNat = 2 from rfl, Nat.reduceMul, Nat.reduceEqDiff, Go.Addr.add, ↓reduceIte] at ak); have cD : (2 < ae.length) = True := eq_true (by omega); (try rw [show ((2 : Int)).toNat = 2 from rfl] at ak); have hn197_0 : ad183.block ≠ ag := Kd.own_blk (Kd.R_ne ai.out aa.out (by decide)); replace ak := (cell_far (p := ⟨ag, 1, none⟩) (by first | (rw [add_block]; exact hn197_0) | (show (Addr.add _ _).block ≠ _; rw [add_block]; exact hn197_0) | exact hn197_0) (.int .i64 an)).trans ak; clear hn197_0; replace p197 := eq_true p197; replace q197 := eq_true q197; obtain ⟨cW, cG, dZ⟩ := Kd.R_slice ab.out; subst dZ) | ((with_reducible refine gate_callee (f := 60) rfl ?_); refine gl_ (some 81) Tryd.func60 #[.agg #[.slice cW ad.length cG, .int .i64 an, .slice none 0 0]] ?_; (refine (impl_PlaceText.calls k1 _ _ ad an _ _ ([] : List Int) aG _ ?s1 ?s2 ?s3 ?s4 ?s5 A39.out).mono ?_); (case s1 => refine (Kd.R_reads' (e := 3) (base := w.heap.size) (ok := fun k_ => True) (n := ad.length) (c := cG) ?_).2.2; exact (by refine qR_ ?_; exact (Kd.R_mono (Kd.R_far (p := ⟨ag, 1, none⟩) (Kd.R_types ab.out aa.out (by decide)) (fun _ hk => hk.2) (.int .i64 an)) (fun _ h_ => h_.1)))); (case s2 => exact (Kd.R_reads' ab.out).2.1); (case s3 => exact Kd.C_nil _ _); (case s4 => exact Nat.le_refl _); (case s5 => exact GWb.below HG.out (tb_ HB.out)); rintro e e1 ⟨rfl, hb⟩; refine ⟨_, rfl, ?_⟩; replace ai := Aside0.mk (Kd.R_below (by refine qR_ ?_; exact (Kd.R_mono (Kd.R_far (p := ⟨ag, 1, none⟩) (Kd.R_types ai.out aa.out (by decide)) (fun _ hk => hk.2) (.int .i64 an)) (fun _ h_ => h_.1))) hb); replace ao := Aside0.mk (Kd.R_below (by refine qR_ ?_; exact (Kd.R_mono (Kd.R_far (p := ⟨ag, 1, none⟩) (Kd.R_types ao.out aa.out (by decide)) (fun _ hk => hk.2) (.int .i64 an)) (fun _ h_ => h_.1))) hb); replace ab := Aside0.mk (Kd.R_below (by refine qR_ ?_; exact (Kd.R_mono (Kd.R_far (p := ⟨ag, 1, none⟩) (Kd.R_types ab.out aa.out (by decide)) (fun _ hk => hk.2) (.int .i64 an)) (fun _ h_ => h_.1))) hb); replace ac := bb_ ac hb; replace aa := Aside0.mk (blk_below (g := ag) (o := .cells #[.slice cW ad.length cG, .int .i64 an, .slice none 0 0] 25 (0, 0)) (ps_ aa.out) hb); replace HB := bs_ HB hb; (try clear hb); (try clear hb2); (try clear hk); (try clear hi); have b7 := cz_ ac 0; have b8 := cz_ ac 1; have b9 := cz_ ac 2; have ca := blk_frozen ac.out 0; have cb := blk_frozen ac.out 1; have cc := blk_frozen ac.out 2))
          refine bodyPost_ret (results_ct rfl _ _ ar 25 #[.slice none 0 0, .int .i64 0, .slice none 0 0] (0, 0) _ rfl (ps_ ac.out) Tryd.underlying25 rfl (by kernel_rfl)) rfl ?_
          exact ⟨_, _, tw_, by first | exact Kd.R_nil _ _ _ _ _ | exact Kd.N_nil _ _ _ _ _ | exact Kd.V_nil _ _ _ _ _ | exact Kd.Q_nil _ _ _ _ _ | exact Kd.S_nil _ _ _ _ _, by first | exact Kd.R_nil _ _ _ _ _ | exact Kd.N_nil _ _ _ _ _ | exact Kd.V_nil _ _ _ _ _ | exact Kd.Q_nil _ _ _ _ _ | exact Kd.S_nil _ _ _ _ _, (tb_ HB.out)⟩
        ·
         rw [if_neg c38] at H
         have cy : ((rdOf ByteArray.empty ae 2).toList == ([46] : List UInt8)) = false := beq_eq_false_iff_ne.mpr c38
         have cz : ((rdOf ByteArray.empty ae 2).toList != ([46] : List UInt8)) = true := bne_iff_ne.mpr c38
         have H' := Aside0.mk H
         clear H
         have p194 : 0 ≤ (1 : Int) := (by omega)
         have q194 : 1 < (ae.length : Int) := od_
         obtain ⟨ad194, e194, ax⟩ := Kd.at_string (Kd.R_reads' ai.out).2.2 1 p194 q194
         obtain rfl : ad183 = ad194 := (by injection e194)
         (try simp only [show (1 : Int).toNat = 1 from rfl, Nat.reduceMul, Nat.reduceEqDiff, Go.Addr.add, ↓reduceIte] at ax)
         have cC : (1 < ae.length) = True := eq_true (by omega)
         (try rw [show ((1 : Int)).toNat = 1 from rfl] at ax)
         replace p194 := eq_true p194
         replace q194 := eq_true q194
         go_wp2_with (first | ((with_reducible refine gate_callee (f := 95) rfl ?_); refine gl_ (some 52) Tryd.func95 #[.string (rdOf ByteArray.empty ae 1)] ?_; (with_reducible refine (strconv_Atoi.calls (rdOf ByteArray.empty ae 1) an cF _ ?s1 A36.out).mono ?_); (case s1 => exact GWb.below HG.out (tb_ HB.out)); rintro e e2 ⟨N_, rfl, hb⟩; refine ⟨_, rfl, ?_⟩; replace ai := rb_ ai hb; replace ao := rb_ ao hb; replace ab := rb_ ab hb; replace ac := bb_ ac hb; replace aa := bb_ aa hb; replace HB := bs_ HB hb; (try clear hb); (try clear hb2); (try clear hk); (try clear hi); (try simp only [errW_none, errW_some, Option.map_none, Option.map_some]); have eq := am.out; have er := al.out; have cd := cz_ aa 0; have ce := cz_ aa 1; have cf := cz_ aa 2; have cg := blk_frozen aa.out 0; have ch := blk_frozen aa.out 1; have ci := blk_frozen aa.out 2; have p197 : 0 ≤ (2 : Int) := (by omega); have q197 : 2 < (ae.length : Int) := od_; obtain ⟨ad197, e197, ak⟩ := Kd.at_string (Kd.R_reads' ai.out).2.2 2 p197 q197; obtain rfl : ad183 = ad197 := (by injection e197); (try simp only [show (2 : Int).toNat = 2 from rfl, Nat.reduceMul, Nat.reduceEqDiff, Go.Addr.add, ↓reduceIte] at ak); have cD : (2 < ae.length) = True := eq_true (by omega); (try rw [show ((2 : Int)).toNat = 2 from rfl] at ak); have hn197_0 : ad183.block ≠ ag := Kd.own_blk (Kd.R_ne ai.out aa.out (by decide)); replace ak := (cell_far (p := ⟨ag, 1, none⟩) (by first | (rw [add_block]; exact hn197_0) | (show (Addr.add _ _).block ≠ _; rw [add_block]; exact hn197_0) | exact hn197_0) (.int .i64 an)).trans ak; clear hn197_0; replace p197 := eq_true p197; replace q197 := eq_true q197; have p199 : 0 ≤ (2 : Int) := (by omega); have q199 : 2 < (ae.length : Int) := od_; obtain ⟨ad199, e199, aC⟩ := Kd.at_string (Kd.R_reads' ai.out).2.2 2 p199 q199; obtain rfl : ad183 = ad199 := (by injection e199); (try simp only [show (2 : Int).toNat = 2 from rfl, Nat.reduceMul, Nat.reduceEqDiff, Go.Addr.add, ↓reduceIte] at aC); have es : (2 < ae.length) = True := eq_true (by omega); (try rw [show ((2 : Int)).toNat = 2 from rfl] at aC); have hn199_0 : ad183.block ≠ ag := Kd.own_blk (Kd.R_ne ai.out aa.out (by decide)); replace aC := (cell_far (p := ⟨ag, 1, none⟩) (by first | (rw [add_block]; exact hn199_0) | (show (Addr.add _ _).block ≠ _; rw [add_block]; exact hn199_0) | exact hn199_0) (.int .i64 an)).trans aC; clear hn199_0; replace p199 := eq_true p199; replace q199 := eq_true q199))
         go_loopg [64] k1 (fun kq eJ w' => ∃ (au : Int) (ah : List Int) (u183002 : Value), eJ = .int .i64 au ∧ Aside0 (impl_ReadPlace.l1 kq a0 ae ((rdOf ByteArray.empty ae 2).size : Int) au ad an ah = some (r1, r2, r3, r4)) ∧ Aside0 (kq ≤ k1) ∧ Aside0 (Kd.R Kd.string 9 w' w.heap.size (fun _ => True) (.slice (some ad183) ae.length co8) ae) ∧ Aside0 (Kd.R (Kd.int .i64) 3 w' w.heap.size (fun k_ => some k_ ≠ (u183002 : Value).ownBlock) u183000 ad) ∧ Aside0 (Kd.R (Kd.int .i64) 3 w' w.heap.size (fun k_ => some k_ ≠ (u183000 : Value).ownBlock) u183002 ah) ∧ Aside0 (w'.heap[ar]? = some (.cells #[(.slice none 0 0), .int .i64 az, (.slice none 0 0)] 25 (0, 0))) ∧ Aside0 (w'.heap[ag]? = some (.cells #[u183000, .int .i64 an, u183002] 25 (0, 0))) ∧ Aside0 (Below w.heap.size w w'))
         case atStart => exact ⟨(0), (([] : List Int)), (.slice none 0 0), tx_, H', ⟨Nat.le_refl _⟩, ⟨by refine qR_ ?_; exact Kd.R_mono (Kd.R_far (p := ⟨ag, 1, none⟩) (Kd.R_types ai.out aa.out (by decide)) (fun _ hk => hk.2) (.int .i64 an)) (fun _ hk => trivial)⟩, ⟨by refine qR_ ?_; exact Kd.R_mono (Kd.R_far (p := ⟨ag, 1, none⟩) (Kd.R_types ab.out aa.out (by decide)) (fun _ hk => hk.2) (.int .i64 an)) (fun _ hk => (by simp [Value.ownBlock]))⟩, ⟨by first | exact Kd.R_nil _ _ _ _ _ | exact Kd.N_nil _ _ _ _ _ | exact Kd.V_nil _ _ _ _ _ | exact Kd.Q_nil _ _ _ _ _ | exact Kd.S_nil _ _ _ _ _⟩, ⟨tk_ ac.out⟩, ⟨by refine bq_ ?_; refine blk_put (cs := #[u183000, .int .i64 0, .slice none 0 0]) ?_ 1 _ rfl; exact tk_ aa.out⟩, ⟨(tb_ HB.out)⟩⟩
         case round =>
          clear H'
          try clear c1
          try clear p1
          try clear q1
          try clear hx1
          try clear eF
          try clear c2
          try clear p2
          try clear c3
          try clear aV
          try clear aW
          try clear c4
          try clear a5
          try clear cH
          try clear c5
          try clear c6
          try clear p6
          try clear c9
          try clear c10
          try clear c14
          try clear cu
          try clear c15
          try clear cM
          try clear c16
          try clear cN
          try clear c18
          try clear cv
          try clear cw
          try clear p18
          try clear q18
          try clear hx18
          try clear eK
          try clear p19
          try clear q19
          try clear hx19
          try clear eL
          try clear c20
          try clear c24
          try clear c26
          try clear c33
          try clear c35
          try clear cS
          try clear cT
          try clear c37
          try clear cU
          try clear cV
          try clear c38
          try clear cy
          try clear cz
          try clear c40
          try clear cA
          try clear cB
          try clear c42
          try clear c49
          try clear c54
          try clear c55
          try clear aK
          try clear aM
          try clear aN
          try clear a6
          try clear a7
          try clear a8
          try clear bd
          try clear be
          try clear bf
          try clear bj
          try clear bk
          try clear bl
          try clear br
          try clear bs
          try clear bu
          try clear bz
          try clear bB
          try clear bC
          try clear bG
          try clear bH
          try clear bI
          try clear bN
          try clear bO
          try clear bP
          try clear bU
          try clear bV
          try clear bW
          try clear b1
          try clear b2
          try clear b3
          try clear b7
          try clear b8
          try clear b9
          try clear cd
          try clear ce
          try clear cf
          try clear aQ
          try clear aR
          try clear aU
          try clear a9
          try clear bb
          try clear bc
          try clear bg
          try clear bh
          try clear bi
          try clear bm
          try clear bn
          try clear bo
          try clear bv
          try clear bw
          try clear bx
          try clear bD
          try clear bE
          try clear bF
          try clear bJ
          try clear bK
          try clear bL
          try clear bQ
          try clear bR
          try clear bS
          try clear bX
          try clear bZ
          try clear b0
          try clear b4
          try clear b5
          try clear b6
          try clear ca
          try clear cb
          try clear cc
          try clear cg
          try clear ch
          try clear ci
          try clear aw
          try clear aI
          try clear ax
          try clear ak
          try clear aC
          try clear p1
          try clear p183
          try clear p187
          try clear p194
          try clear p197
          try clear p199
          try clear p2
          try clear q1
          try clear q183
          try clear q187
          try clear q190
          try clear q194
          try clear q197
          try clear q199
          obtain ⟨au, ah, u183002, rfl, HA, HK2, ai, ab, af, ac, aa, HB⟩ := hrel
          cases gk with
          | zero => exact absurd HA.out (by simp [impl_ReadPlace.l1])
          | succ k2 =>
           have H := HA.out
           clear HA
           simp only [impl_ReadPlace.l1] at H
           by_cases c57 : au < ((rdOf ByteArray.empty ae 2).size : Int)
           ·
            rw [if_pos c57] at H
            have cX : decide (au < ((rdOf ByteArray.empty ae 2).size : Int)) = true := decide_eq_true c57
            clear c57
            by_cases c58 : 2 < (ae.length : Int)
            ·
             rw [if_pos c58] at H
             have et : decide (2 < (ae.length : Int)) = true := decide_eq_true c58
             have eu : decide (2 < ae.length) = true := decide_eq_true (by omega)
             clear c58
             by_cases c59 : 0 ≤ au
             ·
              rw [if_pos c59] at H
              have ev : decide (0 ≤ au) = true := decide_eq_true c59
              clear c59
              by_cases c60 : au < ((rdOf ByteArray.empty ae 2).size : Int)
              ·
               rw [if_pos c60] at H
               have ew : decide (au < ((rdOf ByteArray.empty ae 2).size : Int)) = true := decide_eq_true c60
               clear c60
               by_cases c62 : ah.length < 17592186044416
               ·
                rw [if_pos c62] at H
                have cY := Aside0.mk c62
                clear c62
                obtain ⟨aY, a4⟩ : ∃ y_ : List Int, y_ = (ah ++ [wrap64 ((wrap64 (bt (rdOf ByteArray.empty ae 2) au)) - 97)]) := ⟨_, rfl⟩
                replace H : (impl_ReadPlace.l1 k2 a0 ae ((rdOf ByteArray.empty ae 2).size : Int) (wrap64 (au + 1)) ad an aY) = some (r1, r2, r3, r4) := yq_ a4 H
                have cZ := Aside0.mk a4
                clear a4
                have H' := Aside0.mk H
                clear H
                try go_wp2
                replace ai := rd_ ai
                replace ab := rd_ ab
                replace af := rd_ af
                replace ac := dB_ ac
                replace aa := dB_ aa
                replace HB := Aside0.mk (ld_ HB.out)
                have p200 : 0 ≤ (2 : Int) := (by omega)
                have q200 : 2 < (ae.length : Int) := od_
                obtain ⟨ad200, e200, aE⟩ := Kd.at_string (Kd.R_reads' ai.out).2.2 2 p200 q200
                obtain rfl : ad183 = ad200 := (by injection e200)
                (try simp only [show (2 : Int).toNat = 2 from rfl, Nat.reduceMul, Nat.reduceEqDiff, Go.Addr.add, ↓reduceIte] at aE)
                have ex : (2 < ae.length) = True := eq_true (by omega)
                (try rw [show ((2 : Int)).toNat = 2 from rfl] at aE)
                replace p200 := eq_true p200
                replace q200 := eq_true q200
                have p61 : 0 ≤ (au : Int) := od_
                have q61 : au < ((rdOf ByteArray.empty ae 2).size : Int) := od_
                have hx61 := bt_at (rdOf ByteArray.empty ae 2) au
                replace p61 := eq_true p61
                replace q61 := eq_true q61
                refine start_ (n := 13) (S := fun w' => w'.cell? ⟨ag, 0, none⟩ = some (u183000) ∧ w'.cell? ⟨ag, 1, none⟩ = some (.int .i64 an) ∧ w'.cell? ⟨ag, 2, none⟩ = some (u183002) ∧ w'.cell? ⟨ad183.block, ad183.off + 2, none⟩ = some (.string (rdOf ByteArray.empty ae 2))) (ds := [10, 12]) #[false, false, false, false, false, false, false, false, false, false, false, false, false] (by kernel_rfl) rfl rfl ⟨(blk_cell aa.out 0).trans rfl, (blk_cell aa.out 1).trans rfl, (blk_cell aa.out 2).trans rfl, aE⟩ (fun hHeld => ?_); refine with_tabW impl_ReadPlace.tab18 impl_ReadPlace.bits18 (fun HT_ HW_ => ?_)
                generalize wr.drew = e3 at ai ab af ac aa HB aE hHeld ⊢
                refine pu_ 0 (some 67) #[true, false, false, false, false, false, false, false, false, false, false, false, false] HT_ rfl rfl ?_
                refine pu_ 2 (some 69) #[true, false, true, false, false, false, false, false, false, false, false, false, false] HT_ rfl rfl ?_
                refine pu_ 3 (some 70) #[true, false, true, true, false, false, false, false, false, false, false, false, false] HT_ rfl rfl ?_
                refine pu_ 5 (some 72) #[true, false, true, true, false, true, false, false, false, false, false, false, false] HT_ rfl rfl ?_
                refine ta_ 1 (some 68) #[true, true, true, true, false, true, false, false, false, false, false, false, false] HT_ HW_ hHeld rfl rfl ?_
                refine ta_ 4 (some 71) #[true, true, true, true, true, true, false, false, false, false, false, false, false] HT_ HW_ hHeld rfl rfl ?_
                refine ta_ 6 (some 73) #[true, true, true, true, true, true, true, false, false, false, false, false, false] HT_ HW_ hHeld rfl rfl ?_
                refine pu_ 7 (some 74) #[true, true, true, true, true, true, true, true, false, false, false, false, false] HT_ rfl rfl ?_
                refine pu_ 8 (some 75) #[true, true, true, true, true, true, true, true, true, false, false, false, false] HT_ rfl rfl ?_
                refine one_ (i := 9) (N := some 76) #[true, true, true, true, true, true, true, true, true, true, false, false, false] rfl rfl (one_of HT_.out (by kernel_rfl)) (by decide) (fun K hK => ?_)
                refine va_ rfl ?_
                refine hK.out _ _ ⟨(blk_cell (blk_alloc aa.out _) 0).trans rfl, (blk_cell (blk_alloc aa.out _) 1).trans rfl, (blk_cell (blk_alloc aa.out _) 2).trans rfl, (World.cell?_alloc_lt _ _ _ (World.block_lt_of_cell? _ _ (hHeld.2.2.2))).trans (hHeld.2.2.2)⟩ (fun hHeld => ?_)
                clear hK K
                refine nr_ 76 ?_
                refine last_ (i := 10) (N := some 77) #[true, true, true, true, true, true, true, true, true, true, true, false, false] rfl rfl (one_of HT_.out (by kernel_rfl)) (by decide) (fun K hK => ?_)
                refine Kd.R_append_step (Kd.int .i64) (w0 := w) w.heap.size (by rfl) (.tmp 68) (.tmp 76) 23 3 (.int .i64 0) 8 rfl Tryd.underlying23 info3 rfl (by decide) (by omega) u183002 ah (wrap64 ((wrap64 (bt (rdOf ByteArray.empty ae 2) au)) - 97)) [.int .i64 (wrap64 ((wrap64 (bt (rdOf ByteArray.empty ae 2) au)) - 97))] (fun k_ => some k_ ≠ (u183000 : Value).ownBlock) (fun _ => False) rfl rfl ?aP (fun _ hk => hk.elim) ?aF ?aO ?aB ?aS ?aL ?_
                (case aP => exact rfl)
                (case aB => exact (tb_ HB.out))
                (case aF => exact (fun k_ hk => Kd.fresh' (Kd.R_lt (rR_ ab.out)) k_ hk))
                (case aO => exact (rR_ af.out))
                (case aS => exact (below_size (tb_ HB.out)))
                (case aL => have := cY.out; omega)
                intro eM eN ho hb hg hat
                rw [← cZ.out] at ho
                replace ai := Aside0.mk (Kd.R_over' (rR_ ai.out) (Kd.R_typed (rR_ af.out)) (by decide) hg)
                replace ab := Aside0.mk (Kd.R_after (ok := (fun _ => True)) (by refine qR_ ?_; exact Kd.R_mono ab.out (fun _ hk => ⟨trivial, hk⟩)) hg hat)
                replace ac := bg_ ac hg (Kd.R_ne af.out ac.out (by decide))
                replace aa := bg_ aa hg (Kd.R_ne af.out aa.out (by decide))
                replace HB := Aside0.mk (hb)
                have cE := Aside0.mk (ho)
                clear af
                clear ho hb hg hat
                obtain ⟨cj, ck, c8⟩ := Kd.R_slice cE.out
                (first | subst c8 | (injection c8 with f1_ f2_ f3_; have f4_ := f1_.symm; have f5_ := f3_.symm; clear f1_ f2_ f3_; subst f4_; subst f5_))
                refine hK.out _ _ ?_
                clear hK K
                refine nr_ 77 ?_
                refine pu_ 11 (some 78) #[true, true, true, true, true, true, true, true, true, true, true, true, false] HT_ rfl rfl ?_
                refine last_ (i := 12) (N := none) #[true, true, true, true, true, true, true, true, true, true, true, true, true] rfl rfl (one_of HT_.out (by kernel_rfl)) (by decide) (fun K hK => ?_)
                have hs66 : eN.cell? ⟨ag, 2, none⟩ = some (u183002) := (blk_cell aa.out 2).trans rfl
                have hfs66 := blk_frozen aa.out 2
                have dd := al.out
                have de := am.out
                refine sk_ rfl ?_
                refine hK.out _ _ ?_
                clear hK K
                refine done_ (done_of HT_.out (by kernel_rfl)) ?_
                try go_wp2
                go_roundg k2
                case measure => have := HK1.out; have := HK2.out; omega
                case rel => exact ⟨(wrap64 (au + 1)), (aY), (.slice cj aY.length ck), tx_, H', ⟨by have := HK1.out; have := HK2.out; omega⟩, ⟨by refine qR_ ?_; exact Kd.R_mono (Kd.R_far (p := ⟨ag, 2, none⟩) (Kd.R_types ai.out aa.out (by decide)) (fun _ hk => hk.2) (.slice cj aY.length ck)) (fun _ hk => trivial)⟩, ⟨by refine qR_ ?_; exact Kd.R_mono (Kd.R_far (p := ⟨ag, 2, none⟩) (Kd.R_types ab.out aa.out (by decide)) (fun _ hk => hk.2) (.slice cj aY.length ck)) (fun _ hk => hk.1.2)⟩, ⟨by refine qR_ ?_; exact Kd.R_mono (Kd.R_far (p := ⟨ag, 2, none⟩) (Kd.R_types cE.out aa.out (by decide)) (fun _ hk => hk.2) (.slice cj aY.length ck)) (fun _ hk => hk.1)⟩, ⟨tk_ ac.out⟩, ⟨by refine bq_ ?_; refine blk_put (cs := #[u183000, .int .i64 an, u183002]) ?_ 2 _ rfl; exact tk_ aa.out⟩, ⟨(tb_ HB.out)⟩⟩
               ·
                rw [if_neg c62] at H
                exact absurd H (by simp)
              ·
               rw [if_neg c60] at H
               exact absurd H (by simp)
             ·
              rw [if_neg c59] at H
              exact absurd H (by simp)
            ·
             rw [if_neg c58] at H
             exact absurd H (by simp)
           ·
            rw [if_neg c57] at H
            have cX : decide (au < ((rdOf ByteArray.empty ae 2).size : Int)) = false := decide_eq_false c57
            clear c57
            obtain ⟨aH, A67, H⟩ := bnd_ H
            try dsimp only at H
            by_cases c68 : aH.toList = a0.toList
            ·
             rw [if_pos c68] at H
             have da : (aH.toList == a0.toList) = true := beq_iff_eq.mpr c68
             have db : (aH.toList != a0.toList) = false := bne_eq_false_iff_eq.mpr c68
             clear c68
             simp only [Option.some.injEq, Prod.mk.injEq] at H
             obtain ⟨rfl, rfl, rfl, rfl⟩ := H
             have ey := am.out
             have ez := al.out
             have df := cz_ aa 0
             have dg := cz_ aa 1
             have dh := cz_ aa 2
             have di := blk_frozen aa.out 0
             have dj := blk_frozen aa.out 1
             have dk := blk_frozen aa.out 2
             obtain ⟨cl, cm, d0⟩ := Kd.R_slice ab.out
             subst d0
             obtain ⟨cn, co, d1⟩ := Kd.R_slice af.out
             subst d1
             go_wp2_with (first | ((with_reducible refine gate_callee (f := 60) rfl ?_); refine gl_ (some 81) Tryd.func60 #[.agg #[.slice cl ad.length cm, .int .i64 an, .slice cn ah.length co]] ?_; (with_reducible refine (impl_PlaceText.calls k2 _ _ ad an _ _ ah aH _ ?s1 ?s2 ?s3 ?s4 ?s5 A67.out).mono ?_); (case s1 => repeat (first | exact (Kd.R_reads' ab.out).2.2 | (with_reducible refine Kd.C_alloc ?_ _) | (with_reducible refine Kd.C_drewN ?_ _) | (with_reducible refine Kd.C_drew ?_))); (case s2 => exact (Kd.R_reads' ab.out).2.1); (case s3 => repeat (first | exact (Kd.R_reads' af.out).2.2 | (with_reducible refine Kd.C_alloc ?_ _) | (with_reducible refine Kd.C_drewN ?_ _) | (with_reducible refine Kd.C_drew ?_))); (case s4 => exact (Kd.R_reads' af.out).2.1); (case s5 => exact GWb.below HG.out (tb_ HB.out)); rintro e e4 ⟨rfl, hb⟩; refine ⟨_, rfl, ?_⟩; replace ai := rb_ ai hb; replace ab := rb_ ab hb; replace af := rb_ af hb; replace ac := bb_ ac hb; replace aa := bb_ aa hb; replace HB := bs_ HB hb; (try clear hb); (try clear hb2); (try clear hk); (try clear hi); have dl := cz_ aa 0; have dm := cz_ aa 1; have dn := cz_ aa 2; have dp := blk_frozen aa.out 0; have dq := blk_frozen aa.out 1; have dr := blk_frozen aa.out 2; have dt := cz_ ac 0; have du := cz_ ac 1; have dv := cz_ ac 2; have dw := blk_frozen ac.out 0; have dx := blk_frozen ac.out 1; have dy := blk_frozen ac.out 2))
             refine bodyPost_ret (results_ct rfl _ _ ar 25 #[.slice cl ad.length cm, .int .i64 an, .slice cn ah.length co] (0, 0) _ rfl (ps_ ac.out) Tryd.underlying25 rfl (by kernel_rfl)) rfl ?_
             exact ⟨_, _, tw_, by refine qR_ ?_; exact Kd.R_mono (Kd.R_far (p := ⟨ar, 2, none⟩) (Kd.R_far (p := ⟨ar, 1, none⟩) (Kd.R_far (p := ⟨ar, 0, none⟩) (Kd.R_types ab.out ac.out (by decide)) (fun _ hk => hk.2) (.slice cl ad.length cm)) (fun _ hk => hk.2) (.int .i64 an)) (fun _ hk => hk.2) (.slice cn ah.length co)) (fun _ hk => hk.1), by refine qR_ ?_; exact Kd.R_mono (Kd.R_far (p := ⟨ar, 2, none⟩) (Kd.R_far (p := ⟨ar, 1, none⟩) (Kd.R_far (p := ⟨ar, 0, none⟩) (Kd.R_types af.out ac.out (by decide)) (fun _ hk => hk.2) (.slice cl ad.length cm)) (fun _ hk => hk.2) (.int .i64 an)) (fun _ hk => hk.2) (.slice cn ah.length co)) (fun _ hk => hk.1), (tb_ HB.out)⟩
            ·
             rw [if_neg c68] at H
             have da : (aH.toList == a0.toList) = false := beq_eq_false_iff_ne.mpr c68
             have db : (aH.toList != a0.toList) = true := bne_iff_ne.mpr c68
             simp only [Option.some.injEq, Prod.mk.injEq] at H
             obtain ⟨rfl, rfl, rfl, rfl⟩ := H
             have eA := am.out
             have eB := al.out
             have dz := cz_ aa 0
             have dA := cz_ aa 1
             have dB := cz_ aa 2
             have dC := blk_frozen aa.out 0
             have dD := blk_frozen aa.out 1
             have dE := blk_frozen aa.out 2
             obtain ⟨d2, d3, d4⟩ := Kd.R_slice ab.out
             subst d4
             obtain ⟨d5, d6, d7⟩ := Kd.R_slice af.out
             subst d7
             go_wp2_with (first | ((with_reducible refine gate_callee (f := 60) rfl ?_); refine gl_ (some 81) Tryd.func60 #[.agg #[.slice d2 ad.length d3, .int .i64 an, .slice d5 ah.length d6]] ?_; (with_reducible refine (impl_PlaceText.calls k2 _ _ ad an _ _ ah aH _ ?s1 ?s2 ?s3 ?s4 ?s5 A67.out).mono ?_); (case s1 => repeat (first | exact (Kd.R_reads' ab.out).2.2 | (with_reducible refine Kd.C_alloc ?_ _) | (with_reducible refine Kd.C_drewN ?_ _) | (with_reducible refine Kd.C_drew ?_))); (case s2 => exact (Kd.R_reads' ab.out).2.1); (case s3 => repeat (first | exact (Kd.R_reads' af.out).2.2 | (with_reducible refine Kd.C_alloc ?_ _) | (with_reducible refine Kd.C_drewN ?_ _) | (with_reducible refine Kd.C_drew ?_))); (case s4 => exact (Kd.R_reads' af.out).2.1); (case s5 => exact GWb.below HG.out (tb_ HB.out)); rintro e e5 ⟨rfl, hb⟩; refine ⟨_, rfl, ?_⟩; replace ai := rb_ ai hb; replace ab := rb_ ab hb; replace af := rb_ af hb; replace ac := bb_ ac hb; replace aa := bb_ aa hb; replace HB := bs_ HB hb; (try clear hb); (try clear hb2); (try clear hk); (try clear hi); have dF := cz_ ac 0; have dG := cz_ ac 1; have dH := cz_ ac 2; have dI := blk_frozen ac.out 0; have dJ := blk_frozen ac.out 1; have dK := blk_frozen ac.out 2))
             refine bodyPost_ret (results_ct rfl _ _ ar 25 #[.slice none 0 0, .int .i64 0, .slice none 0 0] (0, 0) _ rfl (ps_ ac.out) Tryd.underlying25 rfl (by kernel_rfl)) rfl ?_
             exact ⟨_, _, tw_, by first | exact Kd.R_nil _ _ _ _ _ | exact Kd.N_nil _ _ _ _ _ | exact Kd.V_nil _ _ _ _ _ | exact Kd.Q_nil _ _ _ _ _ | exact Kd.S_nil _ _ _ _ _, by first | exact Kd.R_nil _ _ _ _ _ | exact Kd.N_nil _ _ _ _ _ | exact Kd.V_nil _ _ _ _ _ | exact Kd.Q_nil _ _ _ _ _ | exact Kd.S_nil _ _ _ _ _, (tb_ HB.out)⟩
       ·
        rw [if_neg c37] at H
        exact absurd H (by simp)
      ·
       rw [if_neg c35] at H
       exact absurd H (by simp)
  ·
   rw [if_neg c4] at H
   exact absurd H (by simp)
 ·
  rw [if_neg c3] at H
  have aV : ((ae.length : Int) == 3) = false := beq_eq_false_iff_ne.mpr c3
  have aW : ((ae.length : Int) != 3) = true := bne_iff_ne.mpr c3
  simp only [Option.some.injEq, Prod.mk.injEq] at H
  obtain ⟨rfl, rfl, rfl, rfl⟩ := H
  go_enter Tryd.func54, Tryd.ntmps54
  go_wp2_with (first | ((with_reducible refine gate_dst (N := 2) rfl ?_); (try (refine gate_guard (by rfl) ?_; dsimp only)); refine box_event ?hg (N := 2) ?hd (cs := #[.slice none 0 0, .int .i64 0, .slice none 0 0]) (t := 25) ?hr ?_; (case hd => rfl); (case hg => rfl); (case hr => first | (go_simp; done) | (go_simp; rfl)); intro ar hg e6 hbox hb; have ac := Aside0.mk (hbox); have cI := gx_ HB hg; have cJ := gx_ HB hg; replace HB := bs_ HB hb; clear hb hbox hg) | ((with_reducible refine gate_callee (f := 93) rfl ?_); refine gl_ (some 12) Tryd.func93 #[.string a0, .string (⟨#[32]⟩ : ByteArray)] ?_; (with_reducible refine (strings_Split.calls a0 (⟨#[32]⟩ : ByteArray) ae _ ?s1 A2.out).mono ?_); (case s1 => exact GWb.below HG.out (tb_ HB.out)); rintro e e7 ⟨dS, rfl, ho0, hb⟩; refine ⟨_, rfl, ?_⟩; have ay := rx_ ho0 HB; replace ac := bb_ ac hb; replace HB := bs_ HB hb; (try clear hb); (try clear hb2); (try clear hk); (try clear hi); (try clear ho0); obtain ⟨eO, eP, d8⟩ := Kd.R_slice ay.out; subst d8; have dL := cz_ ac 0; have dM := cz_ ac 1; have dN := cz_ ac 2; have dP := blk_frozen ac.out 0; have dQ := blk_frozen ac.out 1; have dR := blk_frozen ac.out 2))
  refine bodyPost_ret (results_ct rfl _ _ ar 25 #[.slice none 0 0, .int .i64 0, .slice none 0 0] (0, 0) _ rfl (ps_ ac.out) Tryd.underlying25 rfl (by kernel_rfl)) rfl ?_
  exact ⟨_, _, tw_, by first | exact Kd.R_nil _ _ _ _ _ | exact Kd.N_nil _ _ _ _ _ | exact Kd.V_nil _ _ _ _ _ | exact Kd.Q_nil _ _ _ _ _ | exact Kd.S_nil _ _ _ _ _, by first | exact Kd.R_nil _ _ _ _ _ | exact Kd.N_nil _ _ _ _ _ | exact Kd.V_nil _ _ _ _ _ | exact Kd.Q_nil _ _ _ _ _ | exact Kd.S_nil _ _ _ _ _, (tb_ HB.out)⟩

/-! ### laws_sameInts: function 108 -/
def laws_sameInts.l0 : Nat → List Int → List Int → Int → Option (Bool)
 | 0, _, _, _ => none
 | k + 1, x0, x1, x5 => if x5 < (x0.length : Int) then (if 0 ≤ x5 then (if x5 < (x1.length : Int) then (if (rd x0 x5) = (rd x1 x5) then (laws_sameInts.l0 k x0 x1 (wrap64 (x5 + 1))) else (some false)) else (none)) else (none)) else (some true)
def laws_sameInts.f (k : Nat) (l0 : List Int) (l1 : List Int) : Option (Bool) := if (l0.length : Int) = (l1.length : Int) then (laws_sameInts.l0 k l0 l1 0) else (some false)
theorem laws_sameInts.mono_l : ∀ k, (∀ y0 y1 y2, LeO (laws_sameInts.l0 k y0 y1 y2) (laws_sameInts.l0 (k + 1) y0 y1 y2))
 | 0 => fun _ _ _ r h => by simp [laws_sameInts.l0] at h
 | k + 1 => by
  have ih0 := laws_sameInts.mono_l k
  ·
   intro y0 y1 y2
   unfold laws_sameInts.l0
   repeat' (with_reducible first | exact ih0 _ _ _ | exact mr_ | exact mn_ | refine mi_ ?_ ?_ | refine mb_ ?_ (fun _ => ?_))
theorem laws_sameInts.mono : ∀ a0 a1 k, LeO (laws_sameInts.f k a0 a1) (laws_sameInts.f (k + 1) a0 a1) := by
 intro a0 a1 k
 have ih0 := laws_sameInts.mono_l k
 unfold laws_sameInts.f
 repeat' (with_reducible first | exact ih0 _ _ _ | exact mr_ | exact mn_ | refine mi_ ?_ ?_ | refine mb_ ?_ (fun _ => ?_))
set_option maxHeartbeats 8000000 in
set_option maxRecDepth 100000 in
theorem laws_sameInts.calls (k : Nat) (A0 : Option Addr) (c0 : Nat) (l0 : List Int) (A1 : Option Addr) (c1 : Nat) (l1 : List Int) (r : Bool) (w : World) (hr0 : Kd.C (Kd.int .i64) w A0 l0.length l0) (hc0 : l0.length ≤ c0) (hr1 : Kd.C (Kd.int .i64) w A1 l1.length l1) (hc1 : l1.length ≤ c1) (h : laws_sameInts.f k l0 l1 = some r) :
  Calls Tryd.prog 108 #[.slice A0 l0.length c0, .slice A1 l1.length c1] w fun e w' => e = .returned (.bool r) ∧ Drawn0 w w' := by
 have HR0 := Aside0.mk hr0
 have HC0 := Aside0.mk hc0
 clear hr0 hc0
 have HR1 := Aside0.mk hr1
 have HC1 := Aside0.mk hc1
 clear hr1 hc1
 have H : (if (l0.length : Int) = (l1.length : Int) then (laws_sameInts.l0 k l0 l1 0) else (some false)) = some r := h
 clear h
 by_cases c3 : (l0.length : Int) = (l1.length : Int)
 ·
  rw [if_pos c3] at H
  have aV : ((l0.length : Int) == (l1.length : Int)) = true := beq_iff_eq.mpr c3
  have aW : ((l0.length : Int) != (l1.length : Int)) = false := bne_eq_false_iff_eq.mpr c3
  have dc : (l0.length == l1.length) = true := by first | simpa using c3 | (simp at c3 ⊢; omega)
  clear c3
  have H' := Aside0.mk H
  clear H
  go_enter Tryd.func108, Tryd.ntmps108
  go_wp2
  repeat (go_quiet (fail); try go_wp2)
  go_loopg [5] k (fun kq v5 w' => ∃ (ap : Int), v5 = .int .i64 ap ∧ Aside0 (laws_sameInts.l0 kq l0 l1 ap = some r) ∧ Aside0 (kq ≤ k) ∧ Drawn0 w w')
  case atStart => exact ⟨(0), tx_, H', ⟨Nat.le_refl _⟩, by repeat (first | exact Drawn0.refl _ | apply Drawn0.step)⟩
  case round =>
   clear H'
   try clear c1
   try clear p2
   try clear c3
   try clear aV
   try clear aW
   try clear dc
   obtain ⟨ap, rfl, HA, HK1, ⟨m1, rfl⟩⟩ := hrel
   cases gk with
   | zero => exact absurd HA.out (by simp [laws_sameInts.l0])
   | succ k1 =>
    have H := HA.out
    clear HA
    simp only [laws_sameInts.l0] at H
    by_cases c4 : ap < (l0.length : Int)
    ·
     rw [if_pos c4] at H
     have a5 : decide (ap < (l0.length : Int)) = true := decide_eq_true c4
     clear c4
     by_cases c5 : 0 ≤ ap
     ·
      rw [if_pos c5] at H
      have eQ : decide (0 ≤ ap) = true := decide_eq_true c5
      clear c5
      by_cases c6 : ap < (l1.length : Int)
      ·
       rw [if_pos c6] at H
       have eR : decide (ap < (l1.length : Int)) = true := decide_eq_true c6
       clear c6
       by_cases c7 : (rd l0 ap) = (rd l1 ap)
       ·
        rw [if_pos c7] at H
        have d9 : ((rd l0 ap) == (rd l1 ap)) = true := beq_iff_eq.mpr c7
        have ea : ((rd l0 ap) != (rd l1 ap)) = false := bne_eq_false_iff_eq.mpr c7
        clear c7
        have H' := Aside0.mk H
        clear H
        have p205 : 0 ≤ (ap : Int) := od_
        have q205 : ap < (l0.length : Int) := od_
        obtain ⟨ad205, e205, cp⟩ := Kd.at_int HR0.out ap p205 q205
        cases e205
        replace p205 := eq_true p205
        replace q205 := eq_true q205
        have p206 : 0 ≤ (ap : Int) := od_
        have q206 : ap < (l1.length : Int) := od_
        obtain ⟨ad206, e206, cq⟩ := Kd.at_int HR1.out ap p206 q206
        cases e206
        replace p206 := eq_true p206
        replace q206 := eq_true q206
        go_wp2
        repeat (go_quiet (fail); try go_wp2)
        go_roundg k1
        case measure => have := HK1.out; omega
        case rel => exact ⟨(wrap64 (ap + 1)), tx_, H', ⟨by have := HK1.out; omega⟩, by repeat (first | exact Drawn0.refl _ | apply Drawn0.step)⟩
       ·
        rw [if_neg c7] at H
        have d9 : ((rd l0 ap) == (rd l1 ap)) = false := beq_eq_false_iff_ne.mpr c7
        have ea : ((rd l0 ap) != (rd l1 ap)) = true := bne_iff_ne.mpr c7
        obtain rfl := Option.some.inj H
        have p205 : 0 ≤ (ap : Int) := od_
        have q205 : ap < (l0.length : Int) := od_
        obtain ⟨ad205, e205, cp⟩ := Kd.at_int HR0.out ap p205 q205
        cases e205
        replace p205 := eq_true p205
        replace q205 := eq_true q205
        have p206 : 0 ≤ (ap : Int) := od_
        have q206 : ap < (l1.length : Int) := od_
        obtain ⟨ad206, e206, cq⟩ := Kd.at_int HR1.out ap p206 q206
        cases e206
        replace p206 := eq_true p206
        replace q206 := eq_true q206
        go_wp2
        repeat (go_quiet (fail); try go_wp2)
        go_ret
        exact ⟨tx_, by repeat (first | exact Drawn0.refl _ | apply Drawn0.step)⟩
      ·
       rw [if_neg c6] at H
       exact absurd H (by simp)
     ·
      rw [if_neg c5] at H
      exact absurd H (by simp)
    ·
     rw [if_neg c4] at H
     have a5 : decide (ap < (l0.length : Int)) = false := decide_eq_false c4
     clear c4
     obtain rfl := Option.some.inj H
     go_wp2
     repeat (go_quiet (fail); try go_wp2)
     go_ret
     exact ⟨tx_, by repeat (first | exact Drawn0.refl _ | apply Drawn0.step)⟩
 ·
  rw [if_neg c3] at H
  have aV : ((l0.length : Int) == (l1.length : Int)) = false := beq_eq_false_iff_ne.mpr c3
  have aW : ((l0.length : Int) != (l1.length : Int)) = true := bne_iff_ne.mpr c3
  have dc : (l0.length == l1.length) = false := by first | simpa using c3 | (simp at c3 ⊢; omega)
  obtain rfl := Option.some.inj H
  go_enter Tryd.func108, Tryd.ntmps108
  go_wp2
  repeat (go_quiet (fail); try go_wp2)
  go_ret
  exact ⟨tx_, by repeat (first | exact Drawn0.refl _ | apply Drawn0.step)⟩

end Go.Proofs.YtlhiienanbpdlaaDoor.MFnPlaceText
