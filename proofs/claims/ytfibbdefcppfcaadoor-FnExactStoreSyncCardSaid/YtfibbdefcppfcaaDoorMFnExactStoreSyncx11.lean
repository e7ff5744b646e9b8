/- For the law FnExactStoreSync: walks of the functions that it reaches: each call returns what the plain function beside it tells. The conditions stand in each statement. -/
import Derived.Test.YtfibbdefcppfcaaDoorV
import Derived.Test.YtfibbdefcppfcaaDoorMFnExactStoreSyncx0
import Derived.Test.YtfibbdefcppfcaaDoorMFnExactStoreSyncx7
import Derived.Test.YtfibbdefcppfcaaDoorMFnExactStoreSyncx10
namespace Go.Proofs.YtfibbdefcppfcaaDoor.MFnExactStoreSync
open Go.RowKit Go.Proofs.YtfibbdefcppfcaaDoorW.PrintWords Go.Proofs.YtfibbdefcppfcaaDoorW.PrintLast Go.Proofs.YtfibbdefcppfcaaDoorW.PrintMore
attribute [local go_sem] max2_int min2_int max_two min_two max_three min_three max_four min_four   -- for this text's walks alone
set_option linter.unusedVariables false
set_option linter.unusedSimpArgs false

/-! ### impl_ReadPlace: function 17 -/
mutual
def impl_ReadPlace.l0 : Nat → ByteArray → List ByteArray → List ByteArray → Int → Int → List Int → Int → Option (List Int × Int × List Int × Bool)
 | 0, _, _, _, _, _, _, _ => none
 | k + 1, x0, x4, x21, x22, x23, aA, aJ => if x23 < x22 then (if 0 ≤ x23 then (if x23 < (x21.length : Int) then ((strconv_Atoi.f (rdOf ByteArray.empty x21 x23)).bind fun cX => (if cX.2.isNone = true then (if (aA.length : Int) > 3 then (some (([] : List Int), 0, ([] : List Int), false)) else (if aA.length < 17592186044416 then (impl_ReadPlace.l0 k x0 x4 x21 x22 (wrap64 (x23 + 1)) (aA ++ [cX.1]) aJ) else (none))) else (some (([] : List Int), 0, ([] : List Int), false)))) else (none)) else (none)) else (if 1 < (x4.length : Int) then ((strconv_Atoi.f (rdOf ByteArray.empty x4 1)).bind fun bs => (if 2 < (x4.length : Int) then (if (rdOf ByteArray.empty x4 2).toList = ([46] : List UInt8) then ((impl_PlaceText.f k aA bs.1 ([] : List Int)).bind fun aU => (if aU.toList = x0.toList then (some (aA, bs.1, ([] : List Int), true)) else (some (([] : List Int), 0, ([] : List Int), false)))) else (impl_ReadPlace.l1 k x0 x4 ((rdOf ByteArray.empty x4 2).size : Int) 0 aA bs.1 ([] : List Int))) else (none))) else (none))
def impl_ReadPlace.l1 : Nat → ByteArray → List ByteArray → Int → Int → List Int → Int → List Int → Option (List Int × Int × List Int × Bool)
 | 0, _, _, _, _, _, _, _ => none
 | k + 1, x0, x4, x63, x64, aA, aJ, aQ => if x64 < x63 then (if 2 < (x4.length : Int) then (if 0 ≤ x64 then (if x64 < ((rdOf ByteArray.empty x4 2).size : Int) then (if aQ.length < 17592186044416 then (impl_ReadPlace.l1 k x0 x4 x63 (wrap64 (x64 + 1)) aA aJ (aQ ++ [wrap64 ((wrap64 (bt (rdOf ByteArray.empty x4 2) x64)) - 97)])) else (none)) else (none)) else (none)) else (none)) else ((impl_PlaceText.f k aA aJ aQ).bind fun aV => (if aV.toList = x0.toList then (some (aA, aJ, aQ, true)) else (some (([] : List Int), 0, ([] : List Int), false))))
end
def impl_ReadPlace.f (k : Nat) (a0 : ByteArray) : Option (List Int × Int × List Int × Bool) := (strings_Split.f a0 (⟨#[32]⟩ : ByteArray)).bind fun af => (if (af.length : Int) = 3 then (if 0 < (af.length : Int) then ((strings_Split.f (rdOf ByteArray.empty af 0) (⟨#[44]⟩ : ByteArray)).bind fun au => (impl_ReadPlace.l0 k a0 af au (au.length : Int) 0 ([] : List Int) 0)) else (none)) else (some (([] : List Int), 0, ([] : List Int), false)))
theorem impl_ReadPlace.mono_l : ∀ k, (∀ y0 y1 y2 y3 y4 y5 y6, LeO (impl_ReadPlace.l0 k y0 y1 y2 y3 y4 y5 y6) (impl_ReadPlace.l0 (k + 1) y0 y1 y2 y3 y4 y5 y6)) ∧ (∀ y0 y1 y2 y3 y4 y5 y6, LeO (impl_ReadPlace.l1 k y0 y1 y2 y3 y4 y5 y6) (impl_ReadPlace.l1 (k + 1) y0 y1 y2 y3 y4 y5 y6))
 | 0 => ⟨fun _ _ _ _ _ _ _ r h => by simp [impl_ReadPlace.l0] at h, fun _ _ _ _ _ _ _ r h => by simp [impl_ReadPlace.l1] at h⟩
 | k + 1 => by
  obtain ⟨ih0, ih1⟩ := impl_ReadPlace.mono_l k
  refine ⟨?_, ?_⟩
  ·
   intro y0 y1 y2 y3 y4 y5 y6
   unfold impl_ReadPlace.l0
   repeat' (with_reducible first | exact ih0 _ _ _ _ _ _ _ | exact ih1 _ _ _ _ _ _ _ | exact impl_PlaceText.mono _ _ _ _ | exact mr_ | exact mn_ | refine mi_ ?_ ?_ | refine mb_ ?_ (fun _ => ?_))
  ·
   intro y0 y1 y2 y3 y4 y5 y6
   unfold impl_ReadPlace.l1
   repeat' (with_reducible first | exact ih0 _ _ _ _ _ _ _ | exact ih1 _ _ _ _ _ _ _ | exact impl_PlaceText.mono _ _ _ _ | exact mr_ | exact mn_ | refine mi_ ?_ ?_ | refine mb_ ?_ (fun _ => ?_))
theorem impl_ReadPlace.mono : ∀ a0 k, LeO (impl_ReadPlace.f k a0) (impl_ReadPlace.f (k + 1) a0) := by
 intro a0 k
 obtain ⟨ih0, ih1⟩ := impl_ReadPlace.mono_l k
 unfold impl_ReadPlace.f
 repeat' (with_reducible first | exact ih0 _ _ _ _ _ _ _ | exact ih1 _ _ _ _ _ _ _ | exact impl_PlaceText.mono _ _ _ _ | exact mr_ | exact mn_ | refine mi_ ?_ ?_ | refine mb_ ?_ (fun _ => ?_))
def impl_ReadPlace.T18 : Bool × List (List Nat × List Nat) := (true, [([], []), ([0], [0]), ([], []), ([2], [2]), ([3], [3]), ([], []), ([4, 5], [4, 5]), ([6], [6]), ([7], [7]), ([8], [8]), ([1, 9], [1, 9]), ([0, 1, 2, 3, 4, 5, 6, 7, 8, 9, 10], []), ([11, 10, 10, 0, 1, 2, 3, 4, 5, 6, 7, 8, 9, 10], [10, 11])])
def impl_ReadPlace.B18 : List Nat := [0, 1, 0, 4, 12, 0, 60, 124, 252, 508, 1023, 2047, 4095]
theorem impl_ReadPlace.tab18 : rtab .any (opsOf Tryd.f17 18) = impl_ReadPlace.T18 := by kernel_rfl
theorem impl_ReadPlace.bits18 : waitsOk impl_ReadPlace.T18.2 impl_ReadPlace.B18 = true := by kernel_rfl
set_option maxHeartbeats 8000000 in
set_option maxRecDepth 100000 in
theorem impl_ReadPlace.calls (k : Nat) (a0 : ByteArray) (r1 : List Int) (r2 : Int) (r3 : List Int) (r4 : Bool) (w : World) (hG : GWb w) (h : impl_ReadPlace.f k a0 = some (r1, r2, r3, r4)) :
  Calls Tryd.prog 17 #[.string a0] w fun e w' => ∃ v0_ v2_ : Value, e = .returned (.tuple #[.agg #[v0_, .int .i64 r2, v2_], .bool r4]) ∧ Kd.R (Kd.int .i64) 3 w' w.heap.size (fun k_ => some k_ ≠ (v2_ : Value).ownBlock) v0_ r1 ∧ Kd.R (Kd.int .i64) 3 w' w.heap.size (fun k_ => some k_ ≠ (v0_ : Value).ownBlock) v2_ r3 ∧ Below w.heap.size w w' := by
 have HG := Aside0.mk hG
 clear hG
 have hu36 := Tryd.underlying36
 have hu46 := Tryd.underlying46
 have HB := Aside0.mk (Below.refl w.heap.size w)
 have H : ((strings_Split.f a0 (⟨#[32]⟩ : ByteArray)).bind fun af => (if (af.length : Int) = 3 then (if 0 < (af.length : Int) then ((strings_Split.f (rdOf ByteArray.empty af 0) (⟨#[44]⟩ : ByteArray)).bind fun au => (impl_ReadPlace.l0 k a0 af au (au.length : Int) 0 ([] : List Int) 0)) else (none)) else (some (([] : List Int), 0, ([] : List Int), false)))) = some (r1, r2, r3, r4) := h
 clear h
 obtain ⟨af, A2, H⟩ := bnd_ H
 try dsimp only at H
 by_cases c3 : (af.length : Int) = 3
 ·
  rw [if_pos c3] at H
  have df : ((af.length : Int) == 3) = true := beq_iff_eq.mpr c3
  have dg : ((af.length : Int) != 3) = false := bne_eq_false_iff_eq.mpr c3
  clear c3
  by_cases c4 : 0 < (af.length : Int)
  ·
   rw [if_pos c4] at H
   have bI : decide (0 < (af.length : Int)) = true := decide_eq_true c4
   have bJ : decide (0 < af.length) = true := decide_eq_true (by omega)
   clear c4
   obtain ⟨au, A5, H⟩ := bnd_ H
   try dsimp only at H
   have H' := Aside0.mk H
   clear H
   go_enter Tryd.func17, Tryd.ntmps17
   go_wp2_with (first | ((with_reducible refine gate_dst (N := 2) rfl ?_); (try (refine gate_guard (by rfl) ?_; dsimp only)); refine box_event ?hg (N := 2) ?hd (cs := #[.slice none 0 0, .int .i64 0, .slice none 0 0]) (t := 36) ?hr ?_; (case hd => rfl); (case hg => rfl); (case hr => first | (go_simp; done) | (go_simp; rfl)); intro av hg w6 hbox hb; have ac := Aside0.mk (hbox); have dA := gx_ HB hg; have dB := gx_ HB hg; replace HB := bs_ HB hb; clear hb hbox hg) | ((with_reducible refine gate_callee (f := 22) rfl ?_); refine gl_ (some 12) Tryd.func22 #[.string a0, .string (⟨#[32]⟩ : ByteArray)] ?_; (with_reducible refine (strings_Split.calls a0 (⟨#[32]⟩ : ByteArray) af _ ?s1 A2.out).mono ?_); (case s1 => exact GWb.below HG.out (tb_ HB.out)); rintro e w7 ⟨fb, rfl, ho0, hb⟩; refine ⟨_, rfl, ?_⟩; have aH := rx_ ho0 HB; replace ac := bb_ ac hb; replace HB := bs_ HB hb; (try clear hb); (try clear hb2); (try clear hk); (try clear hi); (try clear ho0); obtain ⟨gF, co8, gb⟩ := Kd.R_slice aH.out; subst gb) | ((with_reducible refine gate_dst (N := 5) rfl ?_); (try (refine gate_guard (by rfl) ?_; dsimp only)); refine box_event ?hg (N := 5) ?hd (cs := #[.slice none 0 0, .int .i64 0, .slice none 0 0]) (t := 36) ?hr ?_; (case hd => rfl); (case hg => rfl); (case hr => first | (go_simp; done) | (go_simp; rfl)); intro ah hg w9 hbox hb; replace aH := rb_ aH hb; have aa := Aside0.mk (hbox); have fE := gx_ HB hg; have fF := gx_ HB hg; replace HB := bs_ HB hb; have ao := nl_ ac hg; have ap := ng_ ac hg; replace ac := bb_ ac hb; clear hb hbox hg; have fG := ap.out; have fH := ao.out; have aY := cz_ aa 0; have aZ := cz_ aa 1; have a3 := cz_ aa 2; have a4 := blk_frozen aa.out 0; have a5 := blk_frozen aa.out 1; have a6 := blk_frozen aa.out 2; have p320 : 0 ≤ (0 : Int) := (by omega); have q320 : 0 < (af.length : Int) := od_; obtain ⟨ad320, e320, aC⟩ := Kd.at_string (Kd.R_reads' aH.out).2.2 0 p320 q320; cases e320; have fI : (0 < af.length) = True := eq_true (by omega); (try rw [show ((0 : Int)).toNat = 0 from rfl] at aC); (try rw [Addr.add_zero'] at aC); have hn320_0 : ad320.block ≠ ah := Kd.own_blk (Kd.R_ne aH.out aa.out (by decide)); have hn320_1 : ad320.block ≠ ah := Kd.own_blk (Kd.R_ne aH.out aa.out (by decide)); have hn320_2 : ad320.block ≠ ah := Kd.own_blk (Kd.R_ne aH.out aa.out (by decide)); replace aC := (cell_far (p := ⟨ah, 0, none⟩) (by first | (rw [add_block]; exact hn320_0) | (show (Addr.add _ _).block ≠ _; rw [add_block]; exact hn320_0) | exact hn320_0) (.slice none 0 0)).trans aC; replace aC := (cell_far (p := ⟨ah, 1, none⟩) (by first | (rw [add_block]; exact hn320_1) | (show (Addr.add _ _).block ≠ _; rw [add_block]; exact hn320_1) | exact hn320_1) (.int .i64 0)).trans aC; replace aC := (cell_far (p := ⟨ah, 2, none⟩) (by first | (rw [add_block]; exact hn320_2) | (show (Addr.add _ _).block ≠ _; rw [add_block]; exact hn320_2) | exact hn320_2) (.slice none 0 0)).trans aC; clear hn320_0 hn320_1 hn320_2; replace p320 := eq_true p320; replace q320 := eq_true q320) | ((with_reducible refine gate_callee (f := 22) rfl ?_); refine gl_ (some 21) Tryd.func22 #[.string (rdOf ByteArray.empty af 0), .string (⟨#[44]⟩ : ByteArray)] ?_; (with_reducible refine (strings_Split.calls (rdOf ByteArray.empty af 0) (⟨#[44]⟩ : ByteArray) au _ ?s1 A5.out).mono ?_); (case s1 => exact GWb.below HG.out (tb_ HB.out)); rintro e gc ⟨gd, rfl, ho0, hb⟩; refine ⟨_, rfl, ?_⟩; have cY := Aside0.mk (Kd.R_lower (Kd.R_new' ho0 (Kd.R_lt (by refine qR_ ?_; exact (Kd.R_mono (Kd.R_far (p := ⟨ah, 2, none⟩) (Kd.R_far (p := ⟨ah, 1, none⟩) (Kd.R_far (p := ⟨ah, 0, none⟩) (Kd.R_types aH.out aa.out (by decide)) (fun _ hk => hk.2) (.slice none 0 0)) (fun _ hk => hk.2) (.int .i64 0)) (fun _ hk => hk.2) (.slice none 0 0)) (fun _ h_ => h_.1))))) (below_size (tb_ HB.out))); replace aH := Aside0.mk (Kd.R_elder' (by refine qR_ ?_; exact (Kd.R_mono (Kd.R_far (p := ⟨ah, 2, none⟩) (Kd.R_far (p := ⟨ah, 1, none⟩) (Kd.R_far (p := ⟨ah, 0, none⟩) (Kd.R_types aH.out aa.out (by decide)) (fun _ hk => hk.2) (.slice none 0 0)) (fun _ hk => hk.2) (.int .i64 0)) (fun _ hk => hk.2) (.slice none 0 0)) (fun _ h_ => h_.1))) (Kd.R_base ho0) hb); replace ac := bb_ ac hb; replace aa := Aside0.mk (blk_below (g := ah) (o := .cells #[.slice none 0 0, .int .i64 0, .slice none 0 0] 36 (0, 0)) (ps_ aa.out) hb); replace HB := bs_ HB hb; (try clear hb); (try clear hb2); (try clear hk); (try clear hi); (try clear ho0); obtain ⟨dh, di, dj⟩ := Kd.R_slice cY.out; subst dj))
   go_loopg [23] k (fun kq gf w' => ∃ (al : Int) (aI : Int) (ad : List Int) (u320000 : Value), gf = .int .i64 al ∧ Aside0 (impl_ReadPlace.l0 kq a0 af au (au.length : Int) al ad 0 = some (r1, r2, r3, r4)) ∧ Aside0 (kq ≤ k) ∧ Aside0 (Kd.R Kd.string 9 w' w.heap.size (fun k_ => some k_ ≠ ((.slice dh au.length di) : Value).ownBlock) (.slice (some ad320) af.length co8) af) ∧ Aside0 (Kd.R Kd.string 9 w' w.heap.size (fun k_ => some k_ ≠ ((.slice (some ad320) af.length co8) : Value).ownBlock) (.slice dh au.length di) au) ∧ Aside0 (Kd.R (Kd.int .i64) 3 w' w.heap.size (fun _ => True) u320000 ad) ∧ Aside0 (w'.heap[av]? = some (.cells #[(.slice none 0 0), .int .i64 aI, (.slice none 0 0)] 36 (0, 0))) ∧ Aside0 (w'.heap[ah]? = some (.cells #[u320000, .int .i64 0, (.slice none 0 0)] 36 (0, 0))) ∧ Aside0 (Below w.heap.size w w'))
   case atStart => exact ⟨(0), (0), (([] : List Int)), (.slice none 0 0), tx_, H', ⟨Nat.le_refl _⟩, ⟨by refine qR_ ?_; exact Kd.R_mono aH.out (fun _ hk => hk.2)⟩, ⟨by refine qR_ ?_; exact Kd.R_mono cY.out (fun _ hk => hk.2)⟩, ⟨by first | exact Kd.R_nil _ _ _ _ _ | exact Kd.N_nil _ _ _ _ _ | exact Kd.V_nil _ _ _ _ _ | exact Kd.Q_nil _ _ _ _ _ | exact Kd.S_nil _ _ _ _ _⟩, ⟨tk_ ac.out⟩, ⟨tk_ aa.out⟩, ⟨(tb_ HB.out)⟩⟩
   case round =>
    clear H'
    try clear c1
    try clear c2
    try clear p2
    try clear c3
    try clear df
    try clear dg
    try clear p3
    try clear q3
    try clear hx3
    try clear gg
    try clear c4
    try clear bI
    try clear bJ
    try clear c10
    try clear aY
    try clear aZ
    try clear a3
    try clear a4
    try clear a5
    try clear a6
    try clear aC
    try clear p320
    try clear q320
    obtain ⟨al, aI, ad, u320000, rfl, HA, HK1, ak, ar, ab, ac, aa, HB⟩ := hrel
    cases gk with
    | zero => exact absurd HA.out (by simp [impl_ReadPlace.l0])
    | succ k1 =>
     have H := HA.out
     clear HA
     simp only [impl_ReadPlace.l0] at H
     by_cases c14 : al < (au.length : Int)
     ·
      rw [if_pos c14] at H
      have cZ : decide (al < (au.length : Int)) = true := decide_eq_true c14
      clear c14
      by_cases c15 : 0 ≤ al
      ·
       rw [if_pos c15] at H
       have dC : decide (0 ≤ al) = true := decide_eq_true c15
       clear c15
       by_cases c16 : al < (au.length : Int)
       ·
        rw [if_pos c16] at H
        have dD : decide (al < (au.length : Int)) = true := decide_eq_true c16
        clear c16
        obtain ⟨⟨aX, fc⟩, A17, H⟩ := bnd_ H
        try dsimp only at H
        rcases fc with _ | q327
        ·
         have H1 : (if (ad.length : Int) > 3 then (some (([] : List Int), 0, ([] : List Int), false)) else (if ad.length < 17592186044416 then (impl_ReadPlace.l0 k1 a0 af au (au.length : Int) (wrap64 (al + 1)) (ad ++ [aX]) 0) else (none))) = some (r1, r2, r3, r4) := by rw [if_pos (show (none : Option Int).isNone = true by rfl)] at H; exact H
         clear H
         have H := H1
         clear H1
         try simp only [errW_none, errW_some, Option.map_none, Option.map_some]
         by_cases c18 : (ad.length : Int) > 3
         ·
          rw [if_pos c18] at H
          have c0 : decide (3 < (ad.length : Int)) = true := decide_eq_true c18
          have c6 : decide (3 < ad.length) = true := decide_eq_true (by omega)
          clear c18
          simp only [Option.some.injEq, Prod.mk.injEq] at H
          obtain ⟨rfl, rfl, rfl, rfl⟩ := H
          have p324 : 0 ≤ (al : Int) := od_
          have q324 : al < (au.length : Int) := od_
          obtain ⟨ad324, e324, aW⟩ := Kd.at_string (Kd.R_reads' ar.out).2.2 al p324 q324
          cases e324
          replace p324 := eq_true p324
          replace q324 := eq_true q324
          go_wp2_with (first | ((with_reducible refine gate_callee (f := 23) rfl ?_); refine gl_ (some 29) Tryd.func23 #[.string (rdOf ByteArray.empty au al)] ?_; (with_reducible refine (strconv_Atoi.calls (rdOf ByteArray.empty au al) aX none _ ?s1 A17.out).mono ?_); (case s1 => exact GWb.below HG.out (tb_ HB.out)); rintro e gG ⟨N_, rfl, hb⟩; refine ⟨_, rfl, ?_⟩; replace ak := rb_ ak hb; replace ar := rb_ ar hb; replace ab := rb_ ab hb; replace ac := bb_ ac hb; replace aa := bb_ aa hb; replace HB := bs_ HB hb; (try clear hb); (try clear hb2); (try clear hk); (try clear hi); (try simp only [errW_none, errW_some, Option.map_none, Option.map_some]); have dE := ap.out; have dF := ao.out; have a7 := cz_ aa 0; have a8 := cz_ aa 1; have a9 := cz_ aa 2; have bb := blk_frozen aa.out 0; have bc := blk_frozen aa.out 1; have bd := blk_frozen aa.out 2; obtain ⟨fd, fe, dk⟩ := Kd.R_slice ab.out; subst dk; have be := cz_ ac 0; have bf := cz_ ac 1; have bg := cz_ ac 2; have bh := blk_frozen ac.out 0; have bi := blk_frozen ac.out 1; have bj := blk_frozen ac.out 2))
          refine bodyPost_ret (results_ct rfl _ _ av 36 #[.slice none 0 0, .int .i64 0, .slice none 0 0] (0, 0) _ rfl (ps_ ac.out) Tryd.underlying36 rfl (by kernel_rfl)) rfl ?_
          exact ⟨_, _, tw_, by first | exact Kd.R_nil _ _ _ _ _ | exact Kd.N_nil _ _ _ _ _ | exact Kd.V_nil _ _ _ _ _ | exact Kd.Q_nil _ _ _ _ _ | exact Kd.S_nil _ _ _ _ _, by first | exact Kd.R_nil _ _ _ _ _ | exact Kd.N_nil _ _ _ _ _ | exact Kd.V_nil _ _ _ _ _ | exact Kd.Q_nil _ _ _ _ _ | exact Kd.S_nil _ _ _ _ _, (tb_ HB.out)⟩
         ·
          rw [if_neg c18] at H
          have c0 : decide (3 < (ad.length : Int)) = false := decide_eq_false c18
          have c6 : decide (3 < ad.length) = false := decide_eq_false (by omega)
          clear c18
          by_cases c24 : ad.length < 17592186044416
          ·
           rw [if_pos c24] at H
           have dG := Aside0.mk c24
           clear c24
           obtain ⟨bq, bu⟩ : ∃ y_ : List Int, y_ = (ad ++ [aX]) := ⟨_, rfl⟩
           replace H : (impl_ReadPlace.l0 k1 a0 af au (au.length : Int) (wrap64 (al + 1)) bq 0) = some (r1, r2, r3, r4) := yq_ bu H
           have dH := Aside0.mk bu
           clear bu
           have H' := Aside0.mk H
           clear H
           have p324 : 0 ≤ (al : Int) := od_
           have q324 : al < (au.length : Int) := od_
           obtain ⟨ad324, e324, aW⟩ := Kd.at_string (Kd.R_reads' ar.out).2.2 al p324 q324
           cases e324
           replace p324 := eq_true p324
           replace q324 := eq_true q324
           go_wp2_with (first | ((with_reducible refine gate_callee (f := 23) rfl ?_); refine gl_ (some 29) Tryd.func23 #[.string (rdOf ByteArray.empty au al)] ?_; (with_reducible refine (strconv_Atoi.calls (rdOf ByteArray.empty au al) aX none _ ?s1 A17.out).mono ?_); (case s1 => exact GWb.below HG.out (tb_ HB.out)); rintro e gH ⟨N_, rfl, hb⟩; refine ⟨_, rfl, ?_⟩; replace ak := rb_ ak hb; replace ar := rb_ ar hb; replace ab := rb_ ab hb; replace ac := bb_ ac hb; replace aa := bb_ aa hb; replace HB := bs_ HB hb; (try clear hb); (try clear hb2); (try clear hk); (try clear hi); (try simp only [errW_none, errW_some, Option.map_none, Option.map_some]); have fJ := ap.out; have fK := ao.out; have bK := cz_ aa 0; have bL := cz_ aa 1; have bM := cz_ aa 2; have bN := blk_frozen aa.out 0; have bO := blk_frozen aa.out 1; have bP := blk_frozen aa.out 2; obtain ⟨dl, dm, dn⟩ := Kd.R_slice ab.out; subst dn) | ((with_reducible refine gate_builtin (b := .append) (xs := #[.tmp 42, .tmp 44]) rfl ?_); (try (refine gate_guard (by rfl) ?_; dsimp only)); at_builtin; refine Kd.R_append (Kd.int .i64) (w0 := w) w.heap.size rfl (.tmp 42) (.tmp 44) 34 3 (.int .i64 0) 8 rfl Tryd.underlying34 info3 rfl (by decide) (by omega) (.slice dl ad.length dm) ad aX [.int .i64 aX] (fun _ => True) (fun _ => False) rfl rfl ?aP (fun _ hk => hk.elim) ?aF ?aO ?aB ?aS ?aL ?_; (case aP => exact rfl); (case aB => exact (tb_ HB.out)); (case aF => exact (fun _ _ => trivial)); (case aO => exact (rR_ ab.out)); (case aS => exact (below_size (tb_ HB.out))); (case aL => have := dG.out; omega); intro gh gI ho hb hg hat; rw [← dH.out] at ho; replace ak := Aside0.mk (Kd.R_over' (rR_ ak.out) (Kd.R_typed (rR_ ab.out)) (by decide) hg); replace ar := Aside0.mk (Kd.R_over' (rR_ ar.out) (Kd.R_typed (rR_ ab.out)) (by decide) hg); replace ac := bg_ ac hg (Kd.R_ne ab.out ac.out (by decide)); replace aa := bg_ aa hg (Kd.R_ne ab.out aa.out (by decide)); replace HB := Aside0.mk (hb); have c7 := Aside0.mk (ho); clear ab ho hb hg hat; obtain ⟨bQ, bR, ff⟩ := Kd.R_slice c7.out; subst ff; have bS := cz_ aa 0; have bU := cz_ aa 1; have bV := cz_ aa 2; have bW := blk_frozen aa.out 0; have bX := blk_frozen aa.out 1; have bZ := blk_frozen aa.out 2))
           go_roundg k1
           case measure => have := HK1.out; omega
           case rel => exact ⟨(wrap64 (al + 1)), (aI), (bq), (.slice bQ bq.length bR), tx_, H', ⟨by have := HK1.out; omega⟩, ⟨by refine qR_ ?_; exact Kd.R_mono (Kd.R_far (p := ⟨ah, 0, none⟩) (Kd.R_types ak.out aa.out (by decide)) (fun _ hk => hk.2) (.slice bQ bq.length bR)) (fun _ hk => hk.1)⟩, ⟨by refine qR_ ?_; exact Kd.R_mono (Kd.R_far (p := ⟨ah, 0, none⟩) (Kd.R_types ar.out aa.out (by decide)) (fun _ hk => hk.2) (.slice bQ bq.length bR)) (fun _ hk => hk.1)⟩, ⟨by refine qR_ ?_; exact Kd.R_mono (Kd.R_far (p := ⟨ah, 0, none⟩) (Kd.R_types c7.out aa.out (by decide)) (fun _ hk => hk.2) (.slice bQ bq.length bR)) (fun _ hk => trivial)⟩, ⟨tk_ ac.out⟩, ⟨by refine bq_ ?_; refine blk_put (cs := #[.slice dl ad.length dm, .int .i64 0, .slice none 0 0]) ?_ 0 _ rfl; exact tk_ aa.out⟩, ⟨(tb_ HB.out)⟩⟩
          ·
           rw [if_neg c24] at H
           exact absurd H (by simp)
        ·
         have H1 : (some (([] : List Int), 0, ([] : List Int), false)) = some (r1, r2, r3, r4) := by rw [if_neg (show ¬ (some q327).isNone = true by simp)] at H; exact H
         clear H
         have H := H1
         clear H1
         try simp only [errW_none, errW_some, Option.map_none, Option.map_some]
         simp only [Option.some.injEq, Prod.mk.injEq] at H
         obtain ⟨rfl, rfl, rfl, rfl⟩ := H
         have p324 : 0 ≤ (al : Int) := od_
         have q324 : al < (au.length : Int) := od_
         obtain ⟨ad324, e324, aW⟩ := Kd.at_string (Kd.R_reads' ar.out).2.2 al p324 q324
         cases e324
         replace p324 := eq_true p324
         replace q324 := eq_true q324
         go_wp2_with (first | ((with_reducible refine gate_callee (f := 23) rfl ?_); refine gl_ (some 29) Tryd.func23 #[.string (rdOf ByteArray.empty au al)] ?_; (with_reducible refine (strconv_Atoi.calls (rdOf ByteArray.empty au al) aX (some q327) _ ?s1 A17.out).mono ?_); (case s1 => exact GWb.below HG.out (tb_ HB.out)); rintro e gJ ⟨N_, rfl, hb⟩; refine ⟨_, rfl, ?_⟩; replace ak := rb_ ak hb; replace ar := rb_ ar hb; replace ab := rb_ ab hb; replace ac := bb_ ac hb; replace aa := bb_ aa hb; replace HB := bs_ HB hb; (try clear hb); (try clear hb2); (try clear hk); (try clear hi); (try simp only [errW_none, errW_some, Option.map_none, Option.map_some]); have fL := ao.out; have fM := ap.out; have bk := cz_ ac 0; have bl := cz_ ac 1; have bm := cz_ ac 2; have bn := blk_frozen ac.out 0; have bo := blk_frozen ac.out 1; have bp := blk_frozen ac.out 2))
         refine bodyPost_ret (results_ct rfl _ _ av 36 #[.slice none 0 0, .int .i64 0, .slice none 0 0] (0, 0) _ rfl (ps_ ac.out) Tryd.underlying36 rfl (by kernel_rfl)) rfl ?_
         exact ⟨_, _, tw_, by first | exact Kd.R_nil _ _ _ _ _ | exact Kd.N_nil _ _ _ _ _ | exact Kd.V_nil _ _ _ _ _ | exact Kd.Q_nil _ _ _ _ _ | exact Kd.S_nil _ _ _ _ _, by first | exact Kd.R_nil _ _ _ _ _ | exact Kd.N_nil _ _ _ _ _ | exact Kd.V_nil _ _ _ _ _ | exact Kd.Q_nil _ _ _ _ _ | exact Kd.S_nil _ _ _ _ _, (tb_ HB.out)⟩
       ·
        rw [if_neg c16] at H
        exact absurd H (by simp)
      ·
       rw [if_neg c15] at H
       exact absurd H (by simp)
     ·
      rw [if_neg c14] at H
      have cZ : decide (al < (au.length : Int)) = false := decide_eq_false c14
      clear c14
      by_cases c35 : 1 < (af.length : Int)
      ·
       rw [if_pos c35] at H
       have dI : decide (1 < (af.length : Int)) = true := decide_eq_true c35
       have dJ : decide (1 < af.length) = true := decide_eq_true (by omega)
       clear c35
       obtain ⟨⟨aq, dp⟩, A36, H⟩ := bnd_ H
       try dsimp only at H
       by_cases c37 : 2 < (af.length : Int)
       ·
        rw [if_pos c37] at H
        have dK : decide (2 < (af.length : Int)) = true := decide_eq_true c37
        have dL : decide (2 < af.length) = true := decide_eq_true (by omega)
        clear c37
        by_cases c38 : (rdOf ByteArray.empty af 2).toList = ([46] : List UInt8)
        ·
         rw [if_pos c38] at H
         have c8 : ((rdOf ByteArray.empty af 2).toList == ([46] : List UInt8)) = true := beq_iff_eq.mpr c38
         have c9 : ((rdOf ByteArray.empty af 2).toList != ([46] : List UInt8)) = false := bne_eq_false_iff_eq.mpr c38
         clear c38
         obtain ⟨aU, A39, H⟩ := bnd_ H
         try dsimp only at H
         by_cases c40 : aU.toList = a0.toList
         ·
          rw [if_pos c40] at H
          have da : (aU.toList == a0.toList) = true := beq_iff_eq.mpr c40
          have db : (aU.toList != a0.toList) = false := bne_eq_false_iff_eq.mpr c40
          clear c40
          simp only [Option.some.injEq, Prod.mk.injEq] at H
          obtain ⟨rfl, rfl, rfl, rfl⟩ := H
          have p331 : 0 ≤ (1 : Int) := (by omega)
          have q331 : 1 < (af.length : Int) := od_
          obtain ⟨ad331, e331, aD⟩ := Kd.at_string (Kd.R_reads' ak.out).2.2 1 p331 q331
          obtain rfl : ad320 = ad331 := (by injection e331)
          (try simp only [show (1 : Int).toNat = 1 from rfl, Nat.reduceMul, Nat.reduceEqDiff, Go.Addr.add, ↓reduceIte] at aD)
          have dc : (1 < af.length) = True := eq_true (by omega)
          (try rw [show ((1 : Int)).toNat = 1 from rfl] at aD)
          replace p331 := eq_true p331
          replace q331 := eq_true q331
          go_wp2_with (first | ((with_reducible refine gate_callee (f := 23) rfl ?_); refine gl_ (some 52) Tryd.func23 #[.string (rdOf ByteArray.empty af 1)] ?_; (with_reducible refine (strconv_Atoi.calls (rdOf ByteArray.empty af 1) aq dp _ ?s1 A36.out).mono ?_); (case s1 => exact GWb.below HG.out (tb_ HB.out)); rintro e gL ⟨N_, rfl, hb⟩; refine ⟨_, rfl, ?_⟩; replace ak := rb_ ak hb; replace ar := rb_ ar hb; replace ab := rb_ ab hb; replace ac := bb_ ac hb; replace aa := bb_ aa hb; replace HB := bs_ HB hb; (try clear hb); (try clear hb2); (try clear hk); (try clear hi); (try simp only [errW_none, errW_some, Option.map_none, Option.map_some]); have fN := ap.out; have fO := ao.out; have b0 := cz_ aa 0; have b1 := cz_ aa 1; have b2 := cz_ aa 2; have b3 := blk_frozen aa.out 0; have b4 := blk_frozen aa.out 1; have b5 := blk_frozen aa.out 2; have p334 : 0 ≤ (2 : Int) := (by omega); have q334 : 2 < (af.length : Int) := od_; obtain ⟨ad334, e334, an⟩ := Kd.at_string (Kd.R_reads' ak.out).2.2 2 p334 q334; obtain rfl : ad320 = ad334 := (by injection e334); (try simp only [show (2 : Int).toNat = 2 from rfl, Nat.reduceMul, Nat.reduceEqDiff, Go.Addr.add, ↓reduceIte] at an); have dd : (2 < af.length) = True := eq_true (by omega); (try rw [show ((2 : Int)).toNat = 2 from rfl] at an); have hn334_0 : ad320.block ≠ ah := Kd.own_blk (Kd.R_ne ak.out aa.out (by decide)); replace an := (cell_far (p := ⟨ah, 1, none⟩) (by first | (rw [add_block]; exact hn334_0) | (show (Addr.add _ _).block ≠ _; rw [add_block]; exact hn334_0) | exact hn334_0) (.int .i64 aq)).trans an; clear hn334_0; replace p334 := eq_true p334; replace q334 := eq_true q334; obtain ⟨b6, bv, fg⟩ := Kd.R_slice ab.out; subst fg) | ((with_reducible refine gate_callee (f := 24) rfl ?_); refine gl_ (some 81) Tryd.func24 #[.agg #[.slice b6 ad.length bv, .int .i64 aq, .slice none 0 0]] ?_; (refine (impl_PlaceText.calls k1 _ _ ad aq _ _ ([] : List Int) aU _ ?s1 ?s2 ?s3 ?s4 ?s5 A39.out).mono ?_); (case s1 => refine (Kd.R_reads' (e := 3) (base := w.heap.size) (ok := fun k_ => True) (n := ad.length) (c := bv) ?_).2.2; exact (by refine qR_ ?_; exact (Kd.R_mono (Kd.R_far (p := ⟨ah, 1, none⟩) (Kd.R_types ab.out aa.out (by decide)) (fun _ hk => hk.2) (.int .i64 aq)) (fun _ h_ => h_.1)))); (case s2 => exact (Kd.R_reads' ab.out).2.1); (case s3 => exact Kd.C_nil _ _); (case s4 => exact Nat.le_refl _); (case s5 => exact GWb.below HG.out (tb_ HB.out)); rintro e gM ⟨rfl, hb⟩; refine ⟨_, rfl, ?_⟩; replace ak := Aside0.mk (Kd.R_below (by refine qR_ ?_; exact (Kd.R_mono (Kd.R_far (p := ⟨ah, 1, none⟩) (Kd.R_types ak.out aa.out (by decide)) (fun _ hk => hk.2) (.int .i64 aq)) (fun _ h_ => h_.1))) hb); replace ar := Aside0.mk (Kd.R_below (by refine qR_ ?_; exact (Kd.R_mono (Kd.R_far (p := ⟨ah, 1, none⟩) (Kd.R_types ar.out aa.out (by decide)) (fun _ hk => hk.2) (.int .i64 aq)) (fun _ h_ => h_.1))) hb); replace ab := Aside0.mk (Kd.R_below (by refine qR_ ?_; exact (Kd.R_mono (Kd.R_far (p := ⟨ah, 1, none⟩) (Kd.R_types ab.out aa.out (by decide)) (fun _ hk => hk.2) (.int .i64 aq)) (fun _ h_ => h_.1))) hb); replace ac := bb_ ac hb; replace aa := Aside0.mk (blk_below (g := ah) (o := .cells #[.slice b6 ad.length bv, .int .i64 aq, .slice none 0 0] 36 (0, 0)) (ps_ aa.out) hb); replace HB := bs_ HB hb; (try clear hb); (try clear hb2); (try clear hk); (try clear hi); have b7 := cz_ aa 0; have b8 := cz_ aa 1; have b9 := cz_ aa 2; have ca := blk_frozen aa.out 0; have cb := blk_frozen aa.out 1; have cc := blk_frozen aa.out 2; have cd := cz_ ac 0; have ce := cz_ ac 1; have cf := cz_ ac 2; have cg := blk_frozen ac.out 0; have ch := blk_frozen ac.out 1; have ci := blk_frozen ac.out 2))
          refine bodyPost_ret (results_ct rfl _ _ av 36 #[.slice b6 ad.length bv, .int .i64 aq, .slice none 0 0] (0, 0) _ rfl (ps_ ac.out) Tryd.underlying36 rfl (by kernel_rfl)) rfl ?_
          exact ⟨_, _, tw_, by refine qR_ ?_; exact Kd.R_mono (Kd.R_far (p := ⟨av, 2, none⟩) (Kd.R_far (p := ⟨av, 1, none⟩) (Kd.R_far (p := ⟨av, 0, none⟩) (Kd.R_types ab.out ac.out (by decide)) (fun _ hk => hk.2) (.slice b6 ad.length bv)) (fun _ hk => hk.2) (.int .i64 aq)) (fun _ hk => hk.2) (.slice none 0 0)) (fun _ hk => (by simp [Value.ownBlock])), by first | exact Kd.R_nil _ _ _ _ _ | exact Kd.N_nil _ _ _ _ _ | exact Kd.V_nil _ _ _ _ _ | exact Kd.Q_nil _ _ _ _ _ | exact Kd.S_nil _ _ _ _ _, (tb_ HB.out)⟩
         ·
          rw [if_neg c40] at H
          have da : (aU.toList == a0.toList) = false := beq_eq_false_iff_ne.mpr c40
          have db : (aU.toList != a0.toList) = true := bne_iff_ne.mpr c40
          simp only [Option.some.injEq, Prod.mk.injEq] at H
          obtain ⟨rfl, rfl, rfl, rfl⟩ := H
          have p331 : 0 ≤ (1 : Int) := (by omega)
          have q331 : 1 < (af.length : Int) := od_
          obtain ⟨ad331, e331, aD⟩ := Kd.at_string (Kd.R_reads' ak.out).2.2 1 p331 q331
          obtain rfl : ad320 = ad331 := (by injection e331)
          (try simp only [show (1 : Int).toNat = 1 from rfl, Nat.reduceMul, Nat.reduceEqDiff, Go.Addr.add, ↓reduceIte] at aD)
          have dc : (1 < af.length) = True := eq_true (by omega)
          (try rw [show ((1 : Int)).toNat = 1 from rfl] at aD)
          replace p331 := eq_true p331
          replace q331 := eq_true q331
          go_wp2_with (first | ((with_reducible refine gate_callee (f := 23) rfl ?_); refine gl_ (some 52) Tryd.func23 #[.string (rdOf ByteArray.empty af 1)] ?_; (with_reducible refine (strconv_Atoi.calls (rdOf ByteArray.empty af 1) aq dp _ ?s1 A36.out).mono ?_); (case s1 => exact GWb.below HG.out (tb_ HB.out)); rintro e gN ⟨N_, rfl, hb⟩; refine ⟨_, rfl, ?_⟩; replace ak := rb_ ak hb; replace ar := rb_ ar hb; replace ab := rb_ ab hb; replace ac := bb_ ac hb; replace aa := bb_ aa hb; replace HB := bs_ HB hb; (try clear hb); (try clear hb2); (try clear hk); (try clear hi); (try simp only [errW_none, errW_some, Option.map_none, Option.map_some]); have fP := ap.out; have fQ := ao.out; have cj := cz_ aa 0; have ck := cz_ aa 1; have cl := cz_ aa 2; have cm := blk_frozen aa.out 0; have cn := blk_frozen aa.out 1; have co := blk_frozen aa.out 2; have p334 : 0 ≤ (2 : Int) := (by omega); have q334 : 2 < (af.length : Int) := od_; obtain ⟨ad334, e334, an⟩ := Kd.at_string (Kd.R_reads' ak.out).2.2 2 p334 q334; obtain rfl : ad320 = ad334 := (by injection e334); (try simp only [show (2 : Int).toNat = 2 from rfl, Nat.reduceMul, Nat.reduceEqDiff, Go.Addr.add, ↓reduceIte] at an); have dd : (2 < af.length) = True := eq_true (by omega); (try rw [show ((2 : Int)).toNat = 2 from rfl] at an); have hn334_0 : ad320.block ≠ ah := Kd.own_blk (Kd.R_ne ak.out aa.out (by decide)); replace an := (cell_far (p := ⟨ah, 1, none⟩) (by first | (rw [add_block]; exact hn334_0) | (show (Addr.add _ _).block ≠ _; rw [add_block]; exact hn334_0) | exact hn334_0) (.int .i64 aq)).trans an; clear hn334_0; replace p334 := eq_true p334; replace q334 := eq_true q334; obtain ⟨dM, dq, fh⟩ := Kd.R_slice ab.out; subst fh) | ((with_reducible refine gate_callee (f := 24) rfl ?_); refine gl_ (some 81) Tryd.func24 #[.agg #[.slice dM ad.length dq, .int .i64 aq, .slice none 0 0]] ?_; (refine (impl_PlaceText.calls k1 _ _ ad aq _ _ ([] : List Int) aU _ ?s1 ?s2 ?s3 ?s4 ?s5 A39.out).mono ?_); (case s1 => refine (Kd.R_reads' (e := 3) (base := w.heap.size) (ok := fun k_ => True) (n := ad.length) (c := dq) ?_).2.2; exact (by refine qR_ ?_; exact (Kd.R_mono (Kd.R_far (p := ⟨ah, 1, none⟩) (Kd.R_types ab.out aa.out (by decide)) (fun _ hk => hk.2) (.int .i64 aq)) (fun _ h_ => h_.1)))); (case s2 => exact (Kd.R_reads' ab.out).2.1); (case s3 => exact Kd.C_nil _ _); (case s4 => exact Nat.le_refl _); (case s5 => exact GWb.below HG.out (tb_ HB.out)); rintro e gO ⟨rfl, hb⟩; refine ⟨_, rfl, ?_⟩; replace ak := Aside0.mk (Kd.R_below (by refine qR_ ?_; exact (Kd.R_mono (Kd.R_far (p := ⟨ah, 1, none⟩) (Kd.R_types ak.out aa.out (by decide)) (fun _ hk => hk.2) (.int .i64 aq)) (fun _ h_ => h_.1))) hb); replace ar := Aside0.mk (Kd.R_below (by refine qR_ ?_; exact (Kd.R_mono (Kd.R_far (p := ⟨ah, 1, none⟩) (Kd.R_types ar.out aa.out (by decide)) (fun _ hk => hk.2) (.int .i64 aq)) (fun _ h_ => h_.1))) hb); replace ab := Aside0.mk (Kd.R_below (by refine qR_ ?_; exact (Kd.R_mono (Kd.R_far (p := ⟨ah, 1, none⟩) (Kd.R_types ab.out aa.out (by decide)) (fun _ hk => hk.2) (.int .i64 aq)) (fun _ h_ => h_.1))) hb); replace ac := bb_ ac hb; replace aa := Aside0.mk (blk_below (g := ah) (o := .cells #[.slice dM ad.length dq, .int .i64 aq, .slice none 0 0] 36 (0, 0)) (ps_ aa.out) hb); replace HB := bs_ HB hb; (try clear hb); (try clear hb2); (try clear hk); (try clear hi); have cp := cz_ ac 0; have cq := cz_ ac 1; have cr := cz_ ac 2; have ct := blk_frozen ac.out 0; have cu := blk_frozen ac.out 1; have cv := blk_frozen ac.out 2))
          refine bodyPost_ret (results_ct rfl _ _ av 36 #[.slice none 0 0, .int .i64 0, .slice none 0 0] (0, 0) _ rfl (ps_ ac.out) Tryd.underlying36 rfl (by kernel_rfl)) rfl ?_
          exact ⟨_, _, tw_, by first | exact Kd.R_nil _ _ _ _ _ | exact Kd.N_nil _ _ _ _ _ | exact Kd.V_nil _ _ _ _ _ | exact Kd.Q_nil _ _ _ _ _ | exact Kd.S_nil _ _ _ _ _, by first | exact Kd.R_nil _ _ _ _ _ | exact Kd.N_nil _ _ _ _ _ | exact Kd.V_nil _ _ _ _ _ | exact Kd.Q_nil _ _ _ _ _ | exact Kd.S_nil _ _ _ _ _, (tb_ HB.out)⟩
        ·
         rw [if_neg c38] at H
         have c8 : ((rdOf ByteArray.empty af 2).toList == ([46] : List UInt8)) = false := beq_eq_false_iff_ne.mpr c38
         have c9 : ((rdOf ByteArray.empty af 2).toList != ([46] : List UInt8)) = true := bne_iff_ne.mpr c38
         have H' := Aside0.mk H
         clear H
         have p331 : 0 ≤ (1 : Int) := (by omega)
         have q331 : 1 < (af.length : Int) := od_
         obtain ⟨ad331, e331, aD⟩ := Kd.at_string (Kd.R_reads' ak.out).2.2 1 p331 q331
         obtain rfl : ad320 = ad331 := (by injection e331)
         (try simp only [show (1 : Int).toNat = 1 from rfl, Nat.reduceMul, Nat.reduceEqDiff, Go.Addr.add, ↓reduceIte] at aD)
         have dc : (1 < af.length) = True := eq_true (by omega)
         (try rw [show ((1 : Int)).toNat = 1 from rfl] at aD)
         replace p331 := eq_true p331
         replace q331 := eq_true q331
         go_wp2_with (first | ((with_reducible refine gate_callee (f := 23) rfl ?_); refine gl_ (some 52) Tryd.func23 #[.string (rdOf ByteArray.empty af 1)] ?_; (with_reducible refine (strconv_Atoi.calls (rdOf ByteArray.empty af 1) aq dp _ ?s1 A36.out).mono ?_); (case s1 => exact GWb.below HG.out (tb_ HB.out)); rintro e gP ⟨N_, rfl, hb⟩; refine ⟨_, rfl, ?_⟩; replace ak := rb_ ak hb; replace ar := rb_ ar hb; replace ab := rb_ ab hb; replace ac := bb_ ac hb; replace aa := bb_ aa hb; replace HB := bs_ HB hb; (try clear hb); (try clear hb2); (try clear hk); (try clear hi); (try simp only [errW_none, errW_some, Option.map_none, Option.map_some]); have fR := ap.out; have fS := ao.out; have cw := cz_ aa 0; have cx := cz_ aa 1; have cy := cz_ aa 2; have cz := blk_frozen aa.out 0; have cA := blk_frozen aa.out 1; have cB := blk_frozen aa.out 2; have p334 : 0 ≤ (2 : Int) := (by omega); have q334 : 2 < (af.length : Int) := od_; obtain ⟨ad334, e334, an⟩ := Kd.at_string (Kd.R_reads' ak.out).2.2 2 p334 q334; obtain rfl : ad320 = ad334 := (by injection e334); (try simp only [show (2 : Int).toNat = 2 from rfl, Nat.reduceMul, Nat.reduceEqDiff, Go.Addr.add, ↓reduceIte] at an); have dd : (2 < af.length) = True := eq_true (by omega); (try rw [show ((2 : Int)).toNat = 2 from rfl] at an); have hn334_0 : ad320.block ≠ ah := Kd.own_blk (Kd.R_ne ak.out aa.out (by decide)); replace an := (cell_far (p := ⟨ah, 1, none⟩) (by first | (rw [add_block]; exact hn334_0) | (show (Addr.add _ _).block ≠ _; rw [add_block]; exact hn334_0) | exact hn334_0) (.int .i64 aq)).trans an; clear hn334_0; replace p334 := eq_true p334; replace q334 := eq_true q334; have p336 : 0 ≤ (2 : Int) := (by omega); have q336 : 2 < (af.length : Int) := od_; obtain ⟨ad336, e336, aK⟩ := Kd.at_string (Kd.R_reads' ak.out).2.2 2 p336 q336; obtain rfl : ad320 = ad336 := (by injection e336); (try simp only [show (2 : Int).toNat = 2 from rfl, Nat.reduceMul, Nat.reduceEqDiff, Go.Addr.add, ↓reduceIte] at aK); have fT : (2 < af.length) = True := eq_true (by omega); (try rw [show ((2 : Int)).toNat = 2 from rfl] at aK); have hn336_0 : ad320.block ≠ ah := Kd.own_blk (Kd.R_ne ak.out aa.out (by decide)); replace aK := (cell_far (p := ⟨ah, 1, none⟩) (by first | (rw [add_block]; exact hn336_0) | (show (Addr.add _ _).block ≠ _; rw [add_block]; exact hn336_0) | exact hn336_0) (.int .i64 aq)).trans aK; clear hn336_0; replace p336 := eq_true p336; replace q336 := eq_true q336))
         go_loopg [64] k1 (fun kq gi w' => ∃ (ax : Int) (ai : List Int) (u320002 : Value), gi = .int .i64 ax ∧ Aside0 (impl_ReadPlace.l1 kq a0 af ((rdOf ByteArray.empty af 2).size : Int) ax ad aq ai = some (r1, r2, r3, r4)) ∧ Aside0 (kq ≤ k1) ∧ Aside0 (Kd.R Kd.string 9 w' w.heap.size (fun _ => True) (.slice (some ad320) af.length co8) af) ∧ Aside0 (Kd.R (Kd.int .i64) 3 w' w.heap.size (fun k_ => some k_ ≠ (u320002 : Value).ownBlock) u320000 ad) ∧ Aside0 (Kd.R (Kd.int .i64) 3 w' w.heap.size (fun k_ => some k_ ≠ (u320000 : Value).ownBlock) u320002 ai) ∧ Aside0 (w'.heap[av]? = some (.cells #[(.slice none 0 0), .int .i64 aI, (.slice none 0 0)] 36 (0, 0))) ∧ Aside0 (w'.heap[ah]? = some (.cells #[u320000, .int .i64 aq, u320002] 36 (0, 0))) ∧ Aside0 (Below w.heap.size w w'))
         case atStart => exact ⟨(0), (([] : List Int)), (.slice none 0 0), tx_, H', ⟨Nat.le_refl _⟩, ⟨by refine qR_ ?_; exact Kd.R_mono (Kd.R_far (p := ⟨ah, 1, none⟩) (Kd.R_types ak.out aa.out (by decide)) (fun _ hk => hk.2) (.int .i64 aq)) (fun _ hk => trivial)⟩, ⟨by refine qR_ ?_; exact Kd.R_mono (Kd.R_far (p := ⟨ah, 1, none⟩) (Kd.R_types ab.out aa.out (by decide)) (fun _ hk => hk.2) (.int .i64 aq)) (fun _ hk => (by simp [Value.ownBlock]))⟩, ⟨by first | exact Kd.R_nil _ _ _ _ _ | exact Kd.N_nil _ _ _ _ _ | exact Kd.V_nil _ _ _ _ _ | exact Kd.Q_nil _ _ _ _ _ | exact Kd.S_nil _ _ _ _ _⟩, ⟨tk_ ac.out⟩, ⟨by refine bq_ ?_; refine blk_put (cs := #[u320000, .int .i64 0, .slice none 0 0]) ?_ 1 _ rfl; exact tk_ aa.out⟩, ⟨(tb_ HB.out)⟩⟩
         case round =>
          clear H'
          try clear c1
          try clear c2
          try clear p2
          try clear c3
          try clear df
          try clear dg
          try clear p3
          try clear q3
          try clear hx3
          try clear gg
          try clear c4
          try clear bI
          try clear bJ
          try clear c5
          try clear p6
          try clear c10
          try clear c14
          try clear cZ
          try clear c15
          try clear dC
          try clear c16
          try clear dD
          try clear c17
          try clear c18
          try clear c0
          try clear c6
          try clear c20
          try clear c22
          try clear c23
          try clear c24
          try clear c26
          try clear p32
          try clear q32
          try clear hx32
          try clear gj
          try clear c33
          try clear p33
          try clear q33
          try clear hx33
          try clear gl
          try clear c35
          try clear dI
          try clear dJ
          try clear c37
          try clear dK
          try clear dL
          try clear c38
          try clear c8
          try clear c9
          try clear c40
          try clear da
          try clear db
          try clear c42
          try clear c49
          try clear c55
          try clear aY
          try clear aZ
          try clear a3
          try clear a7
          try clear a8
          try clear a9
          try clear be
          try clear bf
          try clear bg
          try clear bK
          try clear bL
          try clear bM
          try clear bS
          try clear bU
          try clear bV
          try clear bk
          try clear bl
          try clear bm
          try clear b0
          try clear b1
          try clear b2
          try clear b7
          try clear b8
          try clear b9
          try clear cd
          try clear ce
          try clear cf
          try clear cj
          try clear ck
          try clear cl
          try clear cp
          try clear cq
          try clear cr
          try clear cw
          try clear cx
          try clear cy
          try clear a4
          try clear a5
          try clear a6
          try clear bb
          try clear bc
          try clear bd
          try clear bh
          try clear bi
          try clear bj
          try clear bN
          try clear bO
          try clear bP
          try clear bW
          try clear bX
          try clear bZ
          try clear bn
          try clear bo
          try clear bp
          try clear b3
          try clear b4
          try clear b5
          try clear ca
          try clear cb
          try clear cc
          try clear cg
          try clear ch
          try clear ci
          try clear cm
          try clear cn
          try clear co
          try clear ct
          try clear cu
          try clear cv
          try clear cz
          try clear cA
          try clear cB
          try clear aC
          try clear aW
          try clear aD
          try clear an
          try clear aK
          try clear p2
          try clear p3
          try clear p320
          try clear p324
          try clear p331
          try clear p334
          try clear p336
          try clear q3
          try clear q320
          try clear q324
          try clear q327
          try clear q331
          try clear q334
          try clear q336
          obtain ⟨ax, ai, u320002, rfl, HA, HK2, ak, ab, ag, ac, aa, HB⟩ := hrel
          cases gk with
          | zero => exact absurd HA.out (by simp [impl_ReadPlace.l1])
          | succ k2 =>
           have H := HA.out
           clear HA
           simp only [impl_ReadPlace.l1] at H
           by_cases c57 : ax < ((rdOf ByteArray.empty af 2).size : Int)
           ·
            rw [if_pos c57] at H
            have dN : decide (ax < ((rdOf ByteArray.empty af 2).size : Int)) = true := decide_eq_true c57
            clear c57
            by_cases c58 : 2 < (af.length : Int)
            ·
             rw [if_pos c58] at H
             have fU : decide (2 < (af.length : Int)) = true := decide_eq_true c58
             have fV : decide (2 < af.length) = true := decide_eq_true (by omega)
             clear c58
             by_cases c59 : 0 ≤ ax
             ·
              rw [if_pos c59] at H
              have fW : decide (0 ≤ ax) = true := decide_eq_true c59
              clear c59
              by_cases c60 : ax < ((rdOf ByteArray.empty af 2).size : Int)
              ·
               rw [if_pos c60] at H
               have fX : decide (ax < ((rdOf ByteArray.empty af 2).size : Int)) = true := decide_eq_true c60
               clear c60
               by_cases c62 : ai.length < 17592186044416
               ·
                rw [if_pos c62] at H
                have dP := Aside0.mk c62
                clear c62
                obtain ⟨br, bw⟩ : ∃ y_ : List Int, y_ = (ai ++ [wrap64 ((wrap64 (bt (rdOf ByteArray.empty af 2) ax)) - 97)]) := ⟨_, rfl⟩
                replace H : (impl_ReadPlace.l1 k2 a0 af ((rdOf ByteArray.empty af 2).size : Int) (wrap64 (ax + 1)) ad aq br) = some (r1, r2, r3, r4) := yq_ bw H
                have dQ := Aside0.mk bw
                clear bw
                have H' := Aside0.mk H
                clear H
                try go_wp2
                replace ak := rd_ ak
                replace ab := rd_ ab
                replace ag := rd_ ag
                replace ac := dB_ ac
                replace aa := dB_ aa
                replace HB := Aside0.mk (ld_ HB.out)
                have p337 : 0 ≤ (2 : Int) := (by omega)
                have q337 : 2 < (af.length : Int) := od_
                obtain ⟨ad337, e337, aR⟩ := Kd.at_string (Kd.R_reads' ak.out).2.2 2 p337 q337
                obtain rfl : ad320 = ad337 := (by injection e337)
                (try simp only [show (2 : Int).toNat = 2 from rfl, Nat.reduceMul, Nat.reduceEqDiff, Go.Addr.add, ↓reduceIte] at aR)
                have fY : (2 < af.length) = True := eq_true (by omega)
                (try rw [show ((2 : Int)).toNat = 2 from rfl] at aR)
                replace p337 := eq_true p337
                replace q337 := eq_true q337
                have p61 : 0 ≤ (ax : Int) := od_
                have q61 : ax < ((rdOf ByteArray.empty af 2).size : Int) := od_
                have hx61 := bt_at (rdOf ByteArray.empty af 2) ax
                replace p61 := eq_true p61
                replace q61 := eq_true q61
                refine start_ (n := 13) (S := fun w' => w'.cell? ⟨ah, 0, none⟩ = some (u320000) ∧ w'.cell? ⟨ah, 1, none⟩ = some (.int .i64 aq) ∧ w'.cell? ⟨ah, 2, none⟩ = some (u320002) ∧ w'.cell? ⟨ad320.block, ad320.off + 2, none⟩ = some (.string (rdOf ByteArray.empty af 2))) (ds := [10, 12]) #[false, false, false, false, false, false, false, false, false, false, false, false, false] (by kernel_rfl) rfl rfl ⟨(blk_cell aa.out 0).trans rfl, (blk_cell aa.out 1).trans rfl, (blk_cell aa.out 2).trans rfl, aR⟩ (fun hHeld => ?_); refine with_tabW impl_ReadPlace.tab18 impl_ReadPlace.bits18 (fun HT_ HW_ => ?_)
                generalize wr.drew = gQ at ak ab ag ac aa HB aR hHeld ⊢
                refine pu_ 0 (some 67) #[true, false, false, false, false, false, false, false, false, false, false, false, false] HT_ rfl rfl ?_
                refine pu_ 2 (some 69) #[true, false, true, false, false, false, false, false, false, false, false, false, false] HT_ rfl rfl ?_
                refine pu_ 3 (some 70) #[true, false, true, true, false, false, false, false, false, false, false, false, false] HT_ rfl rfl ?_
                refine pu_ 5 (some 72) #[true, false, true, true, false, true, false, false, false, false, false, false, false] HT_ rfl rfl ?_
                refine ta_ 1 (some 68) #[true, true, true, true, false, true, false, false, false, false, false, false, false] HT_ HW_ hHeld rfl rfl ?_
                refine ta_ 4 (some 71) #[true, true, true, true, true, true, false, false, false, false, false, false, false] HT_ HW_ hHeld rfl rfl ?_
                refine ta_ 6 (some 73) #[true, true, true, true, true, true, true, false, false, false, false, false, false] HT_ HW_ hHeld rfl rfl ?_
                refine pu_ 7 (some 74) #[true, true, true, true, true, true, true, true, false, false, false, false, false] HT_ rfl rfl ?_
                refine pu_ 8 (some 75) #[true, true, true, true, true, true, true, true, true, false, false, false, false] HT_ rfl rfl ?_
                refine one_ (i := 9) (N := some 76) #[true, true, true, true, true, true, true, true, true, true, false, false, false] rfl rfl (one_of HT_.out (by kernel_rfl)) (by decide) (fun K hK => ?_)
                refine va_ rfl ?_
                refine hK.out _ _ ⟨(blk_cell (blk_alloc aa.out _) 0).trans rfl, (blk_cell (blk_alloc aa.out _) 1).trans rfl, (blk_cell (blk_alloc aa.out _) 2).trans rfl, (World.cell?_alloc_lt _ _ _ (World.block_lt_of_cell? _ _ (hHeld.2.2.2))).trans (hHeld.2.2.2)⟩ (fun hHeld => ?_)
                clear hK K
                refine nr_ 76 ?_
                refine last_ (i := 10) (N := some 77) #[true, true, true, true, true, true, true, true, true, true, true, false, false] rfl rfl (one_of HT_.out (by kernel_rfl)) (by decide) (fun K hK => ?_)
                refine Kd.R_append_step (Kd.int .i64) (w0 := w) w.heap.size (by rfl) (.tmp 68) (.tmp 76) 34 3 (.int .i64 0) 8 rfl Tryd.underlying34 info3 rfl (by decide) (by omega) u320002 ai (wrap64 ((wrap64 (bt (rdOf ByteArray.empty af 2) ax)) - 97)) [.int .i64 (wrap64 ((wrap64 (bt (rdOf ByteArray.empty af 2) ax)) - 97))] (fun k_ => some k_ ≠ (u320000 : Value).ownBlock) (fun _ => False) rfl rfl ?aP (fun _ hk => hk.elim) ?aF ?aO ?aB ?aS ?aL ?_
                (case aP => exact rfl)
                (case aB => exact (tb_ HB.out))
                (case aF => exact (fun k_ hk => Kd.fresh' (Kd.R_lt (rR_ ab.out)) k_ hk))
                (case aO => exact (rR_ ag.out))
                (case aS => exact (below_size (tb_ HB.out)))
                (case aL => have := dP.out; omega)
                intro gm gn ho hb hg hat
                rw [← dQ.out] at ho
                replace ak := Aside0.mk (Kd.R_over' (rR_ ak.out) (Kd.R_typed (rR_ ag.out)) (by decide) hg)
                replace ab := Aside0.mk (Kd.R_after (ok := (fun _ => True)) (by refine qR_ ?_; exact Kd.R_mono ab.out (fun _ hk => ⟨trivial, hk⟩)) hg hat)
                replace ac := bg_ ac hg (Kd.R_ne ag.out ac.out (by decide))
                replace aa := bg_ aa hg (Kd.R_ne ag.out aa.out (by decide))
                replace HB := Aside0.mk (hb)
                have de := Aside0.mk (ho)
                clear ag
                clear ho hb hg hat
                obtain ⟨cC, cD, dR⟩ := Kd.R_slice de.out
                (first | subst dR | (injection dR with f1_ f2_ f3_; have f4_ := f1_.symm; have f5_ := f3_.symm; clear f1_ f2_ f3_; subst f4_; subst f5_))
                refine hK.out _ _ ?_
                clear hK K
                refine nr_ 77 ?_
                refine pu_ 11 (some 78) #[true, true, true, true, true, true, true, true, true, true, true, true, false] HT_ rfl rfl ?_
                refine last_ (i := 12) (N := none) #[true, true, true, true, true, true, true, true, true, true, true, true, true] rfl rfl (one_of HT_.out (by kernel_rfl)) (by decide) (fun K hK => ?_)
                have hs66 : gn.cell? ⟨ah, 2, none⟩ = some (u320002) := (blk_cell aa.out 2).trans rfl
                have hfs66 := blk_frozen aa.out 2
                have dZ := ao.out
                have d0 := ap.out
                refine sk_ rfl ?_
                refine hK.out _ _ ?_
                clear hK K
                refine done_ (done_of HT_.out (by kernel_rfl)) ?_
                try go_wp2
                go_roundg k2
                case measure => have := HK1.out; have := HK2.out; omega
                case rel => exact ⟨(wrap64 (ax + 1)), (br), (.slice cC br.length cD), tx_, H', ⟨by have := HK1.out; have := HK2.out; omega⟩, ⟨by refine qR_ ?_; exact Kd.R_mono (Kd.R_far (p := ⟨ah, 2, none⟩) (Kd.R_types ak.out aa.out (by decide)) (fun _ hk => hk.2) (.slice cC br.length cD)) (fun _ hk => trivial)⟩, ⟨by refine qR_ ?_; exact Kd.R_mono (Kd.R_far (p := ⟨ah, 2, none⟩) (Kd.R_types ab.out aa.out (by decide)) (fun _ hk => hk.2) (.slice cC br.length cD)) (fun _ hk => hk.1.2)⟩, ⟨by refine qR_ ?_; exact Kd.R_mono (Kd.R_far (p := ⟨ah, 2, none⟩) (Kd.R_types de.out aa.out (by decide)) (fun _ hk => hk.2) (.slice cC br.length cD)) (fun _ hk => hk.1)⟩, ⟨tk_ ac.out⟩, ⟨by refine bq_ ?_; refine blk_put (cs := #[u320000, .int .i64 aq, u320002]) ?_ 2 _ rfl; exact tk_ aa.out⟩, ⟨(tb_ HB.out)⟩⟩
               ·
                rw [if_neg c62] at H
                exact absurd H (by simp)
              ·
               rw [if_neg c60] at H
               exact absurd H (by simp)
             ·
              rw [if_neg c59] at H
              exact absurd H (by simp)
            ·
             rw [if_neg c58] at H
             exact absurd H (by simp)
           ·
            rw [if_neg c57] at H
            have dN : decide (ax < ((rdOf ByteArray.empty af 2).size : Int)) = false := decide_eq_false c57
            clear c57
            obtain ⟨aV, A67, H⟩ := bnd_ H
            try dsimp only at H
            by_cases c68 : aV.toList = a0.toList
            ·
             rw [if_pos c68] at H
             have dS : (aV.toList == a0.toList) = true := beq_iff_eq.mpr c68
             have dT : (aV.toList != a0.toList) = false := bne_eq_false_iff_eq.mpr c68
             clear c68
             simp only [Option.some.injEq, Prod.mk.injEq] at H
             obtain ⟨rfl, rfl, rfl, rfl⟩ := H
             have fZ := ap.out
             have f0 := ao.out
             have d1 := cz_ aa 0
             have d2 := cz_ aa 1
             have d3 := cz_ aa 2
             have d4 := blk_frozen aa.out 0
             have d5 := blk_frozen aa.out 1
             have d6 := blk_frozen aa.out 2
             obtain ⟨cE, cF, fi⟩ := Kd.R_slice ab.out
             subst fi
             obtain ⟨cG, cH, fj⟩ := Kd.R_slice ag.out
             subst fj
             go_wp2_with (first | ((with_reducible refine gate_callee (f := 24) rfl ?_); refine gl_ (some 81) Tryd.func24 #[.agg #[.slice cE ad.length cF, .int .i64 aq, .slice cG ai.length cH]] ?_; (with_reducible refine (impl_PlaceText.calls k2 _ _ ad aq _ _ ai aV _ ?s1 ?s2 ?s3 ?s4 ?s5 A67.out).mono ?_); (case s1 => repeat (first | exact (Kd.R_reads' ab.out).2.2 | (with_reducible refine Kd.C_alloc ?_ _) | (with_reducible refine Kd.C_drewN ?_ _) | (with_reducible refine Kd.C_drew ?_))); (case s2 => exact (Kd.R_reads' ab.out).2.1); (case s3 => repeat (first | exact (Kd.R_reads' ag.out).2.2 | (with_reducible refine Kd.C_alloc ?_ _) | (with_reducible refine Kd.C_drewN ?_ _) | (with_reducible refine Kd.C_drew ?_))); (case s4 => exact (Kd.R_reads' ag.out).2.1); (case s5 => exact GWb.below HG.out (tb_ HB.out)); rintro e gR ⟨rfl, hb⟩; refine ⟨_, rfl, ?_⟩; replace ak := rb_ ak hb; replace ab := rb_ ab hb; replace ag := rb_ ag hb; replace ac := bb_ ac hb; replace aa := bb_ aa hb; replace HB := bs_ HB hb; (try clear hb); (try clear hb2); (try clear hk); (try clear hi); have d7 := cz_ aa 0; have d8 := cz_ aa 1; have d9 := cz_ aa 2; have ea := blk_frozen aa.out 0; have eb := blk_frozen aa.out 1; have ec := blk_frozen aa.out 2; have ed := cz_ ac 0; have ee := cz_ ac 1; have ef := cz_ ac 2; have eg := blk_frozen ac.out 0; have eh := blk_frozen ac.out 1; have ei := blk_frozen ac.out 2))
             refine bodyPost_ret (results_ct rfl _ _ av 36 #[.slice cE ad.length cF, .int .i64 aq, .slice cG ai.length cH] (0, 0) _ rfl (ps_ ac.out) Tryd.underlying36 rfl (by kernel_rfl)) rfl ?_
             exact ⟨_, _, tw_, by refine qR_ ?_; exact Kd.R_mono (Kd.R_far (p := ⟨av, 2, none⟩) (Kd.R_far (p := ⟨av, 1, none⟩) (Kd.R_far (p := ⟨av, 0, none⟩) (Kd.R_types ab.out ac.out (by decide)) (fun _ hk => hk.2) (.slice cE ad.length cF)) (fun _ hk => hk.2) (.int .i64 aq)) (fun _ hk => hk.2) (.slice cG ai.length cH)) (fun _ hk => hk.1), by refine qR_ ?_; exact Kd.R_mono (Kd.R_far (p := ⟨av, 2, none⟩) (Kd.R_far (p := ⟨av, 1, none⟩) (Kd.R_far (p := ⟨av, 0, none⟩) (Kd.R_types ag.out ac.out (by decide)) (fun _ hk => hk.2) (.slice cE ad.length cF)) (fun _ hk => hk.2) (.int .i64 aq)) (fun _ hk => hk.2) (.slice cG ai.length cH)) (fun _ hk => hk.1), (tb_ HB.out)⟩
            ·
             rw [if_neg c68] at H
             have dS : (aV.toList == a0.toList) = false := beq_eq_false_iff_ne.mpr c68
             have dT : (aV.toList != a0.toList) = true := bne_iff_ne.mpr c68
             simp only [Option.some.injEq, Prod.mk.injEq] at H
             obtain ⟨rfl, rfl, rfl, rfl⟩ := H
             have f1 := ap.out
             have f2 := ao.out
             have ej := cz_ aa 0
             have ek := cz_ aa 1
             have el := cz_ aa 2
             have em := blk_frozen aa.out 0
             have en := blk_frozen aa.out 1
             have eo := blk_frozen aa.out 2
             obtain ⟨fk, fl, fm⟩ := Kd.R_slice ab.out
             subst fm
             obtain ⟨fn, fo, fp⟩ := Kd.R_slice ag.out
             subst fp
             go_wp2_with (first | ((with_reducible refine gate_callee (f := 24) rfl ?_); refine gl_ (some 81) Tryd.func24 #[.agg #[.slice fk ad.length fl, .int .i64 aq, .slice fn ai.length fo]] ?_; (with_reducible refine (impl_PlaceText.calls k2 _ _ ad aq _ _ ai aV _ ?s1 ?s2 ?s3 ?s4 ?s5 A67.out).mono ?_); (case s1 => repeat (first | exact (Kd.R_reads' ab.out).2.2 | (with_reducible refine Kd.C_alloc ?_ _) | (with_reducible refine Kd.C_drewN ?_ _) | (with_reducible refine Kd.C_drew ?_))); (case s2 => exact (Kd.R_reads' ab.out).2.1); (case s3 => repeat (first | exact (Kd.R_reads' ag.out).2.2 | (with_reducible refine Kd.C_alloc ?_ _) | (with_reducible refine Kd.C_drewN ?_ _) | (with_reducible refine Kd.C_drew ?_))); (case s4 => exact (Kd.R_reads' ag.out).2.1); (case s5 => exact GWb.below HG.out (tb_ HB.out)); rintro e gS ⟨rfl, hb⟩; refine ⟨_, rfl, ?_⟩; replace ak := rb_ ak hb; replace ab := rb_ ab hb; replace ag := rb_ ag hb; replace ac := bb_ ac hb; replace aa := bb_ aa hb; replace HB := bs_ HB hb; (try clear hb); (try clear hb2); (try clear hk); (try clear hi); have ep := cz_ ac 0; have eq := cz_ ac 1; have er := cz_ ac 2; have es := blk_frozen ac.out 0; have et := blk_frozen ac.out 1; have eu := blk_frozen ac.out 2))
             refine bodyPost_ret (results_ct rfl _ _ av 36 #[.slice none 0 0, .int .i64 0, .slice none 0 0] (0, 0) _ rfl (ps_ ac.out) Tryd.underlying36 rfl (by kernel_rfl)) rfl ?_
             exact ⟨_, _, tw_, by first | exact Kd.R_nil _ _ _ _ _ | exact Kd.N_nil _ _ _ _ _ | exact Kd.V_nil _ _ _ _ _ | exact Kd.Q_nil _ _ _ _ _ | exact Kd.S_nil _ _ _ _ _, by first | exact Kd.R_nil _ _ _ _ _ | exact Kd.N_nil _ _ _ _ _ | exact Kd.V_nil _ _ _ _ _ | exact Kd.Q_nil _ _ _ _ _ | exact Kd.S_nil _ _ _ _ _, (tb_ HB.out)⟩
       ·
        rw [if_neg c37] at H
        exact absurd H (by simp)
      ·
       rw [if_neg c35] at H
       exact absurd H (by simp)
  ·
   rw [if_neg c4] at H
   exact absurd H (by simp)
 ·
  rw [if_neg c3] at H
  have df : ((af.length : Int) == 3) = false := beq_eq_false_iff_ne.mpr c3
  have dg : ((af.length : Int) != 3) = true := bne_iff_ne.mpr c3
  simp only [Option.some.injEq, Prod.mk.injEq] at H
  obtain ⟨rfl, rfl, rfl, rfl⟩ := H
  go_enter Tryd.func17, Tryd.ntmps17
  go_wp2_with (first | ((with_reducible refine gate_dst (N := 2) rfl ?_); (try (refine gate_guard (by rfl) ?_; dsimp only)); refine box_event ?hg (N := 2) ?hd (cs := #[.slice none 0 0, .int .i64 0, .slice none 0 0]) (t := 36) ?hr ?_; (case hd => rfl); (case hg => rfl); (case hr => first | (go_simp; done) | (go_simp; rfl)); intro av hg gU hbox hb; have ac := Aside0.mk (hbox); have dA := gx_ HB hg; have dB := gx_ HB hg; replace HB := bs_ HB hb; clear hb hbox hg) | ((with_reducible refine gate_callee (f := 22) rfl ?_); refine gl_ (some 12) Tryd.func22 #[.string a0, .string (⟨#[32]⟩ : ByteArray)] ?_; (with_reducible refine (strings_Split.calls a0 (⟨#[32]⟩ : ByteArray) af _ ?s1 A2.out).mono ?_); (case s1 => exact GWb.below HG.out (tb_ HB.out)); rintro e gV ⟨fb, rfl, ho0, hb⟩; refine ⟨_, rfl, ?_⟩; have aH := rx_ ho0 HB; replace ac := bb_ ac hb; replace HB := bs_ HB hb; (try clear hb); (try clear hb2); (try clear hk); (try clear hi); (try clear ho0); obtain ⟨go, gp, fq⟩ := Kd.R_slice aH.out; subst fq; have ev := cz_ ac 0; have ew := cz_ ac 1; have ex := cz_ ac 2; have ey := blk_frozen ac.out 0; have ez := blk_frozen ac.out 1; have eA := blk_frozen ac.out 2))
  refine bodyPost_ret (results_ct rfl _ _ av 36 #[.slice none 0 0, .int .i64 0, .slice none 0 0] (0, 0) _ rfl (ps_ ac.out) Tryd.underlying36 rfl (by kernel_rfl)) rfl ?_
  exact ⟨_, _, tw_, by first | exact Kd.R_nil _ _ _ _ _ | exact Kd.N_nil _ _ _ _ _ | exact Kd.V_nil _ _ _ _ _ | exact Kd.Q_nil _ _ _ _ _ | exact Kd.S_nil _ _ _ _ _, by first | exact Kd.R_nil _ _ _ _ _ | exact Kd.N_nil _ _ _ _ _ | exact Kd.V_nil _ _ _ _ _ | exact Kd.Q_nil _ _ _ _ _ | exact Kd.S_nil _ _ _ _ _, (tb_ HB.out)⟩

/-! ### impl_StoreOk: function 9 -/
def impl_StoreOk.f (k : Nat) (a0_0 : ByteArray) (a0_1 : ByteArray) (a0_2 : Int) : Option (Bool) := (impl_ReadPlace.f k a0_0).bind fun bx => (if bx.2.2.2 = true then (if (a0_1.size : Int) ≤ 1000 then (if a0_2 ≥ 0 then (some (decide (a0_2 ≤ (a0_1.size : Int)))) else (some false)) else (some false)) else (some false))
theorem impl_StoreOk.mono : ∀ a0 a1 a2 k, LeO (impl_StoreOk.f k a0 a1 a2) (impl_StoreOk.f (k + 1) a0 a1 a2) := by
 intro a0 a1 a2 k
 unfold impl_StoreOk.f
 repeat' (with_reducible first | exact impl_ReadPlace.mono _ _ | exact mr_ | exact mn_ | refine mi_ ?_ ?_ | refine mb_ ?_ (fun _ => ?_))
set_option maxHeartbeats 8000000 in
set_option maxRecDepth 100000 in
theorem impl_StoreOk.calls (k : Nat) (a0_0 : ByteArray) (a0_1 : ByteArray) (a0_2 : Int) (r : Bool) (w : World) (hG : GWb w) (h : impl_StoreOk.f k a0_0 a0_1 a0_2 = some r) :
  Calls Tryd.prog 9 #[.agg #[.string a0_0, .string a0_1, .int .i64 a0_2]] w fun e w' => e = .returned (.bool r) ∧ Below w.heap.size w w' := by
 have HG := Aside0.mk hG
 clear hG
 have hu26 := Tryd.underlying26
 have hu36 := Tryd.underlying36
 have HB := Aside0.mk (Below.refl w.heap.size w)
 have H : ((impl_ReadPlace.f k a0_0).bind fun bx => (if bx.2.2.2 = true then (if (a0_1.size : Int) ≤ 1000 then (if a0_2 ≥ 0 then (some (decide (a0_2 ≤ (a0_1.size : Int)))) else (some false)) else (some false)) else (some false))) = some r := h
 clear h
 obtain ⟨⟨cI, cJ, cK, fr⟩, A2, H⟩ := bnd_ H
 try dsimp only at H
 by_cases c3 : fr = true
 ·
  subst c3
  have H1 : (if (a0_1.size : Int) ≤ 1000 then (if a0_2 ≥ 0 then (some (decide (a0_2 ≤ (a0_1.size : Int)))) else (some false)) else (some false)) = some r := by rw [if_pos rfl] at H; exact H
  clear H
  have H := H1
  clear H1
  by_cases c4 : (a0_1.size : Int) ≤ 1000
  ·
   rw [if_pos c4] at H
   have bI : decide ((a0_1.size : Int) ≤ 1000) = true := decide_eq_true c4
   have bJ : decide (a0_1.size ≤ 1000) = true := decide_eq_true (by omega)
   clear c4
   by_cases c5 : a0_2 ≥ 0
   ·
    rw [if_pos c5] at H
    have fs : decide (0 ≤ a0_2) = true := decide_eq_true c5
    clear c5
    obtain rfl := Option.some.inj H
    go_enter Tryd.func9, Tryd.ntmps9
    go_wp2_with (first | ((with_reducible refine gate_dst (N := 1) rfl ?_); (try (refine gate_guard (by rfl) ?_; dsimp only)); refine box_event ?hg (N := 1) ?hd (cs := #[.string a0_0, .string a0_1, .int .i64 a0_2]) (t := 26) ?hr ?_; (case hd => rfl); (case hg => rfl); (case hr => first | (go_simp; done) | (go_simp; rfl)); intro bz hg w6 hbox hb; have ae := Aside0.mk (hbox); have bB := gx_ HB hg; have bC := gx_ HB hg; replace HB := bs_ HB hb; clear hb hbox hg; have dr := cz_ ae 0; have dt := cz_ ae 1; have du := cz_ ae 2; have dv := blk_frozen ae.out 0; have dw := blk_frozen ae.out 1; have dx := blk_frozen ae.out 2) | ((with_reducible refine gate_callee (f := 17) rfl ?_); refine gl_ (some 8) Tryd.func17 #[.string a0_0] ?_; (with_reducible refine (impl_ReadPlace.calls k a0_0 cI cJ cK true _ ?s1 A2.out).mono ?_); (case s1 => exact GWb.below HG.out (tb_ HB.out)); rintro e w8 ⟨dy, dz, rfl, ho0, ho1, hb⟩; refine ⟨_, rfl, ?_⟩; have aE := rx_ ho0 HB; have aG := rx_ ho1 HB; replace ae := bb_ ae hb; replace HB := bs_ HB hb; (try clear hb); (try clear hb2); (try clear hk); (try clear hi); (try clear ho0); (try clear ho1)) | ((with_reducible refine gate_dst (N := 3) rfl ?_); (try (refine gate_guard (by rfl) ?_; dsimp only)); refine box_event ?hg (N := 3) ?hd (cs := #[.slice none 0 0, .int .i64 0, .slice none 0 0]) (t := 36) ?hr ?_; (case hd => rfl); (case hg => rfl); (case hr => first | (go_simp; done) | (go_simp; rfl)); intro bD hg w9 hbox hb; replace aE := rb_ aE hb; replace aG := rb_ aG hb; have am := Aside0.mk (hbox); have bE := gx_ HB hg; have bF := gx_ HB hg; replace HB := bs_ HB hb; have ay := nl_ ae hg; have az := ng_ ae hg; replace ae := bb_ ae hb; clear hb hbox hg; obtain ⟨gq, gr, ft⟩ := Kd.R_slice aE.out; subst ft; have f3 := az.out; have f4 := ay.out; have eB := cz_ am 0; have eC := cz_ am 1; have eD := cz_ am 2; have eE := blk_frozen am.out 0; have eF := blk_frozen am.out 1; have eG := blk_frozen am.out 2; obtain ⟨dh, di, dj⟩ := Kd.R_slice aG.out; subst dj; have cL := cz_ ae 0; have cM := cz_ ae 1; have cN := cz_ ae 2; have cO := blk_frozen ae.out 0; have cP := blk_frozen ae.out 1; have cQ := blk_frozen ae.out 2))
    go_ret
    exact ⟨tw_, (tb_ HB.out)⟩
   ·
    rw [if_neg c5] at H
    have fs : decide (0 ≤ a0_2) = false := decide_eq_false c5
    clear c5
    obtain rfl := Option.some.inj H
    go_enter Tryd.func9, Tryd.ntmps9
    go_wp2_with (first | ((with_reducible refine gate_dst (N := 1) rfl ?_); (try (refine gate_guard (by rfl) ?_; dsimp only)); refine box_event ?hg (N := 1) ?hd (cs := #[.string a0_0, .string a0_1, .int .i64 a0_2]) (t := 26) ?hr ?_; (case hd => rfl); (case hg => rfl); (case hr => first | (go_simp; done) | (go_simp; rfl)); intro bz hg gs hbox hb; have ae := Aside0.mk (hbox); have bB := gx_ HB hg; have bC := gx_ HB hg; replace HB := bs_ HB hb; clear hb hbox hg; have cR := cz_ ae 0; have cS := cz_ ae 1; have cT := cz_ ae 2; have cU := blk_frozen ae.out 0; have cV := blk_frozen ae.out 1; have cW := blk_frozen ae.out 2) | ((with_reducible refine gate_callee (f := 17) rfl ?_); refine gl_ (some 8) Tryd.func17 #[.string a0_0] ?_; (with_reducible refine (impl_ReadPlace.calls k a0_0 cI cJ cK true _ ?s1 A2.out).mono ?_); (case s1 => exact GWb.below HG.out (tb_ HB.out)); rintro e gW ⟨dy, dz, rfl, ho0, ho1, hb⟩; refine ⟨_, rfl, ?_⟩; have aE := rx_ ho0 HB; have aG := rx_ ho1 HB; replace ae := bb_ ae hb; replace HB := bs_ HB hb; (try clear hb); (try clear hb2); (try clear hk); (try clear hi); (try clear ho0); (try clear ho1)) | ((with_reducible refine gate_dst (N := 3) rfl ?_); (try (refine gate_guard (by rfl) ?_; dsimp only)); refine box_event ?hg (N := 3) ?hd (cs := #[.slice none 0 0, .int .i64 0, .slice none 0 0]) (t := 36) ?hr ?_; (case hd => rfl); (case hg => rfl); (case hr => first | (go_simp; done) | (go_simp; rfl)); intro bD hg gX hbox hb; replace aE := rb_ aE hb; replace aG := rb_ aG hb; have am := Aside0.mk (hbox); have bE := gx_ HB hg; have bF := gx_ HB hg; replace HB := bs_ HB hb; have ay := nl_ ae hg; have az := ng_ ae hg; replace ae := bb_ ae hb; clear hb hbox hg; obtain ⟨gu, gv, fu⟩ := Kd.R_slice aE.out; subst fu; have dE := az.out; have dF := ay.out; have a7 := cz_ am 0; have a8 := cz_ am 1; have a9 := cz_ am 2; have bb := blk_frozen am.out 0; have bc := blk_frozen am.out 1; have bd := blk_frozen am.out 2; obtain ⟨fd, fe, dk⟩ := Kd.R_slice aG.out; subst dk; have be := cz_ ae 0; have bf := cz_ ae 1; have bg := cz_ ae 2; have bh := blk_frozen ae.out 0; have bi := blk_frozen ae.out 1; have bj := blk_frozen ae.out 2))
    go_ret
    exact ⟨tw_, (tb_ HB.out)⟩
  ·
   rw [if_neg c4] at H
   have bI : decide ((a0_1.size : Int) ≤ 1000) = false := decide_eq_false c4
   have bJ : decide (a0_1.size ≤ 1000) = false := decide_eq_false (by omega)
   clear c4
   obtain rfl := Option.some.inj H
   go_enter Tryd.func9, Tryd.ntmps9
   go_wp2_with (first | ((with_reducible refine gate_dst (N := 1) rfl ?_); (try (refine gate_guard (by rfl) ?_; dsimp only)); refine box_event ?hg (N := 1) ?hd (cs := #[.string a0_0, .string a0_1, .int .i64 a0_2]) (t := 26) ?hr ?_; (case hd => rfl); (case hg => rfl); (case hr => first | (go_simp; done) | (go_simp; rfl)); intro bz hg gY hbox hb; have ae := Aside0.mk (hbox); have bB := gx_ HB hg; have bC := gx_ HB hg; replace HB := bs_ HB hb; clear hb hbox hg; have eH := cz_ ae 0; have eI := cz_ ae 1; have eJ := cz_ ae 2; have eK := blk_frozen ae.out 0; have eL := blk_frozen ae.out 1; have eM := blk_frozen ae.out 2) | ((with_reducible refine gate_callee (f := 17) rfl ?_); refine gl_ (some 8) Tryd.func17 #[.string a0_0] ?_; (with_reducible refine (impl_ReadPlace.calls k a0_0 cI cJ cK true _ ?s1 A2.out).mono ?_); (case s1 => exact GWb.below HG.out (tb_ HB.out)); rintro e gZ ⟨dy, dz, rfl, ho0, ho1, hb⟩; refine ⟨_, rfl, ?_⟩; have aE := rx_ ho0 HB; have aG := rx_ ho1 HB; replace ae := bb_ ae hb; replace HB := bs_ HB hb; (try clear hb); (try clear hb2); (try clear hk); (try clear hi); (try clear ho0); (try clear ho1)) | ((with_reducible refine gate_dst (N := 3) rfl ?_); (try (refine gate_guard (by rfl) ?_; dsimp only)); refine box_event ?hg (N := 3) ?hd (cs := #[.slice none 0 0, .int .i64 0, .slice none 0 0]) (t := 36) ?hr ?_; (case hd => rfl); (case hg => rfl); (case hr => first | (go_simp; done) | (go_simp; rfl)); intro bD hg g0 hbox hb; replace aE := rb_ aE hb; replace aG := rb_ aG hb; have am := Aside0.mk (hbox); have bE := gx_ HB hg; have bF := gx_ HB hg; replace HB := bs_ HB hb; have ay := nl_ ae hg; have az := ng_ ae hg; replace ae := bb_ ae hb; clear hb hbox hg; obtain ⟨dl, dm, dn⟩ := Kd.R_slice aE.out; subst dn; have f5 := az.out; have f6 := ay.out; have eN := cz_ am 0; have eO := cz_ am 1; have eP := cz_ am 2; have eQ := blk_frozen am.out 0; have eR := blk_frozen am.out 1; have eS := blk_frozen am.out 2; obtain ⟨gw, gx, fv⟩ := Kd.R_slice aG.out; subst fv; have eT := cz_ ae 0; have eU := cz_ ae 1; have eV := cz_ ae 2; have eW := blk_frozen ae.out 0; have eX := blk_frozen ae.out 1; have eY := blk_frozen ae.out 2))
   go_ret
   exact ⟨tw_, (tb_ HB.out)⟩
 ·
  replace c3 := Bool.eq_false_iff.mpr c3
  subst c3
  have H1 : (some false) = some r := by rw [if_neg (show ¬ (false = true) by decide)] at H; exact H
  clear H
  have H := H1
  clear H1
  obtain rfl := Option.some.inj H
  go_enter Tryd.func9, Tryd.ntmps9
  go_wp2_with (first | ((with_reducible refine gate_dst (N := 1) rfl ?_); (try (refine gate_guard (by rfl) ?_; dsimp only)); refine box_event ?hg (N := 1) ?hd (cs := #[.string a0_0, .string a0_1, .int .i64 a0_2]) (t := 26) ?hr ?_; (case hd => rfl); (case hg => rfl); (case hr => first | (go_simp; done) | (go_simp; rfl)); intro bz hg g1 hbox hb; have ae := Aside0.mk (hbox); have bB := gx_ HB hg; have bC := gx_ HB hg; replace HB := bs_ HB hb; clear hb hbox hg; have bk := cz_ ae 0; have bl := cz_ ae 1; have bm := cz_ ae 2; have bn := blk_frozen ae.out 0; have bo := blk_frozen ae.out 1; have bp := blk_frozen ae.out 2) | ((with_reducible refine gate_callee (f := 17) rfl ?_); refine gl_ (some 8) Tryd.func17 #[.string a0_0] ?_; (with_reducible refine (impl_ReadPlace.calls k a0_0 cI cJ cK false _ ?s1 A2.out).mono ?_); (case s1 => exact GWb.below HG.out (tb_ HB.out)); rintro e g2 ⟨dy, dz, rfl, ho0, ho1, hb⟩; refine ⟨_, rfl, ?_⟩; have aE := rx_ ho0 HB; have aG := rx_ ho1 HB; replace ae := bb_ ae hb; replace HB := bs_ HB hb; (try clear hb); (try clear hb2); (try clear hk); (try clear hi); (try clear ho0); (try clear ho1)) | ((with_reducible refine gate_dst (N := 3) rfl ?_); (try (refine gate_guard (by rfl) ?_; dsimp only)); refine box_event ?hg (N := 3) ?hd (cs := #[.slice none 0 0, .int .i64 0, .slice none 0 0]) (t := 36) ?hr ?_; (case hd => rfl); (case hg => rfl); (case hr => first | (go_simp; done) | (go_simp; rfl)); intro bD hg g3 hbox hb; replace aE := rb_ aE hb; replace aG := rb_ aG hb; have am := Aside0.mk (hbox); have bE := gx_ HB hg; have bF := gx_ HB hg; replace HB := bs_ HB hb; have ay := nl_ ae hg; have az := ng_ ae hg; replace ae := bb_ ae hb; clear hb hbox hg; obtain ⟨gy, gz, fw⟩ := Kd.R_slice aE.out; subst fw; have f7 := az.out; have f8 := ay.out; have eZ := cz_ am 0; have e0 := cz_ am 1; have e1 := cz_ am 2; have e2 := blk_frozen am.out 0; have e3 := blk_frozen am.out 1; have e4 := blk_frozen am.out 2; obtain ⟨gA, gB, fx⟩ := Kd.R_slice aG.out; subst fx))
  go_ret
  exact ⟨tw_, (tb_ HB.out)⟩

/-! ### impl_StoreSync: function 14 -/
def impl_StoreSync.f (k : Nat) (a0_0 : ByteArray) (a0_1 : ByteArray) (a0_2 : Int) : Option (ByteArray × ByteArray × Int × Bool) := (impl_StoreOk.f k a0_0 a0_1 a0_2).bind fun bG => (if bG = true then (some (a0_0, a0_1, (a0_1.size : Int), true)) else (some ((⟨#[]⟩ : ByteArray), (⟨#[]⟩ : ByteArray), 0, false)))
theorem impl_StoreSync.mono : ∀ a0 a1 a2 k, LeO (impl_StoreSync.f k a0 a1 a2) (impl_StoreSync.f (k + 1) a0 a1 a2) := by
 intro a0 a1 a2 k
 unfold impl_StoreSync.f
 repeat' (with_reducible first | exact impl_StoreOk.mono _ _ _ _ | exact mr_ | exact mn_ | refine mi_ ?_ ?_ | refine mb_ ?_ (fun _ => ?_))
set_option maxHeartbeats 8000000 in
set_option maxRecDepth 100000 in
theorem impl_StoreSync.calls (k : Nat) (a0_0 : ByteArray) (a0_1 : ByteArray) (a0_2 : Int) (r1 : ByteArray) (r2 : ByteArray) (r3 : Int) (r4 : Bool) (w : World) (hG : GWb w) (h : impl_StoreSync.f k a0_0 a0_1 a0_2 = some (r1, r2, r3, r4)) :
  Calls Tryd.prog 14 #[.agg #[.string a0_0, .string a0_1, .int .i64 a0_2]] w fun e w' => e = .returned (.tuple #[.agg #[.string r1, .string r2, .int .i64 r3], .bool r4]) ∧ Below w.heap.size w w' := by
 have HG := Aside0.mk hG
 clear hG
 have hu26 := Tryd.underlying26
 have HB := Aside0.mk (Below.refl w.heap.size w)
 have H : ((impl_StoreOk.f k a0_0 a0_1 a0_2).bind fun bG => (if bG = true then (some (a0_0, a0_1, (a0_1.size : Int), true)) else (some ((⟨#[]⟩ : ByteArray), (⟨#[]⟩ : ByteArray), 0, false)))) = some (r1, r2, r3, r4) := h
 clear h
 obtain ⟨bG, A2, H⟩ := bnd_ H
 try dsimp only at H
 by_cases c3 : bG = true
 ·
  subst c3
  have H1 : (some (a0_0, a0_1, (a0_1.size : Int), true)) = some (r1, r2, r3, r4) := by rw [if_pos rfl] at H; exact H
  clear H
  have H := H1
  clear H1
  simp only [Option.some.injEq, Prod.mk.injEq] at H
  obtain ⟨rfl, rfl, rfl, rfl⟩ := H
  go_enter Tryd.func14, Tryd.ntmps14
  go_wp2_with (first | ((with_reducible refine gate_dst (N := 1) rfl ?_); refine box_event ?hg (N := 1) ?hd (cs := #[.string a0_0, .string a0_1, .int .i64 a0_2]) (t := 26) ?hr ?_; (case hd => rfl); (case hg => rfl); (case hr => first | (go_simp; done) | (go_simp; rfl)); intro dU hg w4 hbox hb; have aj := Aside0.mk (hbox); have dV := gx_ HB hg; have dW := gx_ HB hg; replace HB := bs_ HB hb; clear hb hbox hg) | ((with_reducible refine gate_dst (N := 2) rfl ?_); refine box_event ?hg (N := 2) ?hd (cs := #[.string (⟨#[]⟩ : ByteArray), .string (⟨#[]⟩ : ByteArray), .int .i64 0]) (t := 26) ?hr ?_; (case hd => rfl); (case hg => rfl); (case hr => first | (go_simp; done) | (go_simp; rfl)); intro bH hg w5 hbox hb; have aw := Aside0.mk (hbox); have dX := gx_ HB hg; have dY := gx_ HB hg; replace HB := bs_ HB hb; have aM := nl_ aj hg; have aN := ng_ aj hg; replace aj := bb_ aj hb; clear hb hbox hg; have gC := aM.out; have gD := aN.out; have dr := cz_ aj 0; have dt := cz_ aj 1; have du := cz_ aj 2; have dv := blk_frozen aj.out 0; have dw := blk_frozen aj.out 1; have dx := blk_frozen aj.out 2) | ((with_reducible refine gate_callee (f := 9) rfl ?_); refine gl_ (some 5) Tryd.func9 #[.agg #[.string a0_0, .string a0_1, .int .i64 a0_2]] ?_; (with_reducible refine (impl_StoreOk.calls k a0_0 a0_1 a0_2 true _ ?s1 A2.out).mono ?_); (case s1 => exact GWb.below HG.out (tb_ HB.out)); rintro e w8 ⟨rfl, hb⟩; refine ⟨_, rfl, ?_⟩; replace aj := bb_ aj hb; replace aw := bb_ aw hb; replace HB := bs_ HB hb; (try clear hb); (try clear hb2); (try clear hk); (try clear hi); have fy := cz_ aj 0; have fz := cz_ aj 1; have fA := cz_ aj 2; have fB := blk_frozen aj.out 0; have fC := blk_frozen aj.out 1; have fD := blk_frozen aj.out 2; have e5 := cz_ aw 0; have e6 := cz_ aw 1; have e7 := cz_ aw 2; have e8 := blk_frozen aw.out 0; have e9 := blk_frozen aw.out 1; have fa := blk_frozen aw.out 2))
  refine bodyPost_ret (results_ct rfl _ _ bH 26 #[.string a0_0, .string a0_1, .int .i64 (a0_1.size : Int)] (0, 0) _ rfl (ps_ aw.out) Tryd.underlying26 rfl (by kernel_rfl)) rfl ?_
  exact ⟨tw_, (tb_ HB.out)⟩
 ·
  replace c3 := Bool.eq_false_iff.mpr c3
  subst c3
  have H1 : (some ((⟨#[]⟩ : ByteArray), (⟨#[]⟩ : ByteArray), 0, false)) = some (r1, r2, r3, r4) := by rw [if_neg (show ¬ (false = true) by decide)] at H; exact H
  clear H
  have H := H1
  clear H1
  simp only [Option.some.injEq, Prod.mk.injEq] at H
  obtain ⟨rfl, rfl, rfl, rfl⟩ := H
  go_enter Tryd.func14, Tryd.ntmps14
  go_wp2_with (first | ((with_reducible refine gate_dst (N := 1) rfl ?_); refine box_event ?hg (N := 1) ?hd (cs := #[.string a0_0, .string a0_1, .int .i64 a0_2]) (t := 26) ?hr ?_; (case hd => rfl); (case hg => rfl); (case hr => first | (go_simp; done) | (go_simp; rfl)); intro dU hg g4 hbox hb; have aj := Aside0.mk (hbox); have dV := gx_ HB hg; have dW := gx_ HB hg; replace HB := bs_ HB hb; clear hb hbox hg) | ((with_reducible refine gate_dst (N := 2) rfl ?_); refine box_event ?hg (N := 2) ?hd (cs := #[.string (⟨#[]⟩ : ByteArray), .string (⟨#[]⟩ : ByteArray), .int .i64 0]) (t := 26) ?hr ?_; (case hd => rfl); (case hg => rfl); (case hr => first | (go_simp; done) | (go_simp; rfl)); intro bH hg gc hbox hb; have aw := Aside0.mk (hbox); have dX := gx_ HB hg; have dY := gx_ HB hg; replace HB := bs_ HB hb; have aM := nl_ aj hg; have aN := ng_ aj hg; replace aj := bb_ aj hb; clear hb hbox hg; have f9 := aM.out; have ga := aN.out; have cL := cz_ aj 0; have cM := cz_ aj 1; have cN := cz_ aj 2; have cO := blk_frozen aj.out 0; have cP := blk_frozen aj.out 1; have cQ := blk_frozen aj.out 2) | ((with_reducible refine gate_callee (f := 9) rfl ?_); refine gl_ (some 5) Tryd.func9 #[.agg #[.string a0_0, .string a0_1, .int .i64 a0_2]] ?_; (with_reducible refine (impl_StoreOk.calls k a0_0 a0_1 a0_2 false _ ?s1 A2.out).mono ?_); (case s1 => exact GWb.below HG.out (tb_ HB.out)); rintro e gs ⟨rfl, hb⟩; refine ⟨_, rfl, ?_⟩; replace aj := bb_ aj hb; replace aw := bb_ aw hb; replace HB := bs_ HB hb; (try clear hb); (try clear hb2); (try clear hk); (try clear hi); have cR := cz_ aw 0; have cS := cz_ aw 1; have cT := cz_ aw 2; have cU := blk_frozen aw.out 0; have cV := blk_frozen aw.out 1; have cW := blk_frozen aw.out 2))
  refine bodyPost_ret (results_ct rfl _ _ bH 26 #[.string (⟨#[]⟩ : ByteArray), .string (⟨#[]⟩ : ByteArray), .int .i64 0] (0, 0) _ rfl (ps_ aw.out) Tryd.underlying26 rfl (by kernel_rfl)) rfl ?_
  exact ⟨tw_, (tb_ HB.out)⟩

end Go.Proofs.YtfibbdefcppfcaaDoor.MFnExactStoreSync
