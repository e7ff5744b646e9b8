/- For the law FnExactStoreMend: walks of the functions that it reaches: each call returns what the plain function beside it tells. The conditions stand in each statement. -/
import Derived.Test.YtfibbdefcppfcaaGreatDoorV
import Derived.Test.YtfibbdefcppfcaaGreatDoorMFnExactStoreMendx0
import Derived.Test.YtfibbdefcppfcaaGreatDoorMFnExactStoreMendx13
namespace Go.Proofs.YtfibbdefcppfcaaGreatDoor.MFnExactStoreMend
open Go.RowKit Go.Proofs.YtfibbdefcppfcaaGreatDoorW.PrintWords Go.Proofs.YtfibbdefcppfcaaGreatDoorW.PrintLast Go.Proofs.YtfibbdefcppfcaaGreatDoorW.PrintMore
attribute [local go_sem] max2_int min2_int max_two min_two max_three min_three max_four min_four   -- for this text's walks alone
set_option linter.unusedVariables false
set_option linter.unusedSimpArgs false

/-! ### impl_ReadPlace: function 64 -/
mutual
def impl_ReadPlace.l0 : Nat → ByteArray → List ByteArray → List ByteArray → Int → Int → List Int → Int → Option (List Int × Int × List Int × Bool)
 | 0, _, _, _, _, _, _, _ => none
 | k + 1, x0, x4, x21, x22, x23, ay, aH => if x23 < x22 then (if 0 ≤ x23 then (if x23 < (x21.length : Int) then ((strconv_Atoi.f (rdOf ByteArray.empty x21 x23)).bind fun cF => (if cF.2.isNone = true then (if (ay.length : Int) > 3 then (some (([] : List Int), 0, ([] : List Int), false)) else (if ay.length < 17592186044416 then (impl_ReadPlace.l0 k x0 x4 x21 x22 (wrap64 (x23 + 1)) (ay ++ [cF.1]) aH) else (none))) else (some (([] : List Int), 0, ([] : List Int), false)))) else (none)) else (none)) else (if 1 < (x4.length : Int) then ((strconv_Atoi.f (rdOf ByteArray.empty x4 1)).bind fun bo => (if 2 < (x4.length : Int) then (if (rdOf ByteArray.empty x4 2).toList = ([46] : List UInt8) then ((impl_PlaceText.f k ay bo.1 ([] : List Int)).bind fun aM => (if aM.toList = x0.toList then (some (ay, bo.1, ([] : List Int), true)) else (some (([] : List Int), 0, ([] : List Int), false)))) else (impl_ReadPlace.l1 k x0 x4 ((rdOf ByteArray.empty x4 2).size : Int) 0 ay bo.1 ([] : List Int))) else (none))) else (none))
def impl_ReadPlace.l1 : Nat → ByteArray → List ByteArray → Int → Int → List Int → Int → List Int → Option (List Int × Int × List Int × Bool)
 | 0, _, _, _, _, _, _, _ => none
 | k + 1, x0, x4, x63, x64, ay, aH, aJ => if x64 < x63 then (if 2 < (x4.length : Int) then (if 0 ≤ x64 then (if x64 < ((rdOf ByteArray.empty x4 2).size : Int) then (if aJ.length < 17592186044416 then (impl_ReadPlace.l1 k x0 x4 x63 (wrap64 (x64 + 1)) ay aH (aJ ++ [wrap64 ((wrap64 (bt (rdOf ByteArray.empty x4 2) x64)) - 97)])) else (none)) else (none)) else (none)) else (none)) else ((impl_PlaceText.f k ay aH aJ).bind fun aN => (if aN.toList = x0.toList then (some (ay, aH, aJ, true)) else (some (([] : List Int), 0, ([] : List Int), false))))
end
def impl_ReadPlace.f (k : Nat) (a0 : ByteArray) : Option (List Int × Int × List Int × Bool) := (strings_Split.f a0 (⟨#[32]⟩ : ByteArray)).bind fun af => (if (af.length : Int) = 3 then (if 0 < (af.length : Int) then ((strings_Split.f (rdOf ByteArray.empty af 0) (⟨#[44]⟩ : ByteArray)).bind fun ar => (impl_ReadPlace.l0 k a0 af ar (ar.length : Int) 0 ([] : List Int) 0)) else (none)) else (some (([] : List Int), 0, ([] : List Int), false)))
theorem impl_ReadPlace.mono_l : ∀ k, (∀ y0 y1 y2 y3 y4 y5 y6, LeO (impl_ReadPlace.l0 k y0 y1 y2 y3 y4 y5 y6) (impl_ReadPlace.l0 (k + 1) y0 y1 y2 y3 y4 y5 y6)) ∧ (∀ y0 y1 y2 y3 y4 y5 y6, LeO (impl_ReadPlace.l1 k y0 y1 y2 y3 y4 y5 y6) (impl_ReadPlace.l1 (k + 1) y0 y1 y2 y3 y4 y5 y6))
 | 0 => ⟨fun _ _ _ _ _ _ _ r h => by simp [impl_ReadPlace.l0] at h, fun _ _ _ _ _ _ _ r h => by simp [impl_ReadPlace.l1] at h⟩
 | k + 1 => by
  obtain ⟨ih0, ih1⟩ := impl_ReadPlace.mono_l k
  refine ⟨?_, ?_⟩
  ·
   intro y0 y1 y2 y3 y4 y5 y6
   unfold impl_ReadPlace.l0
   repeat' (with_reducible first | exact ih0 _ _ _ _ _ _ _ | exact ih1 _ _ _ _ _ _ _ | exact impl_PlaceText.mono _ _ _ _ | exact mr_ | exact mn_ | refine mi_ ?_ ?_ | refine mb_ ?_ (fun _ => ?_))
  ·
   intro y0 y1 y2 y3 y4 y5 y6
   unfold impl_ReadPlace.l1
   repeat' (with_reducible first | exact ih0 _ _ _ _ _ _ _ | exact ih1 _ _ _ _ _ _ _ | exact impl_PlaceText.mono _ _ _ _ | exact mr_ | exact mn_ | refine mi_ ?_ ?_ | refine mb_ ?_ (fun _ => ?_))
theorem impl_ReadPlace.mono : ∀ a0 k, LeO (impl_ReadPlace.f k a0) (impl_ReadPlace.f (k + 1) a0) := by
 intro a0 k
 obtain ⟨ih0, ih1⟩ := impl_ReadPlace.mono_l k
 unfold impl_ReadPlace.f
 repeat' (with_reducible first | exact ih0 _ _ _ _ _ _ _ | exact ih1 _ _ _ _ _ _ _ | exact impl_PlaceText.mono _ _ _ _ | exact mr_ | exact mn_ | refine mi_ ?_ ?_ | refine mb_ ?_ (fun _ => ?_))
def impl_ReadPlace.T18 : Bool × List (List Nat × List Nat) := (true, [([], []), ([0], [0]), ([], []), ([2], [2]), ([3], [3]), ([], []), ([4, 5], [4, 5]), ([6], [6]), ([7], [7]), ([8], [8]), ([1, 9], [1, 9]), ([0, 1, 2, 3, 4, 5, 6, 7, 8, 9, 10], []), ([11, 10, 10, 0, 1, 2, 3, 4, 5, 6, 7, 8, 9, 10], [10, 11])])
def impl_ReadPlace.B18 : List Nat := [0, 1, 0, 4, 12, 0, 60, 124, 252, 508, 1023, 2047, 4095]
theorem impl_ReadPlace.tab18 : rtab .any (opsOf Tryz.f64 18) = impl_ReadPlace.T18 := by kernel_rfl
theorem impl_ReadPlace.bits18 : waitsOk impl_ReadPlace.T18.2 impl_ReadPlace.B18 = true := by kernel_rfl
set_option maxHeartbeats 8000000 in
set_option maxRecDepth 100000 in
theorem impl_ReadPlace.calls (k : Nat) (a0 : ByteArray) (r1 : List Int) (r2 : Int) (r3 : List Int) (r4 : Bool) (w : World) (hG : GWb w) (h : impl_ReadPlace.f k a0 = some (r1, r2, r3, r4)) :
  Calls Tryz.prog 64 #[.string a0] w fun e w' => ∃ v0_ v2_ : Value, e = .returned (.tuple #[.agg #[v0_, .int .i64 r2, v2_], .bool r4]) ∧ Kd.R (Kd.int .i64) 3 w' w.heap.size (fun k_ => some k_ ≠ (v2_ : Value).ownBlock) v0_ r1 ∧ Kd.R (Kd.int .i64) 3 w' w.heap.size (fun k_ => some k_ ≠ (v0_ : Value).ownBlock) v2_ r3 ∧ Below w.heap.size w w' := by
 have HG := Aside0.mk hG
 clear hG
 have hu39 := Tryz.underlying39
 have hu112 := Tryz.underlying112
 have HB := Aside0.mk (Below.refl w.heap.size w)
 have H : ((strings_Split.f a0 (⟨#[32]⟩ : ByteArray)).bind fun af => (if (af.length : Int) = 3 then (if 0 < (af.length : Int) then ((strings_Split.f (rdOf ByteArray.empty af 0) (⟨#[44]⟩ : ByteArray)).bind fun ar => (impl_ReadPlace.l0 k a0 af ar (ar.length : Int) 0 ([] : List Int) 0)) else (none)) else (some (([] : List Int), 0, ([] : List Int), false)))) = some (r1, r2, r3, r4) := h
 clear h
 obtain ⟨af, A2, H⟩ := bnd_ H
 try dsimp only at H
 by_cases c3 : (af.length : Int) = 3
 ·
  rw [if_pos c3] at H
  have cS : ((af.length : Int) == 3) = true := beq_iff_eq.mpr c3
  have cT : ((af.length : Int) != 3) = false := bne_eq_false_iff_eq.mpr c3
  clear c3
  by_cases c4 : 0 < (af.length : Int)
  ·
   rw [if_pos c4] at H
   have bC : decide (0 < (af.length : Int)) = true := decide_eq_true c4
   have bD : decide (0 < af.length) = true := decide_eq_true (by omega)
   clear c4
   obtain ⟨ar, A5, H⟩ := bnd_ H
   try dsimp only at H
   have H' := Aside0.mk H
   clear H
   go_enter Tryz.func64, Tryz.ntmps64
   go_wp2_with (first | ((with_reducible refine gate_dst (N := 2) rfl ?_); (try (refine gate_guard (by rfl) ?_; dsimp only)); refine box_event ?hg (N := 2) ?hd (cs := #[.slice none 0 0, .int .i64 0, .slice none 0 0]) (t := 39) ?hr ?_; (case hd => rfl); (case hg => rfl); (case hr => first | (go_simp; done) | (go_simp; rfl)); intro au hg w6 hbox hb; have ac := Aside0.mk (hbox); have db := gx_ HB hg; have dc := gx_ HB hg; replace HB := bs_ HB hb; clear hb hbox hg) | ((with_reducible refine gate_callee (f := 101) rfl ?_); refine gl_ (some 12) Tryz.func101 #[.string a0, .string (⟨#[32]⟩ : ByteArray)] ?_; (with_reducible refine (strings_Split.calls a0 (⟨#[32]⟩ : ByteArray) af _ ?s1 A2.out).mono ?_); (case s1 => exact GWb.below HG.out (tb_ HB.out)); rintro e w7 ⟨eP, rfl, ho0, hb⟩; refine ⟨_, rfl, ?_⟩; have aE := rx_ ho0 HB; replace ac := bb_ ac hb; replace HB := bs_ HB hb; (try clear hb); (try clear hb2); (try clear hk); (try clear hi); (try clear ho0); obtain ⟨ga, co8, fN⟩ := Kd.R_slice aE.out; subst fN) | ((with_reducible refine gate_dst (N := 5) rfl ?_); (try (refine gate_guard (by rfl) ?_; dsimp only)); refine box_event ?hg (N := 5) ?hd (cs := #[.slice none 0 0, .int .i64 0, .slice none 0 0]) (t := 39) ?hr ?_; (case hd => rfl); (case hg => rfl); (case hr => first | (go_simp; done) | (go_simp; rfl)); intro ah hg w9 hbox hb; replace aE := rb_ aE hb; have aa := Aside0.mk (hbox); have fi := gx_ HB hg; have fj := gx_ HB hg; replace HB := bs_ HB hb; have an := nl_ ac hg; have ao := ng_ ac hg; replace ac := bb_ ac hb; clear hb hbox hg; have fk := ao.out; have fl := an.out; have aU := cz_ aa 0; have aV := cz_ aa 1; have aW := cz_ aa 2; have aX := blk_frozen aa.out 0; have aY := blk_frozen aa.out 1; have aZ := blk_frozen aa.out 2; have p365 : 0 ≤ (0 : Int) := (by omega); have q365 : 0 < (af.length : Int) := od_; obtain ⟨ad365, e365, az⟩ := Kd.at_string (Kd.R_reads' aE.out).2.2 0 p365 q365; cases e365; have fm : (0 < af.length) = True := eq_true (by omega); (try rw [show ((0 : Int)).toNat = 0 from rfl] at az); (try rw [Addr.add_zero'] at az); have hn365_0 : ad365.block ≠ ah := Kd.own_blk (Kd.R_ne aE.out aa.out (by decide)); have hn365_1 : ad365.block ≠ ah := Kd.own_blk (Kd.R_ne aE.out aa.out (by decide)); have hn365_2 : ad365.block ≠ ah := Kd.own_blk (Kd.R_ne aE.out aa.out (by decide)); replace az := (cell_far (p := ⟨ah, 0, none⟩) (by first | (rw [add_block]; exact hn365_0) | (show (Addr.add _ _).block ≠ _; rw [add_block]; exact hn365_0) | exact hn365_0) (.slice none 0 0)).trans az; replace az := (cell_far (p := ⟨ah, 1, none⟩) (by first | (rw [add_block]; exact hn365_1) | (show (Addr.add _ _).block ≠ _; rw [add_block]; exact hn365_1) | exact hn365_1) (.int .i64 0)).trans az; replace az := (cell_far (p := ⟨ah, 2, none⟩) (by first | (rw [add_block]; exact hn365_2) | (show (Addr.add _ _).block ≠ _; rw [add_block]; exact hn365_2) | exact hn365_2) (.slice none 0 0)).trans az; clear hn365_0 hn365_1 hn365_2; replace p365 := eq_true p365; replace q365 := eq_true q365) | ((with_reducible refine gate_callee (f := 101) rfl ?_); refine gl_ (some 21) Tryz.func101 #[.string (rdOf ByteArray.empty af 0), .string (⟨#[44]⟩ : ByteArray)] ?_; (with_reducible refine (strings_Split.calls (rdOf ByteArray.empty af 0) (⟨#[44]⟩ : ByteArray) ar _ ?s1 A5.out).mono ?_); (case s1 => exact GWb.below HG.out (tb_ HB.out)); rintro e gb ⟨fO, rfl, ho0, hb⟩; refine ⟨_, rfl, ?_⟩; have cG := Aside0.mk (Kd.R_lower (Kd.R_new' ho0 (Kd.R_lt (by refine qR_ ?_; exact (Kd.R_mono (Kd.R_far (p := ⟨ah, 2, none⟩) (Kd.R_far (p := ⟨ah, 1, none⟩) (Kd.R_far (p := ⟨ah, 0, none⟩) (Kd.R_types aE.out aa.out (by decide)) (fun _ hk => hk.2) (.slice none 0 0)) (fun _ hk => hk.2) (.int .i64 0)) (fun _ hk => hk.2) (.slice none 0 0)) (fun _ h_ => h_.1))))) (below_size (tb_ HB.out))); replace aE := Aside0.mk (Kd.R_elder' (by refine qR_ ?_; exact (Kd.R_mono (Kd.R_far (p := ⟨ah, 2, none⟩) (Kd.R_far (p := ⟨ah, 1, none⟩) (Kd.R_far (p := ⟨ah, 0, none⟩) (Kd.R_types aE.out aa.out (by decide)) (fun _ hk => hk.2) (.slice none 0 0)) (fun _ hk => hk.2) (.int .i64 0)) (fun _ hk => hk.2) (.slice none 0 0)) (fun _ h_ => h_.1))) (Kd.R_base ho0) hb); replace ac := bb_ ac hb; replace aa := Aside0.mk (blk_below (g := ah) (o := .cells #[.slice none 0 0, .int .i64 0, .slice none 0 0] 39 (0, 0)) (ps_ aa.out) hb); replace HB := bs_ HB hb; (try clear hb); (try clear hb2); (try clear hk); (try clear hi); (try clear ho0); obtain ⟨cU, cV, cW⟩ := Kd.R_slice cG.out; subst cW))
   go_loopg [23] k (fun kq fP w' => ∃ (ak : Int) (aG : Int) (ad : List Int) (u365000 : Value), fP = .int .i64 ak ∧ Aside0 (impl_ReadPlace.l0 kq a0 af ar (ar.length : Int) ak ad 0 = some (r1, r2, r3, r4)) ∧ Aside0 (kq ≤ k) ∧ Aside0 (Kd.R Kd.string 9 w' w.heap.size (fun k_ => some k_ ≠ ((.slice cU ar.length cV) : Value).ownBlock) (.slice (some ad365) af.length co8) af) ∧ Aside0 (Kd.R Kd.string 9 w' w.heap.size (fun k_ => some k_ ≠ ((.slice (some ad365) af.length co8) : Value).ownBlock) (.slice cU ar.length cV) ar) ∧ Aside0 (Kd.R (Kd.int .i64) 3 w' w.heap.size (fun _ => True) u365000 ad) ∧ Aside0 (w'.heap[au]? = some (.cells #[(.slice none 0 0), .int .i64 aG, (.slice none 0 0)] 39 (0, 0))) ∧ Aside0 (w'.heap[ah]? = some (.cells #[u365000, .int .i64 0, (.slice none 0 0)] 39 (0, 0))) ∧ Aside0 (Below w.heap.size w w'))
   case atStart => exact ⟨(0), (0), (([] : List Int)), (.slice none 0 0), tx_, H', ⟨Nat.le_refl _⟩, ⟨by refine qR_ ?_; exact Kd.R_mono aE.out (fun _ hk => hk.2)⟩, ⟨by refine qR_ ?_; exact Kd.R_mono cG.out (fun _ hk => hk.2)⟩, ⟨by first | exact Kd.R_nil _ _ _ _ _ | exact Kd.N_nil _ _ _ _ _ | exact Kd.V_nil _ _ _ _ _ | exact Kd.Q_nil _ _ _ _ _ | exact Kd.S_nil _ _ _ _ _⟩, ⟨tk_ ac.out⟩, ⟨tk_ aa.out⟩, ⟨(tb_ HB.out)⟩⟩
   case round =>
    clear H'
    try clear c1
    try clear p2
    try clear c3
    try clear cS
    try clear cT
    try clear p3
    try clear q3
    try clear hx3
    try clear fQ
    try clear c4
    try clear bC
    try clear bD
    try clear c6
    try clear c10
    try clear aU
    try clear aV
    try clear aW
    try clear aX
    try clear aY
    try clear aZ
    try clear az
    try clear p365
    try clear q365
    obtain ⟨ak, aG, ad, u365000, rfl, HA, HK1, aj, aq, ab, ac, aa, HB⟩ := hrel
    cases gk with
    | zero => exact absurd HA.out (by simp [impl_ReadPlace.l0])
    | succ k1 =>
     have H := HA.out
     clear HA
     simp only [impl_ReadPlace.l0] at H
     by_cases c14 : ak < (ar.length : Int)
     ·
      rw [if_pos c14] at H
      have cH : decide (ak < (ar.length : Int)) = true := decide_eq_true c14
      clear c14
      by_cases c15 : 0 ≤ ak
      ·
       rw [if_pos c15] at H
       have dd : decide (0 ≤ ak) = true := decide_eq_true c15
       clear c15
       by_cases c16 : ak < (ar.length : Int)
       ·
        rw [if_pos c16] at H
        have de : decide (ak < (ar.length : Int)) = true := decide_eq_true c16
        clear c16
        obtain ⟨⟨aR, eQ⟩, A17, H⟩ := bnd_ H
        try dsimp only at H
        rcases eQ with _ | q372
        ·
         have H1 : (if (ad.length : Int) > 3 then (some (([] : List Int), 0, ([] : List Int), false)) else (if ad.length < 17592186044416 then (impl_ReadPlace.l0 k1 a0 af ar (ar.length : Int) (wrap64 (ak + 1)) (ad ++ [aR]) 0) else (none))) = some (r1, r2, r3, r4) := by rw [if_pos (show (none : Option Int).isNone = true by rfl)] at H; exact H
         clear H
         have H := H1
         clear H1
         try simp only [errW_none, errW_some, Option.map_none, Option.map_some]
         by_cases c18 : (ad.length : Int) > 3
         ·
          rw [if_pos c18] at H
          have cI : decide (3 < (ad.length : Int)) = true := decide_eq_true c18
          have cJ : decide (3 < ad.length) = true := decide_eq_true (by omega)
          clear c18
          simp only [Option.some.injEq, Prod.mk.injEq] at H
          obtain ⟨rfl, rfl, rfl, rfl⟩ := H
          have p369 : 0 ≤ (ak : Int) := od_
          have q369 : ak < (ar.length : Int) := od_
          obtain ⟨ad369, e369, aQ⟩ := Kd.at_string (Kd.R_reads' aq.out).2.2 ak p369 q369
          cases e369
          replace p369 := eq_true p369
          replace q369 := eq_true q369
          go_wp2_with (first | ((with_reducible refine gate_callee (f := 102) rfl ?_); refine gl_ (some 29) Tryz.func102 #[.string (rdOf ByteArray.empty ar ak)] ?_; (with_reducible refine (strconv_Atoi.calls (rdOf ByteArray.empty ar ak) aR none _ ?s1 A17.out).mono ?_); (case s1 => exact GWb.below HG.out (tb_ HB.out)); rintro e gc ⟨N_, rfl, hb⟩; refine ⟨_, rfl, ?_⟩; replace aj := rb_ aj hb; replace aq := rb_ aq hb; replace ab := rb_ ab hb; replace ac := bb_ ac hb; replace aa := bb_ aa hb; replace HB := bs_ HB hb; (try clear hb); (try clear hb2); (try clear hk); (try clear hi); (try simp only [errW_none, errW_some, Option.map_none, Option.map_some]); have df := ao.out; have dg := an.out; have a3 := cz_ aa 0; have a4 := cz_ aa 1; have a5 := cz_ aa 2; have a6 := blk_frozen aa.out 0; have a7 := blk_frozen aa.out 1; have a8 := blk_frozen aa.out 2; obtain ⟨eR, eS, cX⟩ := Kd.R_slice ab.out; subst cX; have a9 := cz_ ac 0; have bb := cz_ ac 1; have bc := cz_ ac 2; have bd := blk_frozen ac.out 0; have be := blk_frozen ac.out 1; have bf := blk_frozen ac.out 2))
          refine bodyPost_ret (results_ct rfl _ _ au 39 #[.slice none 0 0, .int .i64 0, .slice none 0 0] (0, 0) _ rfl (ps_ ac.out) Tryz.underlying39 rfl (by kernel_rfl)) rfl ?_
          exact ⟨_, _, tw_, by first | exact Kd.R_nil _ _ _ _ _ | exact Kd.N_nil _ _ _ _ _ | exact Kd.V_nil _ _ _ _ _ | exact Kd.Q_nil _ _ _ _ _ | exact Kd.S_nil _ _ _ _ _, by first | exact Kd.R_nil _ _ _ _ _ | exact Kd.N_nil _ _ _ _ _ | exact Kd.V_nil _ _ _ _ _ | exact Kd.Q_nil _ _ _ _ _ | exact Kd.S_nil _ _ _ _ _, (tb_ HB.out)⟩
         ·
          rw [if_neg c18] at H
          have cI : decide (3 < (ad.length : Int)) = false := decide_eq_false c18
          have cJ : decide (3 < ad.length) = false := decide_eq_false (by omega)
          clear c18
          by_cases c24 : ad.length < 17592186044416
          ·
           rw [if_pos c24] at H
           have dh := Aside0.mk c24
           clear c24
           obtain ⟨bm, bp⟩ : ∃ y_ : List Int, y_ = (ad ++ [aR]) := ⟨_, rfl⟩
           replace H : (impl_ReadPlace.l0 k1 a0 af ar (ar.length : Int) (wrap64 (ak + 1)) bm 0) = some (r1, r2, r3, r4) := yq_ bp H
           have di := Aside0.mk bp
           clear bp
           have H' := Aside0.mk H
           clear H
           have p369 : 0 ≤ (ak : Int) := od_
           have q369 : ak < (ar.length : Int) := od_
           obtain ⟨ad369, e369, aQ⟩ := Kd.at_string (Kd.R_reads' aq.out).2.2 ak p369 q369
           cases e369
           replace p369 := eq_true p369
           replace q369 := eq_true q369
           go_wp2_with (first | ((with_reducible refine gate_callee (f := 102) rfl ?_); refine gl_ (some 29) Tryz.func102 #[.string (rdOf ByteArray.empty ar ak)] ?_; (with_reducible refine (strconv_Atoi.calls (rdOf ByteArray.empty ar ak) aR none _ ?s1 A17.out).mono ?_); (case s1 => exact GWb.below HG.out (tb_ HB.out)); rintro e gd ⟨N_, rfl, hb⟩; refine ⟨_, rfl, ?_⟩; replace aj := rb_ aj hb; replace aq := rb_ aq hb; replace ab := rb_ ab hb; replace ac := bb_ ac hb; replace aa := bb_ aa hb; replace HB := bs_ HB hb; (try clear hb); (try clear hb2); (try clear hk); (try clear hi); (try simp only [errW_none, errW_some, Option.map_none, Option.map_some]); have fn := ao.out; have fo := an.out; have bE := cz_ aa 0; have bF := cz_ aa 1; have bG := cz_ aa 2; have bH := blk_frozen aa.out 0; have bI := blk_frozen aa.out 1; have bJ := blk_frozen aa.out 2; obtain ⟨cY, cZ, c0⟩ := Kd.R_slice ab.out; subst c0) | ((with_reducible refine gate_builtin (b := .append) (xs := #[.tmp 42, .tmp 44]) rfl ?_); (try (refine gate_guard (by rfl) ?_; dsimp only)); at_builtin; refine Kd.R_append (Kd.int .i64) (w0 := w) w.heap.size rfl (.tmp 42) (.tmp 44) 37 3 (.int .i64 0) 8 rfl Tryz.underlying37 info3 rfl (by decide) (by omega) (.slice cY ad.length cZ) ad aR [.int .i64 aR] (fun _ => True) (fun _ => False) rfl rfl ?aP (fun _ hk => hk.elim) ?aF ?aO ?aB ?aS ?aL ?_; (case aP => exact rfl); (case aB => exact (tb_ HB.out)); (case aF => exact (fun _ _ => trivial)); (case aO => exact (rR_ ab.out)); (case aS => exact (below_size (tb_ HB.out))); (case aL => have := dh.out; omega); intro fR gf ho hb hg hat; rw [← di.out] at ho; replace aj := Aside0.mk (Kd.R_over' (rR_ aj.out) (Kd.R_typed (rR_ ab.out)) (by decide) hg); replace aq := Aside0.mk (Kd.R_over' (rR_ aq.out) (Kd.R_typed (rR_ ab.out)) (by decide) hg); replace ac := bg_ ac hg (Kd.R_ne ab.out ac.out (by decide)); replace aa := bg_ aa hg (Kd.R_ne ab.out aa.out (by decide)); replace HB := Aside0.mk (hb); have cK := Aside0.mk (ho); clear ab ho hb hg hat; obtain ⟨bK, bL, eT⟩ := Kd.R_slice cK.out; subst eT; have bM := cz_ aa 0; have bN := cz_ aa 1; have bO := cz_ aa 2; have bP := blk_frozen aa.out 0; have bQ := blk_frozen aa.out 1; have bR := blk_frozen aa.out 2))
           go_roundg k1
           case measure => have := HK1.out; omega
           case rel => exact ⟨(wrap64 (ak + 1)), (aG), (bm), (.slice bK bm.length bL), tx_, H', ⟨by have := HK1.out; omega⟩, ⟨by refine qR_ ?_; exact Kd.R_mono (Kd.R_far (p := ⟨ah, 0, none⟩) (Kd.R_types aj.out aa.out (by decide)) (fun _ hk => hk.2) (.slice bK bm.length bL)) (fun _ hk => hk.1)⟩, ⟨by refine qR_ ?_; exact Kd.R_mono (Kd.R_far (p := ⟨ah, 0, none⟩) (Kd.R_types aq.out aa.out (by decide)) (fun _ hk => hk.2) (.slice bK bm.length bL)) (fun _ hk => hk.1)⟩, ⟨by refine qR_ ?_; exact Kd.R_mono (Kd.R_far (p := ⟨ah, 0, none⟩) (Kd.R_types cK.out aa.out (by decide)) (fun _ hk => hk.2) (.slice bK bm.length bL)) (fun _ hk => trivial)⟩, ⟨tk_ ac.out⟩, ⟨by refine bq_ ?_; refine blk_put (cs := #[.slice cY ad.length cZ, .int .i64 0, .slice none 0 0]) ?_ 0 _ rfl; exact tk_ aa.out⟩, ⟨(tb_ HB.out)⟩⟩
          ·
           rw [if_neg c24] at H
           exact absurd H (by simp)
        ·
         have H1 : (some (([] : List Int), 0, ([] : List Int), false)) = some (r1, r2, r3, r4) := by rw [if_neg (show ¬ (some q372).isNone = true by simp)] at H; exact H
         clear H
         have H := H1
         clear H1
         try simp only [errW_none, errW_some, Option.map_none, Option.map_some]
         simp only [Option.some.injEq, Prod.mk.injEq] at H
         obtain ⟨rfl, rfl, rfl, rfl⟩ := H
         have p369 : 0 ≤ (ak : Int) := od_
         have q369 : ak < (ar.length : Int) := od_
         obtain ⟨ad369, e369, aQ⟩ := Kd.at_string (Kd.R_reads' aq.out).2.2 ak p369 q369
         cases e369
         replace p369 := eq_true p369
         replace q369 := eq_true q369
         go_wp2_with (first | ((with_reducible refine gate_callee (f := 102) rfl ?_); refine gl_ (some 29) Tryz.func102 #[.string (rdOf ByteArray.empty ar ak)] ?_; (with_reducible refine (strconv_Atoi.calls (rdOf ByteArray.empty ar ak) aR (some q372) _ ?s1 A17.out).mono ?_); (case s1 => exact GWb.below HG.out (tb_ HB.out)); rintro e gg ⟨N_, rfl, hb⟩; refine ⟨_, rfl, ?_⟩; replace aj := rb_ aj hb; replace aq := rb_ aq hb; replace ab := rb_ ab hb; replace ac := bb_ ac hb; replace aa := bb_ aa hb; replace HB := bs_ HB hb; (try clear hb); (try clear hb2); (try clear hk); (try clear hi); (try simp only [errW_none, errW_some, Option.map_none, Option.map_some]); have fp := an.out; have fq := ao.out; have bg := cz_ ac 0; have bh := cz_ ac 1; have bi := cz_ ac 2; have bj := blk_frozen ac.out 0; have bk := blk_frozen ac.out 1; have bl := blk_frozen ac.out 2))
         refine bodyPost_ret (results_ct rfl _ _ au 39 #[.slice none 0 0, .int .i64 0, .slice none 0 0] (0, 0) _ rfl (ps_ ac.out) Tryz.underlying39 rfl (by kernel_rfl)) rfl ?_
         exact ⟨_, _, tw_, by first | exact Kd.R_nil _ _ _ _ _ | exact Kd.N_nil _ _ _ _ _ | exact Kd.V_nil _ _ _ _ _ | exact Kd.Q_nil _ _ _ _ _ | exact Kd.S_nil _ _ _ _ _, by first | exact Kd.R_nil _ _ _ _ _ | exact Kd.N_nil _ _ _ _ _ | exact Kd.V_nil _ _ _ _ _ | exact Kd.Q_nil _ _ _ _ _ | exact Kd.S_nil _ _ _ _ _, (tb_ HB.out)⟩
       ·
        rw [if_neg c16] at H
        exact absurd H (by simp)
      ·
       rw [if_neg c15] at H
       exact absurd H (by simp)
     ·
      rw [if_neg c14] at H
      have cH : decide (ak < (ar.length : Int)) = false := decide_eq_false c14
      clear c14
      by_cases c35 : 1 < (af.length : Int)
      ·
       rw [if_pos c35] at H
       have dj : decide (1 < (af.length : Int)) = true := decide_eq_true c35
       have dk : decide (1 < af.length) = true := decide_eq_true (by omega)
       clear c35
       obtain ⟨⟨ap, c7⟩, A36, H⟩ := bnd_ H
       try dsimp only at H
       by_cases c37 : 2 < (af.length : Int)
       ·
        rw [if_pos c37] at H
        have dl : decide (2 < (af.length : Int)) = true := decide_eq_true c37
        have dm : decide (2 < af.length) = true := decide_eq_true (by omega)
        clear c37
        by_cases c38 : (rdOf ByteArray.empty af 2).toList = ([46] : List UInt8)
        ·
         rw [if_pos c38] at H
         have cL : ((rdOf ByteArray.empty af 2).toList == ([46] : List UInt8)) = true := beq_iff_eq.mpr c38
         have cM : ((rdOf ByteArray.empty af 2).toList != ([46] : List UInt8)) = false := bne_eq_false_iff_eq.mpr c38
         clear c38
         obtain ⟨aM, A39, H⟩ := bnd_ H
         try dsimp only at H
         by_cases c40 : aM.toList = a0.toList
         ·
          rw [if_pos c40] at H
          have cN : (aM.toList == a0.toList) = true := beq_iff_eq.mpr c40
          have cO : (aM.toList != a0.toList) = false := bne_eq_false_iff_eq.mpr c40
          clear c40
          simp only [Option.some.injEq, Prod.mk.injEq] at H
          obtain ⟨rfl, rfl, rfl, rfl⟩ := H
          have p376 : 0 ≤ (1 : Int) := (by omega)
          have q376 : 1 < (af.length : Int) := od_
          obtain ⟨ad376, e376, aA⟩ := Kd.at_string (Kd.R_reads' aj.out).2.2 1 p376 q376
          obtain rfl : ad365 = ad376 := (by injection e376)
          (try simp only [show (1 : Int).toNat = 1 from rfl, Nat.reduceMul, Nat.reduceEqDiff, Go.Addr.add, ↓reduceIte] at aA)
          have cP : (1 < af.length) = True := eq_true (by omega)
          (try rw [show ((1 : Int)).toNat = 1 from rfl] at aA)
          replace p376 := eq_true p376
          replace q376 := eq_true q376
          go_wp2_with (first | ((with_reducible refine gate_callee (f := 102) rfl ?_); refine gl_ (some 52) Tryz.func102 #[.string (rdOf ByteArray.empty af 1)] ?_; (with_reducible refine (strconv_Atoi.calls (rdOf ByteArray.empty af 1) ap c7 _ ?s1 A36.out).mono ?_); (case s1 => exact GWb.below HG.out (tb_ HB.out)); rintro e gh ⟨N_, rfl, hb⟩; refine ⟨_, rfl, ?_⟩; replace aj := rb_ aj hb; replace aq := rb_ aq hb; replace ab := rb_ ab hb; replace ac := bb_ ac hb; replace aa := bb_ aa hb; replace HB := bs_ HB hb; (try clear hb); (try clear hb2); (try clear hk); (try clear hi); (try simp only [errW_none, errW_some, Option.map_none, Option.map_some]); have fr := ao.out; have fs := an.out; have bS := cz_ aa 0; have bU := cz_ aa 1; have bV := cz_ aa 2; have bW := blk_frozen aa.out 0; have bX := blk_frozen aa.out 1; have bZ := blk_frozen aa.out 2; have p379 : 0 ≤ (2 : Int) := (by omega); have q379 : 2 < (af.length : Int) := od_; obtain ⟨ad379, e379, am⟩ := Kd.at_string (Kd.R_reads' aj.out).2.2 2 p379 q379; obtain rfl : ad365 = ad379 := (by injection e379); (try simp only [show (2 : Int).toNat = 2 from rfl, Nat.reduceMul, Nat.reduceEqDiff, Go.Addr.add, ↓reduceIte] at am); have cQ : (2 < af.length) = True := eq_true (by omega); (try rw [show ((2 : Int)).toNat = 2 from rfl] at am); have hn379_0 : ad365.block ≠ ah := Kd.own_blk (Kd.R_ne aj.out aa.out (by decide)); replace am := (cell_far (p := ⟨ah, 1, none⟩) (by first | (rw [add_block]; exact hn379_0) | (show (Addr.add _ _).block ≠ _; rw [add_block]; exact hn379_0) | exact hn379_0) (.int .i64 ap)).trans am; clear hn379_0; replace p379 := eq_true p379; replace q379 := eq_true q379; obtain ⟨b0, bq, eU⟩ := Kd.R_slice ab.out; subst eU) | ((with_reducible refine gate_callee (f := 44) rfl ?_); refine gl_ (some 81) Tryz.func44 #[.agg #[.slice b0 ad.length bq, .int .i64 ap, .slice none 0 0]] ?_; (refine (impl_PlaceText.calls k1 _ _ ad ap _ _ ([] : List Int) aM _ ?s1 ?s2 ?s3 ?s4 ?s5 A39.out).mono ?_); (case s1 => refine (Kd.R_reads' (e := 3) (base := w.heap.size) (ok := fun k_ => True) (n := ad.length) (c := bq) ?_).2.2; exact (by refine qR_ ?_; exact (Kd.R_mono (Kd.R_far (p := ⟨ah, 1, none⟩) (Kd.R_types ab.out aa.out (by decide)) (fun _ hk => hk.2) (.int .i64 ap)) (fun _ h_ => h_.1)))); (case s2 => exact (Kd.R_reads' ab.out).2.1); (case s3 => exact Kd.C_nil _ _); (case s4 => exact Nat.le_refl _); (case s5 => exact GWb.below HG.out (tb_ HB.out)); rintro e gi ⟨rfl, hb⟩; refine ⟨_, rfl, ?_⟩; replace aj := Aside0.mk (Kd.R_below (by refine qR_ ?_; exact (Kd.R_mono (Kd.R_far (p := ⟨ah, 1, none⟩) (Kd.R_types aj.out aa.out (by decide)) (fun _ hk => hk.2) (.int .i64 ap)) (fun _ h_ => h_.1))) hb); replace aq := Aside0.mk (Kd.R_below (by refine qR_ ?_; exact (Kd.R_mono (Kd.R_far (p := ⟨ah, 1, none⟩) (Kd.R_types aq.out aa.out (by decide)) (fun _ hk => hk.2) (.int .i64 ap)) (fun _ h_ => h_.1))) hb); replace ab := Aside0.mk (Kd.R_below (by refine qR_ ?_; exact (Kd.R_mono (Kd.R_far (p := ⟨ah, 1, none⟩) (Kd.R_types ab.out aa.out (by decide)) (fun _ hk => hk.2) (.int .i64 ap)) (fun _ h_ => h_.1))) hb); replace ac := bb_ ac hb; replace aa := Aside0.mk (blk_below (g := ah) (o := .cells #[.slice b0 ad.length bq, .int .i64 ap, .slice none 0 0] 39 (0, 0)) (ps_ aa.out) hb); replace HB := bs_ HB hb; (try clear hb); (try clear hb2); (try clear hk); (try clear hi); have b1 := cz_ aa 0; have b2 := cz_ aa 1; have b3 := cz_ aa 2; have b4 := blk_frozen aa.out 0; have b5 := blk_frozen aa.out 1; have b6 := blk_frozen aa.out 2; have b7 := cz_ ac 0; have b8 := cz_ ac 1; have b9 := cz_ ac 2; have ca := blk_frozen ac.out 0; have cb := blk_frozen ac.out 1; have cc := blk_frozen ac.out 2))
          refine bodyPost_ret (results_ct rfl _ _ au 39 #[.slice b0 ad.length bq, .int .i64 ap, .slice none 0 0] (0, 0) _ rfl (ps_ ac.out) Tryz.underlying39 rfl (by kernel_rfl)) rfl ?_
          exact ⟨_, _, tw_, by refine qR_ ?_; exact Kd.R_mono (Kd.R_far (p := ⟨au, 2, none⟩) (Kd.R_far (p := ⟨au, 1, none⟩) (Kd.R_far (p := ⟨au, 0, none⟩) (Kd.R_types ab.out ac.out (by decide)) (fun _ hk => hk.2) (.slice b0 ad.length bq)) (fun _ hk => hk.2) (.int .i64 ap)) (fun _ hk => hk.2) (.slice none 0 0)) (fun _ hk => (by simp [Value.ownBlock])), by first | exact Kd.R_nil _ _ _ _ _ | exact Kd.N_nil _ _ _ _ _ | exact Kd.V_nil _ _ _ _ _ | exact Kd.Q_nil _ _ _ _ _ | exact Kd.S_nil _ _ _ _ _, (tb_ HB.out)⟩
         ·
          rw [if_neg c40] at H
          have cN : (aM.toList == a0.toList) = false := beq_eq_false_iff_ne.mpr c40
          have cO : (aM.toList != a0.toList) = true := bne_iff_ne.mpr c40
          simp only [Option.some.injEq, Prod.mk.injEq] at H
          obtain ⟨rfl, rfl, rfl, rfl⟩ := H
          have p376 : 0 ≤ (1 : Int) := (by omega)
          have q376 : 1 < (af.length : Int) := od_
          obtain ⟨ad376, e376, aA⟩ := Kd.at_string (Kd.R_reads' aj.out).2.2 1 p376 q376
          obtain rfl : ad365 = ad376 := (by injection e376)
          (try simp only [show (1 : Int).toNat = 1 from rfl, Nat.reduceMul, Nat.reduceEqDiff, Go.Addr.add, ↓reduceIte] at aA)
          have cP : (1 < af.length) = True := eq_true (by omega)
          (try rw [show ((1 : Int)).toNat = 1 from rfl] at aA)
          replace p376 := eq_true p376
          replace q376 := eq_true q376
          go_wp2_with (first | ((with_reducible refine gate_callee (f := 102) rfl ?_); refine gl_ (some 52) Tryz.func102 #[.string (rdOf ByteArray.empty af 1)] ?_; (with_reducible refine (strconv_Atoi.calls (rdOf ByteArray.empty af 1) ap c7 _ ?s1 A36.out).mono ?_); (case s1 => exact GWb.below HG.out (tb_ HB.out)); rintro e gj ⟨N_, rfl, hb⟩; refine ⟨_, rfl, ?_⟩; replace aj := rb_ aj hb; replace aq := rb_ aq hb; replace ab := rb_ ab hb; replace ac := bb_ ac hb; replace aa := bb_ aa hb; replace HB := bs_ HB hb; (try clear hb); (try clear hb2); (try clear hk); (try clear hi); (try simp only [errW_none, errW_some, Option.map_none, Option.map_some]); have ft := ao.out; have fu := an.out; have cd := cz_ aa 0; have ce := cz_ aa 1; have cf := cz_ aa 2; have cg := blk_frozen aa.out 0; have ch := blk_frozen aa.out 1; have ci := blk_frozen aa.out 2; have p379 : 0 ≤ (2 : Int) := (by omega); have q379 : 2 < (af.length : Int) := od_; obtain ⟨ad379, e379, am⟩ := Kd.at_string (Kd.R_reads' aj.out).2.2 2 p379 q379; obtain rfl : ad365 = ad379 := (by injection e379); (try simp only [show (2 : Int).toNat = 2 from rfl, Nat.reduceMul, Nat.reduceEqDiff, Go.Addr.add, ↓reduceIte] at am); have cQ : (2 < af.length) = True := eq_true (by omega); (try rw [show ((2 : Int)).toNat = 2 from rfl] at am); have hn379_0 : ad365.block ≠ ah := Kd.own_blk (Kd.R_ne aj.out aa.out (by decide)); replace am := (cell_far (p := ⟨ah, 1, none⟩) (by first | (rw [add_block]; exact hn379_0) | (show (Addr.add _ _).block ≠ _; rw [add_block]; exact hn379_0) | exact hn379_0) (.int .i64 ap)).trans am; clear hn379_0; replace p379 := eq_true p379; replace q379 := eq_true q379; obtain ⟨dn, c8, eV⟩ := Kd.R_slice ab.out; subst eV) | ((with_reducible refine gate_callee (f := 44) rfl ?_); refine gl_ (some 81) Tryz.func44 #[.agg #[.slice dn ad.length c8, .int .i64 ap, .slice none 0 0]] ?_; (refine (impl_PlaceText.calls k1 _ _ ad ap _ _ ([] : List Int) aM _ ?s1 ?s2 ?s3 ?s4 ?s5 A39.out).mono ?_); (case s1 => refine (Kd.R_reads' (e := 3) (base := w.heap.size) (ok := fun k_ => True) (n := ad.length) (c := c8) ?_).2.2; exact (by refine qR_ ?_; exact (Kd.R_mono (Kd.R_far (p := ⟨ah, 1, none⟩) (Kd.R_types ab.out aa.out (by decide)) (fun _ hk => hk.2) (.int .i64 ap)) (fun _ h_ => h_.1)))); (case s2 => exact (Kd.R_reads' ab.out).2.1); (case s3 => exact Kd.C_nil _ _); (case s4 => exact Nat.le_refl _); (case s5 => exact GWb.below HG.out (tb_ HB.out)); rintro e gl ⟨rfl, hb⟩; refine ⟨_, rfl, ?_⟩; replace aj := Aside0.mk (Kd.R_below (by refine qR_ ?_; exact (Kd.R_mono (Kd.R_far (p := ⟨ah, 1, none⟩) (Kd.R_types aj.out aa.out (by decide)) (fun _ hk => hk.2) (.int .i64 ap)) (fun _ h_ => h_.1))) hb); replace aq := Aside0.mk (Kd.R_below (by refine qR_ ?_; exact (Kd.R_mono (Kd.R_far (p := ⟨ah, 1, none⟩) (Kd.R_types aq.out aa.out (by decide)) (fun _ hk => hk.2) (.int .i64 ap)) (fun _ h_ => h_.1))) hb); replace ab := Aside0.mk (Kd.R_below (by refine qR_ ?_; exact (Kd.R_mono (Kd.R_far (p := ⟨ah, 1, none⟩) (Kd.R_types ab.out aa.out (by decide)) (fun _ hk => hk.2) (.int .i64 ap)) (fun _ h_ => h_.1))) hb); replace ac := bb_ ac hb; replace aa := Aside0.mk (blk_below (g := ah) (o := .cells #[.slice dn ad.length c8, .int .i64 ap, .slice none 0 0] 39 (0, 0)) (ps_ aa.out) hb); replace HB := bs_ HB hb; (try clear hb); (try clear hb2); (try clear hk); (try clear hi); have cj := cz_ ac 0; have ck := cz_ ac 1; have cl := cz_ ac 2; have cm := blk_frozen ac.out 0; have cn := blk_frozen ac.out 1; have co := blk_frozen ac.out 2))
          refine bodyPost_ret (results_ct rfl _ _ au 39 #[.slice none 0 0, .int .i64 0, .slice none 0 0] (0, 0) _ rfl (ps_ ac.out) Tryz.underlying39 rfl (by kernel_rfl)) rfl ?_
          exact ⟨_, _, tw_, by first | exact Kd.R_nil _ _ _ _ _ | exact Kd.N_nil _ _ _ _ _ | exact Kd.V_nil _ _ _ _ _ | exact Kd.Q_nil _ _ _ _ _ | exact Kd.S_nil _ _ _ _ _, by first | exact Kd.R_nil _ _ _ _ _ | exact Kd.N_nil _ _ _ _ _ | exact Kd.V_nil _ _ _ _ _ | exact Kd.Q_nil _ _ _ _ _ | exact Kd.S_nil _ _ _ _ _, (tb_ HB.out)⟩
        ·
         rw [if_neg c38] at H
         have cL : ((rdOf ByteArray.empty af 2).toList == ([46] : List UInt8)) = false := beq_eq_false_iff_ne.mpr c38
         have cM : ((rdOf ByteArray.empty af 2).toList != ([46] : List UInt8)) = true := bne_iff_ne.mpr c38
         have H' := Aside0.mk H
         clear H
         have p376 : 0 ≤ (1 : Int) := (by omega)
         have q376 : 1 < (af.length : Int) := od_
         obtain ⟨ad376, e376, aA⟩ := Kd.at_string (Kd.R_reads' aj.out).2.2 1 p376 q376
         obtain rfl : ad365 = ad376 := (by injection e376)
         (try simp only [show (1 : Int).toNat = 1 from rfl, Nat.reduceMul, Nat.reduceEqDiff, Go.Addr.add, ↓reduceIte] at aA)
         have cP : (1 < af.length) = True := eq_true (by omega)
         (try rw [show ((1 : Int)).toNat = 1 from rfl] at aA)
         replace p376 := eq_true p376
         replace q376 := eq_true q376
         go_wp2_with (first | ((with_reducible refine gate_callee (f := 102) rfl ?_); refine gl_ (some 52) Tryz.func102 #[.string (rdOf ByteArray.empty af 1)] ?_; (with_reducible refine (strconv_Atoi.calls (rdOf ByteArray.empty af 1) ap c7 _ ?s1 A36.out).mono ?_); (case s1 => exact GWb.below HG.out (tb_ HB.out)); rintro e gm ⟨N_, rfl, hb⟩; refine ⟨_, rfl, ?_⟩; replace aj := rb_ aj hb; replace aq := rb_ aq hb; replace ab := rb_ ab hb; replace ac := bb_ ac hb; replace aa := bb_ aa hb; replace HB := bs_ HB hb; (try clear hb); (try clear hb2); (try clear hk); (try clear hi); (try simp only [errW_none, errW_some, Option.map_none, Option.map_some]); have fv := ao.out; have fw := an.out; have cp := cz_ aa 0; have cq := cz_ aa 1; have cr := cz_ aa 2; have ct := blk_frozen aa.out 0; have cu := blk_frozen aa.out 1; have cv := blk_frozen aa.out 2; have p379 : 0 ≤ (2 : Int) := (by omega); have q379 : 2 < (af.length : Int) := od_; obtain ⟨ad379, e379, am⟩ := Kd.at_string (Kd.R_reads' aj.out).2.2 2 p379 q379; obtain rfl : ad365 = ad379 := (by injection e379); (try simp only [show (2 : Int).toNat = 2 from rfl, Nat.reduceMul, Nat.reduceEqDiff, Go.Addr.add, ↓reduceIte] at am); have cQ : (2 < af.length) = True := eq_true (by omega); (try rw [show ((2 : Int)).toNat = 2 from rfl] at am); have hn379_0 : ad365.block ≠ ah := Kd.own_blk (Kd.R_ne aj.out aa.out (by decide)); replace am := (cell_far (p := ⟨ah, 1, none⟩) (by first | (rw [add_block]; exact hn379_0) | (show (Addr.add _ _).block ≠ _; rw [add_block]; exact hn379_0) | exact hn379_0) (.int .i64 ap)).trans am; clear hn379_0; replace p379 := eq_true p379; replace q379 := eq_true q379; have p381 : 0 ≤ (2 : Int) := (by omega); have q381 : 2 < (af.length : Int) := od_; obtain ⟨ad381, e381, aI⟩ := Kd.at_string (Kd.R_reads' aj.out).2.2 2 p381 q381; obtain rfl : ad365 = ad381 := (by injection e381); (try simp only [show (2 : Int).toNat = 2 from rfl, Nat.reduceMul, Nat.reduceEqDiff, Go.Addr.add, ↓reduceIte] at aI); have fx : (2 < af.length) = True := eq_true (by omega); (try rw [show ((2 : Int)).toNat = 2 from rfl] at aI); have hn381_0 : ad365.block ≠ ah := Kd.own_blk (Kd.R_ne aj.out aa.out (by decide)); replace aI := (cell_far (p := ⟨ah, 1, none⟩) (by first | (rw [add_block]; exact hn381_0) | (show (Addr.add _ _).block ≠ _; rw [add_block]; exact hn381_0) | exact hn381_0) (.int .i64 ap)).trans aI; clear hn381_0; replace p381 := eq_true p381; replace q381 := eq_true q381))
         go_loopg [64] k1 (fun kq fS w' => ∃ (av : Int) (ai : List Int) (u365002 : Value), fS = .int .i64 av ∧ Aside0 (impl_ReadPlace.l1 kq a0 af ((rdOf ByteArray.empty af 2).size : Int) av ad ap ai = some (r1, r2, r3, r4)) ∧ Aside0 (kq ≤ k1) ∧ Aside0 (Kd.R Kd.string 9 w' w.heap.size (fun _ => True) (.slice (some ad365) af.length co8) af) ∧ Aside0 (Kd.R (Kd.int .i64) 3 w' w.heap.size (fun k_ => some k_ ≠ (u365002 : Value).ownBlock) u365000 ad) ∧ Aside0 (Kd.R (Kd.int .i64) 3 w' w.heap.size (fun k_ => some k_ ≠ (u365000 : Value).ownBlock) u365002 ai) ∧ Aside0 (w'.heap[au]? = some (.cells #[(.slice none 0 0), .int .i64 aG, (.slice none 0 0)] 39 (0, 0))) ∧ Aside0 (w'.heap[ah]? = some (.cells #[u365000, .int .i64 ap, u365002] 39 (0, 0))) ∧ Aside0 (Below w.heap.size w w'))
         case atStart => exact ⟨(0), (([] : List Int)), (.slice none 0 0), tx_, H', ⟨Nat.le_refl _⟩, ⟨by refine qR_ ?_; exact Kd.R_mono (Kd.R_far (p := ⟨ah, 1, none⟩) (Kd.R_types aj.out aa.out (by decide)) (fun _ hk => hk.2) (.int .i64 ap)) (fun _ hk => trivial)⟩, ⟨by refine qR_ ?_; exact Kd.R_mono (Kd.R_far (p := ⟨ah, 1, none⟩) (Kd.R_types ab.out aa.out (by decide)) (fun _ hk => hk.2) (.int .i64 ap)) (fun _ hk => (by simp [Value.ownBlock]))⟩, ⟨by first | exact Kd.R_nil _ _ _ _ _ | exact Kd.N_nil _ _ _ _ _ | exact Kd.V_nil _ _ _ _ _ | exact Kd.Q_nil _ _ _ _ _ | exact Kd.S_nil _ _ _ _ _⟩, ⟨tk_ ac.out⟩, ⟨by refine bq_ ?_; refine blk_put (cs := #[u365000, .int .i64 0, .slice none 0 0]) ?_ 1 _ rfl; exact tk_ aa.out⟩, ⟨(tb_ HB.out)⟩⟩
         case round =>
          clear H'
          try clear c1
          try clear c2
          try clear p2
          try clear c3
          try clear cS
          try clear cT
          try clear p3
          try clear q3
          try clear hx3
          try clear fQ
          try clear c4
          try clear bC
          try clear bD
          try clear c5
          try clear c6
          try clear p6
          try clear c10
          try clear c14
          try clear cH
          try clear c15
          try clear dd
          try clear c16
          try clear de
          try clear c18
          try clear cI
          try clear cJ
          try clear c20
          try clear c24
          try clear c26
          try clear c33
          try clear c35
          try clear dj
          try clear dk
          try clear p36
          try clear q36
          try clear hx36
          try clear fT
          try clear c37
          try clear dl
          try clear dm
          try clear p37
          try clear q37
          try clear hx37
          try clear fU
          try clear c38
          try clear cL
          try clear cM
          try clear p38
          try clear q38
          try clear hx38
          try clear fV
          try clear c40
          try clear cN
          try clear cO
          try clear c42
          try clear c44
          try clear c49
          try clear c55
          try clear aU
          try clear aV
          try clear aW
          try clear a3
          try clear a4
          try clear a5
          try clear a9
          try clear bb
          try clear bc
          try clear bE
          try clear bF
          try clear bG
          try clear bM
          try clear bN
          try clear bO
          try clear bg
          try clear bh
          try clear bi
          try clear bS
          try clear bU
          try clear bV
          try clear b1
          try clear b2
          try clear b3
          try clear b7
          try clear b8
          try clear b9
          try clear cd
          try clear ce
          try clear cf
          try clear cj
          try clear ck
          try clear cl
          try clear cp
          try clear cq
          try clear cr
          try clear aX
          try clear aY
          try clear aZ
          try clear a6
          try clear a7
          try clear a8
          try clear bd
          try clear be
          try clear bf
          try clear bH
          try clear bI
          try clear bJ
          try clear bP
          try clear bQ
          try clear bR
          try clear bj
          try clear bk
          try clear bl
          try clear bW
          try clear bX
          try clear bZ
          try clear b4
          try clear b5
          try clear b6
          try clear ca
          try clear cb
          try clear cc
          try clear cg
          try clear ch
          try clear ci
          try clear cm
          try clear cn
          try clear co
          try clear ct
          try clear cu
          try clear cv
          try clear az
          try clear aQ
          try clear aA
          try clear am
          try clear aI
          try clear p2
          try clear p3
          try clear p365
          try clear p369
          try clear p376
          try clear p379
          try clear p381
          try clear q3
          try clear q365
          try clear q369
          try clear q372
          try clear q376
          try clear q379
          try clear q381
          obtain ⟨av, ai, u365002, rfl, HA, HK2, aj, ab, ag, ac, aa, HB⟩ := hrel
          cases gk with
          | zero => exact absurd HA.out (by simp [impl_ReadPlace.l1])
          | succ k2 =>
           have H := HA.out
           clear HA
           simp only [impl_ReadPlace.l1] at H
           by_cases c57 : av < ((rdOf ByteArray.empty af 2).size : Int)
           ·
            rw [if_pos c57] at H
            have dp : decide (av < ((rdOf ByteArray.empty af 2).size : Int)) = true := decide_eq_true c57
            clear c57
            by_cases c58 : 2 < (af.length : Int)
            ·
             rw [if_pos c58] at H
             have fy : decide (2 < (af.length : Int)) = true := decide_eq_true c58
             have fz : decide (2 < af.length) = true := decide_eq_true (by omega)
             clear c58
             by_cases c59 : 0 ≤ av
             ·
              rw [if_pos c59] at H
              have fA : decide (0 ≤ av) = true := decide_eq_true c59
              clear c59
              by_cases c60 : av < ((rdOf ByteArray.empty af 2).size : Int)
              ·
               rw [if_pos c60] at H
               have fB : decide (av < ((rdOf ByteArray.empty af 2).size : Int)) = true := decide_eq_true c60
               clear c60
               by_cases c62 : ai.length < 17592186044416
               ·
                rw [if_pos c62] at H
                have dq := Aside0.mk c62
                clear c62
                obtain ⟨bn, br⟩ : ∃ y_ : List Int, y_ = (ai ++ [wrap64 ((wrap64 (bt (rdOf ByteArray.empty af 2) av)) - 97)]) := ⟨_, rfl⟩
                replace H : (impl_ReadPlace.l1 k2 a0 af ((rdOf ByteArray.empty af 2).size : Int) (wrap64 (av + 1)) ad ap bn) = some (r1, r2, r3, r4) := yq_ br H
                have dr := Aside0.mk br
                clear br
                have H' := Aside0.mk H
                clear H
                try go_wp2
                replace aj := rd_ aj
                replace ab := rd_ ab
                replace ag := rd_ ag
                replace ac := dB_ ac
                replace aa := dB_ aa
                replace HB := Aside0.mk (ld_ HB.out)
                have p382 : 0 ≤ (2 : Int) := (by omega)
                have q382 : 2 < (af.length : Int) := od_
                obtain ⟨ad382, e382, aK⟩ := Kd.at_string (Kd.R_reads' aj.out).2.2 2 p382 q382
                obtain rfl : ad365 = ad382 := (by injection e382)
                (try simp only [show (2 : Int).toNat = 2 from rfl, Nat.reduceMul, Nat.reduceEqDiff, Go.Addr.add, ↓reduceIte] at aK)
                have fC : (2 < af.length) = True := eq_true (by omega)
                (try rw [show ((2 : Int)).toNat = 2 from rfl] at aK)
                replace p382 := eq_true p382
                replace q382 := eq_true q382
                have p61 : 0 ≤ (av : Int) := od_
                have q61 : av < ((rdOf ByteArray.empty af 2).size : Int) := od_
                have hx61 := bt_at (rdOf ByteArray.empty af 2) av
                replace p61 := eq_true p61
                replace q61 := eq_true q61
                refine start_ (n := 13) (S := fun w' => w'.cell? ⟨ah, 0, none⟩ = some (u365000) ∧ w'.cell? ⟨ah, 1, none⟩ = some (.int .i64 ap) ∧ w'.cell? ⟨ah, 2, none⟩ = some (u365002) ∧ w'.cell? ⟨ad365.block, ad365.off + 2, none⟩ = some (.string (rdOf ByteArray.empty af 2))) (ds := [10, 12]) #[false, false, false, false, false, false, false, false, false, false, false, false, false] (by kernel_rfl) rfl rfl ⟨(blk_cell aa.out 0).trans rfl, (blk_cell aa.out 1).trans rfl, (blk_cell aa.out 2).trans rfl, aK⟩ (fun hHeld => ?_); refine with_tabW impl_ReadPlace.tab18 impl_ReadPlace.bits18 (fun HT_ HW_ => ?_)
                generalize wr.drew = gn at aj ab ag ac aa HB aK hHeld ⊢
                refine pu_ 0 (some 67) #[true, false, false, false, false, false, false, false, false, false, false, false, false] HT_ rfl rfl ?_
                refine pu_ 2 (some 69) #[true, false, true, false, false, false, false, false, false, false, false, false, false] HT_ rfl rfl ?_
                refine pu_ 3 (some 70) #[true, false, true, true, false, false, false, false, false, false, false, false, false] HT_ rfl rfl ?_
                refine pu_ 5 (some 72) #[true, false, true, true, false, true, false, false, false, false, false, false, false] HT_ rfl rfl ?_
                refine ta_ 1 (some 68) #[true, true, true, true, false, true, false, false, false, false, false, false, false] HT_ HW_ hHeld rfl rfl ?_
                refine ta_ 4 (some 71) #[true, true, true, true, true, true, false, false, false, false, false, false, false] HT_ HW_ hHeld rfl rfl ?_
                refine ta_ 6 (some 73) #[true, true, true, true, true, true, true, false, false, false, false, false, false] HT_ HW_ hHeld rfl rfl ?_
                refine pu_ 7 (some 74) #[true, true, true, true, true, true, true, true, false, false, false, false, false] HT_ rfl rfl ?_
                refine pu_ 8 (some 75) #[true, true, true, true, true, true, true, true, true, false, false, false, false] HT_ rfl rfl ?_
                refine one_ (i := 9) (N := some 76) #[true, true, true, true, true, true, true, true, true, true, false, false, false] rfl rfl (one_of HT_.out (by kernel_rfl)) (by decide) (fun K hK => ?_)
                refine va_ rfl ?_
                refine hK.out _ _ ⟨(blk_cell (blk_alloc aa.out _) 0).trans rfl, (blk_cell (blk_alloc aa.out _) 1).trans rfl, (blk_cell (blk_alloc aa.out _) 2).trans rfl, (World.cell?_alloc_lt _ _ _ (World.block_lt_of_cell? _ _ (hHeld.2.2.2))).trans (hHeld.2.2.2)⟩ (fun hHeld => ?_)
                clear hK K
                refine nr_ 76 ?_
                refine last_ (i := 10) (N := some 77) #[true, true, true, true, true, true, true, true, true, true, true, false, false] rfl rfl (one_of HT_.out (by kernel_rfl)) (by decide) (fun K hK => ?_)
                refine Kd.R_append_step (Kd.int .i64) (w0 := w) w.heap.size (by rfl) (.tmp 68) (.tmp 76) 37 3 (.int .i64 0) 8 rfl Tryz.underlying37 info3 rfl (by decide) (by omega) u365002 ai (wrap64 ((wrap64 (bt (rdOf ByteArray.empty af 2) av)) - 97)) [.int .i64 (wrap64 ((wrap64 (bt (rdOf ByteArray.empty af 2) av)) - 97))] (fun k_ => some k_ ≠ (u365000 : Value).ownBlock) (fun _ => False) rfl rfl ?aP (fun _ hk => hk.elim) ?aF ?aO ?aB ?aS ?aL ?_
                (case aP => exact rfl)
                (case aB => exact (tb_ HB.out))
                (case aF => exact (fun k_ hk => Kd.fresh' (Kd.R_lt (rR_ ab.out)) k_ hk))
                (case aO => exact (rR_ ag.out))
                (case aS => exact (below_size (tb_ HB.out)))
                (case aL => have := dq.out; omega)
                intro fW fX ho hb hg hat
                rw [← dr.out] at ho
                replace aj := Aside0.mk (Kd.R_over' (rR_ aj.out) (Kd.R_typed (rR_ ag.out)) (by decide) hg)
                replace ab := Aside0.mk (Kd.R_after (ok := (fun _ => True)) (by refine qR_ ?_; exact Kd.R_mono ab.out (fun _ hk => ⟨trivial, hk⟩)) hg hat)
                replace ac := bg_ ac hg (Kd.R_ne ag.out ac.out (by decide))
                replace aa := bg_ aa hg (Kd.R_ne ag.out aa.out (by decide))
                replace HB := Aside0.mk (hb)
                have cR := Aside0.mk (ho)
                clear ag
                clear ho hb hg hat
                obtain ⟨cw, cx, dt⟩ := Kd.R_slice cR.out
                (first | subst dt | (injection dt with f1_ f2_ f3_; have f4_ := f1_.symm; have f5_ := f3_.symm; clear f1_ f2_ f3_; subst f4_; subst f5_))
                refine hK.out _ _ ?_
                clear hK K
                refine nr_ 77 ?_
                refine pu_ 11 (some 78) #[true, true, true, true, true, true, true, true, true, true, true, true, false] HT_ rfl rfl ?_
                refine last_ (i := 12) (N := none) #[true, true, true, true, true, true, true, true, true, true, true, true, true] rfl rfl (one_of HT_.out (by kernel_rfl)) (by decide) (fun K hK => ?_)
                have hs66 : fX.cell? ⟨ah, 2, none⟩ = some (u365002) := (blk_cell aa.out 2).trans rfl
                have hfs66 := blk_frozen aa.out 2
                have dw := an.out
                have dx := ao.out
                refine sk_ rfl ?_
                refine hK.out _ _ ?_
                clear hK K
                refine done_ (done_of HT_.out (by kernel_rfl)) ?_
                try go_wp2
                go_roundg k2
                case measure => have := HK1.out; have := HK2.out; omega
                case rel => exact ⟨(wrap64 (av + 1)), (bn), (.slice cw bn.length cx), tx_, H', ⟨by have := HK1.out; have := HK2.out; omega⟩, ⟨by refine qR_ ?_; exact Kd.R_mono (Kd.R_far (p := ⟨ah, 2, none⟩) (Kd.R_types aj.out aa.out (by decide)) (fun _ hk => hk.2) (.slice cw bn.length cx)) (fun _ hk => trivial)⟩, ⟨by refine qR_ ?_; exact Kd.R_mono (Kd.R_far (p := ⟨ah, 2, none⟩) (Kd.R_types ab.out aa.out (by decide)) (fun _ hk => hk.2) (.slice cw bn.length cx)) (fun _ hk => hk.1.2)⟩, ⟨by refine qR_ ?_; exact Kd.R_mono (Kd.R_far (p := ⟨ah, 2, none⟩) (Kd.R_types cR.out aa.out (by decide)) (fun _ hk => hk.2) (.slice cw bn.length cx)) (fun _ hk => hk.1)⟩, ⟨tk_ ac.out⟩, ⟨by refine bq_ ?_; refine blk_put (cs := #[u365000, .int .i64 ap, u365002]) ?_ 2 _ rfl; exact tk_ aa.out⟩, ⟨(tb_ HB.out)⟩⟩
               ·
                rw [if_neg c62] at H
                exact absurd H (by simp)
              ·
               rw [if_neg c60] at H
               exact absurd H (by simp)
             ·
              rw [if_neg c59] at H
              exact absurd H (by simp)
            ·
             rw [if_neg c58] at H
             exact absurd H (by simp)
           ·
            rw [if_neg c57] at H
            have dp : decide (av < ((rdOf ByteArray.empty af 2).size : Int)) = false := decide_eq_false c57
            clear c57
            obtain ⟨aN, A67, H⟩ := bnd_ H
            try dsimp only at H
            by_cases c68 : aN.toList = a0.toList
            ·
             rw [if_pos c68] at H
             have du : (aN.toList == a0.toList) = true := beq_iff_eq.mpr c68
             have dv : (aN.toList != a0.toList) = false := bne_eq_false_iff_eq.mpr c68
             clear c68
             simp only [Option.some.injEq, Prod.mk.injEq] at H
             obtain ⟨rfl, rfl, rfl, rfl⟩ := H
             have fD := ao.out
             have fE := an.out
             have dy := cz_ aa 0
             have dz := cz_ aa 1
             have dA := cz_ aa 2
             have dB := blk_frozen aa.out 0
             have dC := blk_frozen aa.out 1
             have dD := blk_frozen aa.out 2
             obtain ⟨cy, cz, eW⟩ := Kd.R_slice ab.out
             subst eW
             obtain ⟨cA, cB, eX⟩ := Kd.R_slice ag.out
             subst eX
             go_wp2_with (first | ((with_reducible refine gate_callee (f := 44) rfl ?_); refine gl_ (some 81) Tryz.func44 #[.agg #[.slice cy ad.length cz, .int .i64 ap, .slice cA ai.length cB]] ?_; (with_reducible refine (impl_PlaceText.calls k2 _ _ ad ap _ _ ai aN _ ?s1 ?s2 ?s3 ?s4 ?s5 A67.out).mono ?_); (case s1 => repeat (first | exact (Kd.R_reads' ab.out).2.2 | (with_reducible refine Kd.C_alloc ?_ _) | (with_reducible refine Kd.C_drewN ?_ _) | (with_reducible refine Kd.C_drew ?_))); (case s2 => exact (Kd.R_reads' ab.out).2.1); (case s3 => repeat (first | exact (Kd.R_reads' ag.out).2.2 | (with_reducible refine Kd.C_alloc ?_ _) | (with_reducible refine Kd.C_drewN ?_ _) | (with_reducible refine Kd.C_drew ?_))); (case s4 => exact (Kd.R_reads' ag.out).2.1); (case s5 => exact GWb.below HG.out (tb_ HB.out)); rintro e go ⟨rfl, hb⟩; refine ⟨_, rfl, ?_⟩; replace aj := rb_ aj hb; replace ab := rb_ ab hb; replace ag := rb_ ag hb; replace ac := bb_ ac hb; replace aa := bb_ aa hb; replace HB := bs_ HB hb; (try clear hb); (try clear hb2); (try clear hk); (try clear hi); have dE := cz_ aa 0; have dF := cz_ aa 1; have dG := cz_ aa 2; have dH := blk_frozen aa.out 0; have dI := blk_frozen aa.out 1; have dJ := blk_frozen aa.out 2; have dK := cz_ ac 0; have dL := cz_ ac 1; have dM := cz_ ac 2; have dN := blk_frozen ac.out 0; have dP := blk_frozen ac.out 1; have dQ := blk_frozen ac.out 2))
             refine bodyPost_ret (results_ct rfl _ _ au 39 #[.slice cy ad.length cz, .int .i64 ap, .slice cA ai.length cB] (0, 0) _ rfl (ps_ ac.out) Tryz.underlying39 rfl (by kernel_rfl)) rfl ?_
             exact ⟨_, _, tw_, by refine qR_ ?_; exact Kd.R_mono (Kd.R_far (p := ⟨au, 2, none⟩) (Kd.R_far (p := ⟨au, 1, none⟩) (Kd.R_far (p := ⟨au, 0, none⟩) (Kd.R_types ab.out ac.out (by decide)) (fun _ hk => hk.2) (.slice cy ad.length cz)) (fun _ hk => hk.2) (.int .i64 ap)) (fun _ hk => hk.2) (.slice cA ai.length cB)) (fun _ hk => hk.1), by refine qR_ ?_; exact Kd.R_mono (Kd.R_far (p := ⟨au, 2, none⟩) (Kd.R_far (p := ⟨au, 1, none⟩) (Kd.R_far (p := ⟨au, 0, none⟩) (Kd.R_types ag.out ac.out (by decide)) (fun _ hk => hk.2) (.slice cy ad.length cz)) (fun _ hk => hk.2) (.int .i64 ap)) (fun _ hk => hk.2) (.slice cA ai.length cB)) (fun _ hk => hk.1), (tb_ HB.out)⟩
            ·
             rw [if_neg c68] at H
             have du : (aN.toList == a0.toList) = false := beq_eq_false_iff_ne.mpr c68
             have dv : (aN.toList != a0.toList) = true := bne_iff_ne.mpr c68
             simp only [Option.some.injEq, Prod.mk.injEq] at H
             obtain ⟨rfl, rfl, rfl, rfl⟩ := H
             have fF := ao.out
             have fG := an.out
             have dR := cz_ aa 0
             have dS := cz_ aa 1
             have dT := cz_ aa 2
             have dU := blk_frozen aa.out 0
             have dV := blk_frozen aa.out 1
             have dW := blk_frozen aa.out 2
             obtain ⟨eY, eZ, e0⟩ := Kd.R_slice ab.out
             subst e0
             obtain ⟨e1, e2, e3⟩ := Kd.R_slice ag.out
             subst e3
             go_wp2_with (first | ((with_reducible refine gate_callee (f := 44) rfl ?_); refine gl_ (some 81) Tryz.func44 #[.agg #[.slice eY ad.length eZ, .int .i64 ap, .slice e1 ai.length e2]] ?_; (with_reducible refine (impl_PlaceText.calls k2 _ _ ad ap _ _ ai aN _ ?s1 ?s2 ?s3 ?s4 ?s5 A67.out).mono ?_); (case s1 => repeat (first | exact (Kd.R_reads' ab.out).2.2 | (with_reducible refine Kd.C_alloc ?_ _) | (with_reducible refine Kd.C_drewN ?_ _) | (with_reducible refine Kd.C_drew ?_))); (case s2 => exact (Kd.R_reads' ab.out).2.1); (case s3 => repeat (first | exact (Kd.R_reads' ag.out).2.2 | (with_reducible refine Kd.C_alloc ?_ _) | (with_reducible refine Kd.C_drewN ?_ _) | (with_reducible refine Kd.C_drew ?_))); (case s4 => exact (Kd.R_reads' ag.out).2.1); (case s5 => exact GWb.below HG.out (tb_ HB.out)); rintro e gp ⟨rfl, hb⟩; refine ⟨_, rfl, ?_⟩; replace aj := rb_ aj hb; replace ab := rb_ ab hb; replace ag := rb_ ag hb; replace ac := bb_ ac hb; replace aa := bb_ aa hb; replace HB := bs_ HB hb; (try clear hb); (try clear hb2); (try clear hk); (try clear hi); have dX := cz_ ac 0; have dY := cz_ ac 1; have dZ := cz_ ac 2; have d0 := blk_frozen ac.out 0; have d1 := blk_frozen ac.out 1; have d2 := blk_frozen ac.out 2))
             refine bodyPost_ret (results_ct rfl _ _ au 39 #[.slice none 0 0, .int .i64 0, .slice none 0 0] (0, 0) _ rfl (ps_ ac.out) Tryz.underlying39 rfl (by kernel_rfl)) rfl ?_
             exact ⟨_, _, tw_, by first | exact Kd.R_nil _ _ _ _ _ | exact Kd.N_nil _ _ _ _ _ | exact Kd.V_nil _ _ _ _ _ | exact Kd.Q_nil _ _ _ _ _ | exact Kd.S_nil _ _ _ _ _, by first | exact Kd.R_nil _ _ _ _ _ | exact Kd.N_nil _ _ _ _ _ | exact Kd.V_nil _ _ _ _ _ | exact Kd.Q_nil _ _ _ _ _ | exact Kd.S_nil _ _ _ _ _, (tb_ HB.out)⟩
       ·
        rw [if_neg c37] at H
        exact absurd H (by simp)
      ·
       rw [if_neg c35] at H
       exact absurd H (by simp)
  ·
   rw [if_neg c4] at H
   exact absurd H (by simp)
 ·
  rw [if_neg c3] at H
  have cS : ((af.length : Int) == 3) = false := beq_eq_false_iff_ne.mpr c3
  have cT : ((af.length : Int) != 3) = true := bne_iff_ne.mpr c3
  simp only [Option.some.injEq, Prod.mk.injEq] at H
  obtain ⟨rfl, rfl, rfl, rfl⟩ := H
  go_enter Tryz.func64, Tryz.ntmps64
  go_wp2_with (first | ((with_reducible refine gate_dst (N := 2) rfl ?_); (try (refine gate_guard (by rfl) ?_; dsimp only)); refine box_event ?hg (N := 2) ?hd (cs := #[.slice none 0 0, .int .i64 0, .slice none 0 0]) (t := 39) ?hr ?_; (case hd => rfl); (case hg => rfl); (case hr => first | (go_simp; done) | (go_simp; rfl)); intro au hg gq hbox hb; have ac := Aside0.mk (hbox); have db := gx_ HB hg; have dc := gx_ HB hg; replace HB := bs_ HB hb; clear hb hbox hg) | ((with_reducible refine gate_callee (f := 101) rfl ?_); refine gl_ (some 12) Tryz.func101 #[.string a0, .string (⟨#[32]⟩ : ByteArray)] ?_; (with_reducible refine (strings_Split.calls a0 (⟨#[32]⟩ : ByteArray) af _ ?s1 A2.out).mono ?_); (case s1 => exact GWb.below HG.out (tb_ HB.out)); rintro e gr ⟨eP, rfl, ho0, hb⟩; refine ⟨_, rfl, ?_⟩; have aE := rx_ ho0 HB; replace ac := bb_ ac hb; replace HB := bs_ HB hb; (try clear hb); (try clear hb2); (try clear hk); (try clear hi); (try clear ho0); obtain ⟨fY, fZ, e4⟩ := Kd.R_slice aE.out; subst e4; have d3 := cz_ ac 0; have d4 := cz_ ac 1; have d5 := cz_ ac 2; have d6 := blk_frozen ac.out 0; have d7 := blk_frozen ac.out 1; have d8 := blk_frozen ac.out 2))
  refine bodyPost_ret (results_ct rfl _ _ au 39 #[.slice none 0 0, .int .i64 0, .slice none 0 0] (0, 0) _ rfl (ps_ ac.out) Tryz.underlying39 rfl (by kernel_rfl)) rfl ?_
  exact ⟨_, _, tw_, by first | exact Kd.R_nil _ _ _ _ _ | exact Kd.N_nil _ _ _ _ _ | exact Kd.V_nil _ _ _ _ _ | exact Kd.Q_nil _ _ _ _ _ | exact Kd.S_nil _ _ _ _ _, by first | exact Kd.R_nil _ _ _ _ _ | exact Kd.N_nil _ _ _ _ _ | exact Kd.V_nil _ _ _ _ _ | exact Kd.Q_nil _ _ _ _ _ | exact Kd.S_nil _ _ _ _ _, (tb_ HB.out)⟩

/-! ### impl_StoreOk: function 31 -/
def impl_StoreOk.f (k : Nat) (a0_0 : ByteArray) (a0_1 : ByteArray) (a0_2 : Int) : Option (Bool) := (impl_ReadPlace.f k a0_0).bind fun bs => (if bs.2.2.2 = true then (if (a0_1.size : Int) ≤ 1000 then (if a0_2 ≥ 0 then (some (decide (a0_2 ≤ (a0_1.size : Int)))) else (some false)) else (some false)) else (some false))
theorem impl_StoreOk.mono : ∀ a0 a1 a2 k, LeO (impl_StoreOk.f k a0 a1 a2) (impl_StoreOk.f (k + 1) a0 a1 a2) := by
 intro a0 a1 a2 k
 unfold impl_StoreOk.f
 repeat' (with_reducible first | exact impl_ReadPlace.mono _ _ | exact mr_ | exact mn_ | refine mi_ ?_ ?_ | refine mb_ ?_ (fun _ => ?_))
set_option maxHeartbeats 8000000 in
set_option maxRecDepth 100000 in
theorem impl_StoreOk.calls (k : Nat) (a0_0 : ByteArray) (a0_1 : ByteArray) (a0_2 : Int) (r : Bool) (w : World) (hG : GWb w) (h : impl_StoreOk.f k a0_0 a0_1 a0_2 = some r) :
  Calls Tryz.prog 31 #[.agg #[.string a0_0, .string a0_1, .int .i64 a0_2]] w fun e w' => e = .returned (.bool r) ∧ Below w.heap.size w w' := by
 have HG := Aside0.mk hG
 clear hG
 have hu25 := Tryz.underlying25
 have hu39 := Tryz.underlying39
 have HB := Aside0.mk (Below.refl w.heap.size w)
 have H : ((impl_ReadPlace.f k a0_0).bind fun bs => (if bs.2.2.2 = true then (if (a0_1.size : Int) ≤ 1000 then (if a0_2 ≥ 0 then (some (decide (a0_2 ≤ (a0_1.size : Int)))) else (some false)) else (some false)) else (some false))) = some r := h
 clear h
 obtain ⟨⟨cC, cD, cE, e5⟩, A2, H⟩ := bnd_ H
 try dsimp only at H
 by_cases c3 : e5 = true
 ·
  subst c3
  have H1 : (if (a0_1.size : Int) ≤ 1000 then (if a0_2 ≥ 0 then (some (decide (a0_2 ≤ (a0_1.size : Int)))) else (some false)) else (some false)) = some r := by rw [if_pos rfl] at H; exact H
  clear H
  have H := H1
  clear H1
  by_cases c4 : (a0_1.size : Int) ≤ 1000
  ·
   rw [if_pos c4] at H
   have bC : decide ((a0_1.size : Int) ≤ 1000) = true := decide_eq_true c4
   have bD : decide (a0_1.size ≤ 1000) = true := decide_eq_true (by omega)
   clear c4
   by_cases c5 : a0_2 ≥ 0
   ·
    rw [if_pos c5] at H
    have e6 : decide (0 ≤ a0_2) = true := decide_eq_true c5
    clear c5
    obtain rfl := Option.some.inj H
    go_enter Tryz.func31, Tryz.ntmps31
    go_wp2_with (first | ((with_reducible refine gate_dst (N := 1) rfl ?_); (try (refine gate_guard (by rfl) ?_; dsimp only)); refine box_event ?hg (N := 1) ?hd (cs := #[.string a0_0, .string a0_1, .int .i64 a0_2]) (t := 25) ?hr ?_; (case hd => rfl); (case hg => rfl); (case hr => first | (go_simp; done) | (go_simp; rfl)); intro bu hg w6 hbox hb; have ae := Aside0.mk (hbox); have bv := gx_ HB hg; have bw := gx_ HB hg; replace HB := bs_ HB hb; clear hb hbox hg; have e7 := cz_ ae 0; have e8 := cz_ ae 1; have e9 := cz_ ae 2; have fa := blk_frozen ae.out 0; have fb := blk_frozen ae.out 1; have fc := blk_frozen ae.out 2) | ((with_reducible refine gate_callee (f := 64) rfl ?_); refine gl_ (some 8) Tryz.func64 #[.string a0_0] ?_; (with_reducible refine (impl_ReadPlace.calls k a0_0 cC cD cE true _ ?s1 A2.out).mono ?_); (case s1 => exact GWb.below HG.out (tb_ HB.out)); rintro e w8 ⟨c9, da, rfl, ho0, ho1, hb⟩; refine ⟨_, rfl, ?_⟩; have aC := rx_ ho0 HB; have aD := rx_ ho1 HB; replace ae := bb_ ae hb; replace HB := bs_ HB hb; (try clear hb); (try clear hb2); (try clear hk); (try clear hi); (try clear ho0); (try clear ho1)) | ((with_reducible refine gate_dst (N := 3) rfl ?_); (try (refine gate_guard (by rfl) ?_; dsimp only)); refine box_event ?hg (N := 3) ?hd (cs := #[.slice none 0 0, .int .i64 0, .slice none 0 0]) (t := 39) ?hr ?_; (case hd => rfl); (case hg => rfl); (case hr => first | (go_simp; done) | (go_simp; rfl)); intro bx hg w9 hbox hb; replace aC := rb_ aC hb; replace aD := rb_ aD hb; have al := Aside0.mk (hbox); have bz := gx_ HB hg; have bB := gx_ HB hg; replace HB := bs_ HB hb; have aw := nl_ ae hg; have ax := ng_ ae hg; replace ae := bb_ ae hb; clear hb hbox hg; obtain ⟨f0, f1, fd⟩ := Kd.R_slice aC.out; subst fd; have fH := ax.out; have fI := aw.out; have d9 := cz_ al 0; have ea := cz_ al 1; have eb := cz_ al 2; have ec := blk_frozen al.out 0; have ed := blk_frozen al.out 1; have ee := blk_frozen al.out 2; obtain ⟨cU, cV, cW⟩ := Kd.R_slice aD.out; subst cW; have ef := cz_ ae 0; have eg := cz_ ae 1; have eh := cz_ ae 2; have ei := blk_frozen ae.out 0; have ej := blk_frozen ae.out 1; have ek := blk_frozen ae.out 2))
    go_ret
    exact ⟨tw_, (tb_ HB.out)⟩
   ·
    rw [if_neg c5] at H
    have e6 : decide (0 ≤ a0_2) = false := decide_eq_false c5
    clear c5
    obtain rfl := Option.some.inj H
    go_enter Tryz.func31, Tryz.ntmps31
    go_wp2_with (first | ((with_reducible refine gate_dst (N := 1) rfl ?_); (try (refine gate_guard (by rfl) ?_; dsimp only)); refine box_event ?hg (N := 1) ?hd (cs := #[.string a0_0, .string a0_1, .int .i64 a0_2]) (t := 25) ?hr ?_; (case hd => rfl); (case hg => rfl); (case hr => first | (go_simp; done) | (go_simp; rfl)); intro bu hg gs hbox hb; have ae := Aside0.mk (hbox); have bv := gx_ HB hg; have bw := gx_ HB hg; replace HB := bs_ HB hb; clear hb hbox hg; have el := cz_ ae 0; have em := cz_ ae 1; have en := cz_ ae 2; have eo := blk_frozen ae.out 0; have ep := blk_frozen ae.out 1; have eq := blk_frozen ae.out 2) | ((with_reducible refine gate_callee (f := 64) rfl ?_); refine gl_ (some 8) Tryz.func64 #[.string a0_0] ?_; (with_reducible refine (impl_ReadPlace.calls k a0_0 cC cD cE true _ ?s1 A2.out).mono ?_); (case s1 => exact GWb.below HG.out (tb_ HB.out)); rintro e gu ⟨c9, da, rfl, ho0, ho1, hb⟩; refine ⟨_, rfl, ?_⟩; have aC := rx_ ho0 HB; have aD := rx_ ho1 HB; replace ae := bb_ ae hb; replace HB := bs_ HB hb; (try clear hb); (try clear hb2); (try clear hk); (try clear hi); (try clear ho0); (try clear ho1)) | ((with_reducible refine gate_dst (N := 3) rfl ?_); (try (refine gate_guard (by rfl) ?_; dsimp only)); refine box_event ?hg (N := 3) ?hd (cs := #[.slice none 0 0, .int .i64 0, .slice none 0 0]) (t := 39) ?hr ?_; (case hd => rfl); (case hg => rfl); (case hr => first | (go_simp; done) | (go_simp; rfl)); intro bx hg gv hbox hb; replace aC := rb_ aC hb; replace aD := rb_ aD hb; have al := Aside0.mk (hbox); have bz := gx_ HB hg; have bB := gx_ HB hg; replace HB := bs_ HB hb; have aw := nl_ ae hg; have ax := ng_ ae hg; replace ae := bb_ ae hb; clear hb hbox hg; obtain ⟨f2, f3, fe⟩ := Kd.R_slice aC.out; subst fe; have df := ax.out; have dg := aw.out; have a3 := cz_ al 0; have a4 := cz_ al 1; have a5 := cz_ al 2; have a6 := blk_frozen al.out 0; have a7 := blk_frozen al.out 1; have a8 := blk_frozen al.out 2; obtain ⟨eR, eS, cX⟩ := Kd.R_slice aD.out; subst cX; have a9 := cz_ ae 0; have bb := cz_ ae 1; have bc := cz_ ae 2; have bd := blk_frozen ae.out 0; have be := blk_frozen ae.out 1; have bf := blk_frozen ae.out 2))
    go_ret
    exact ⟨tw_, (tb_ HB.out)⟩
  ·
   rw [if_neg c4] at H
   have bC : decide ((a0_1.size : Int) ≤ 1000) = false := decide_eq_false c4
   have bD : decide (a0_1.size ≤ 1000) = false := decide_eq_false (by omega)
   clear c4
   obtain rfl := Option.some.inj H
   go_enter Tryz.func31, Tryz.ntmps31
   go_wp2_with (first | ((with_reducible refine gate_dst (N := 1) rfl ?_); (try (refine gate_guard (by rfl) ?_; dsimp only)); refine box_event ?hg (N := 1) ?hd (cs := #[.string a0_0, .string a0_1, .int .i64 a0_2]) (t := 25) ?hr ?_; (case hd => rfl); (case hg => rfl); (case hr => first | (go_simp; done) | (go_simp; rfl)); intro bu hg gw hbox hb; have ae := Aside0.mk (hbox); have bv := gx_ HB hg; have bw := gx_ HB hg; replace HB := bs_ HB hb; clear hb hbox hg; have er := cz_ ae 0; have es := cz_ ae 1; have et := cz_ ae 2; have eu := blk_frozen ae.out 0; have ev := blk_frozen ae.out 1; have ew := blk_frozen ae.out 2) | ((with_reducible refine gate_callee (f := 64) rfl ?_); refine gl_ (some 8) Tryz.func64 #[.string a0_0] ?_; (with_reducible refine (impl_ReadPlace.calls k a0_0 cC cD cE true _ ?s1 A2.out).mono ?_); (case s1 => exact GWb.below HG.out (tb_ HB.out)); rintro e gx ⟨c9, da, rfl, ho0, ho1, hb⟩; refine ⟨_, rfl, ?_⟩; have aC := rx_ ho0 HB; have aD := rx_ ho1 HB; replace ae := bb_ ae hb; replace HB := bs_ HB hb; (try clear hb); (try clear hb2); (try clear hk); (try clear hi); (try clear ho0); (try clear ho1)) | ((with_reducible refine gate_dst (N := 3) rfl ?_); (try (refine gate_guard (by rfl) ?_; dsimp only)); refine box_event ?hg (N := 3) ?hd (cs := #[.slice none 0 0, .int .i64 0, .slice none 0 0]) (t := 39) ?hr ?_; (case hd => rfl); (case hg => rfl); (case hr => first | (go_simp; done) | (go_simp; rfl)); intro bx hg gy hbox hb; replace aC := rb_ aC hb; replace aD := rb_ aD hb; have al := Aside0.mk (hbox); have bz := gx_ HB hg; have bB := gx_ HB hg; replace HB := bs_ HB hb; have aw := nl_ ae hg; have ax := ng_ ae hg; replace ae := bb_ ae hb; clear hb hbox hg; obtain ⟨cY, cZ, c0⟩ := Kd.R_slice aC.out; subst c0; have fJ := ax.out; have fK := aw.out; have ex := cz_ al 0; have ey := cz_ al 1; have ez := cz_ al 2; have eA := blk_frozen al.out 0; have eB := blk_frozen al.out 1; have eC := blk_frozen al.out 2; obtain ⟨f4, f5, ff⟩ := Kd.R_slice aD.out; subst ff; have eD := cz_ ae 0; have eE := cz_ ae 1; have eF := cz_ ae 2; have eG := blk_frozen ae.out 0; have eH := blk_frozen ae.out 1; have eI := blk_frozen ae.out 2))
   go_ret
   exact ⟨tw_, (tb_ HB.out)⟩
 ·
  replace c3 := Bool.eq_false_iff.mpr c3
  subst c3
  have H1 : (some false) = some r := by rw [if_neg (show ¬ (false = true) by decide)] at H; exact H
  clear H
  have H := H1
  clear H1
  obtain rfl := Option.some.inj H
  go_enter Tryz.func31, Tryz.ntmps31
  go_wp2_with (first | ((with_reducible refine gate_dst (N := 1) rfl ?_); (try (refine gate_guard (by rfl) ?_; dsimp only)); refine box_event ?hg (N := 1) ?hd (cs := #[.string a0_0, .string a0_1, .int .i64 a0_2]) (t := 25) ?hr ?_; (case hd => rfl); (case hg => rfl); (case hr => first | (go_simp; done) | (go_simp; rfl)); intro bu hg gz hbox hb; have ae := Aside0.mk (hbox); have bv := gx_ HB hg; have bw := gx_ HB hg; replace HB := bs_ HB hb; clear hb hbox hg; have bg := cz_ ae 0; have bh := cz_ ae 1; have bi := cz_ ae 2; have bj := blk_frozen ae.out 0; have bk := blk_frozen ae.out 1; have bl := blk_frozen ae.out 2) | ((with_reducible refine gate_callee (f := 64) rfl ?_); refine gl_ (some 8) Tryz.func64 #[.string a0_0] ?_; (with_reducible refine (impl_ReadPlace.calls k a0_0 cC cD cE false _ ?s1 A2.out).mono ?_); (case s1 => exact GWb.below HG.out (tb_ HB.out)); rintro e gA ⟨c9, da, rfl, ho0, ho1, hb⟩; refine ⟨_, rfl, ?_⟩; have aC := rx_ ho0 HB; have aD := rx_ ho1 HB; replace ae := bb_ ae hb; replace HB := bs_ HB hb; (try clear hb); (try clear hb2); (try clear hk); (try clear hi); (try clear ho0); (try clear ho1)) | ((with_reducible refine gate_dst (N := 3) rfl ?_); (try (refine gate_guard (by rfl) ?_; dsimp only)); refine box_event ?hg (N := 3) ?hd (cs := #[.slice none 0 0, .int .i64 0, .slice none 0 0]) (t := 39) ?hr ?_; (case hd => rfl); (case hg => rfl); (case hr => first | (go_simp; done) | (go_simp; rfl)); intro bx hg gB hbox hb; replace aC := rb_ aC hb; replace aD := rb_ aD hb; have al := Aside0.mk (hbox); have bz := gx_ HB hg; have bB := gx_ HB hg; replace HB := bs_ HB hb; have aw := nl_ ae hg; have ax := ng_ ae hg; replace ae := bb_ ae hb; clear hb hbox hg; obtain ⟨f6, f7, fg⟩ := Kd.R_slice aC.out; subst fg; have fL := ax.out; have fM := aw.out; have eJ := cz_ al 0; have eK := cz_ al 1; have eL := cz_ al 2; have eM := blk_frozen al.out 0; have eN := blk_frozen al.out 1; have eO := blk_frozen al.out 2; obtain ⟨f8, f9, fh⟩ := Kd.R_slice aD.out; subst fh))
  go_ret
  exact ⟨tw_, (tb_ HB.out)⟩

/-! ### strings_Cut: function 70 -/
def strings_Cut.f (a0 : ByteArray) (a1 : ByteArray) : Option (ByteArray × ByteArray × Bool) := if a0.size < 4294967281 then some (⟨(Lib.cut a0.data.toList a1.data.toList).1.toArray⟩, ⟨(Lib.cut a0.data.toList a1.data.toList).2.1.toArray⟩, (Lib.cut a0.data.toList a1.data.toList).2.2) else none
theorem strings_Cut.calls (a0 : ByteArray) (a1 : ByteArray) (r1 : ByteArray) (r2 : ByteArray) (r3 : Bool) (w : World) (hG : GWb w) (h : strings_Cut.f a0 a1 = some (r1, r2, r3)) :
  Calls Tryz.prog 70 #[.string a0, .string a1] w fun e w' => e = .returned (.tuple #[.string r1, .string r2, .bool r3]) ∧ Drawn0 w w' := by
 unfold strings_Cut.f at h
 split at h
 ·
  rename_i hb
  simp only [Option.some.injEq, Prod.mk.injEq] at h
  obtain ⟨rfl, rfl, rfl⟩ := h
  exact (Sh.Tryz.strings_Cut_shaped a0 a1 w hG.shape hb).mono fun e w' ⟨he, m, hw⟩ => ⟨he, ⟨m, hw⟩⟩
 ·
  cases h

end Go.Proofs.YtfibbdefcppfcaaGreatDoor.MFnExactStoreMend
