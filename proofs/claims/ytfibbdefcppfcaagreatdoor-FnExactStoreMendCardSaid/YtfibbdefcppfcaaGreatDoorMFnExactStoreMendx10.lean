/- For the law FnExactStoreMend: walks of the functions that it reaches: each call returns what the plain function beside it tells. The conditions stand in each statement. -/
import Derived.Test.YtfibbdefcppfcaaGreatDoorV
import Derived.Test.YtfibbdefcppfcaaGreatDoorMFnExactStoreMendx0
import Derived.Test.YtfibbdefcppfcaaGreatDoorMFnExactStoreMendx8
import Derived.Test.YtfibbdefcppfcaaGreatDoorMFnExactStoreMendx9
namespace Go.Proofs.YtfibbdefcppfcaaGreatDoor.MFnExactStoreMend
open Go.RowKit Go.Proofs.YtfibbdefcppfcaaGreatDoorW.PrintWords Go.Proofs.YtfibbdefcppfcaaGreatDoorW.PrintLast Go.Proofs.YtfibbdefcppfcaaGreatDoorW.PrintMore
attribute [local go_sem] max2_int min2_int max_two min_two max_three min_three max_four min_four   -- for this text's walks alone
set_option linter.unusedVariables false
set_option linter.unusedSimpArgs false

/-! ### spec_StoreMend: function 12 -/
def spec_StoreMend.f (k : Nat) (a0_0 : ByteArray) (a0_1 : ByteArray) (a0_2 : Int) : Option (ByteArray × ByteArray × Int × Bool) := (spec_StoreOk.f k a0_0 a0_1 a0_2).bind fun aF => (if aF = true then ((spec_ReadJournal.f k a0_1).bind fun aj => (if 0 ≤ aj.2 then (if aj.2 ≤ (a0_1.size : Int) then (some (a0_0, a0_1.extract 0 (aj.2 : Int).toNat, mn a0_2 aj.2, true)) else (none)) else (none))) else (some ((⟨#[]⟩ : ByteArray), (⟨#[]⟩ : ByteArray), 0, false)))
theorem spec_StoreMend.mono : ∀ a0 a1 a2 k, LeO (spec_StoreMend.f k a0 a1 a2) (spec_StoreMend.f (k + 1) a0 a1 a2) := by
 intro a0 a1 a2 k
 unfold spec_StoreMend.f
 repeat' (with_reducible first | exact spec_ReadJournal.mono _ _ | exact spec_StoreOk.mono _ _ _ _ | exact mr_ | exact mn_ | refine mi_ ?_ ?_ | refine mb_ ?_ (fun _ => ?_))
def spec_StoreMend.T4 : Bool × List (List Nat × List Nat) := (true, [([], []), ([0], [0]), ([], []), ([2], [2]), ([], []), ([3, 4], [3, 4]), ([], []), ([6], [6]), ([], []), ([7, 8], [7, 8]), ([1, 5, 9], [1, 5, 9]), ([10, 0, 1, 2, 3, 4, 5, 6, 7, 8, 9, 10], [10]), ([11, 0, 1, 2, 3, 4, 5, 6, 7, 8, 9, 10, 11], [])])
def spec_StoreMend.B4 : List Nat := [0, 1, 0, 4, 0, 28, 0, 64, 0, 448, 1023, 2047, 4095]
theorem spec_StoreMend.tab4 : rtab .any (opsOf Tryz.f12 4) = spec_StoreMend.T4 := by kernel_rfl
theorem spec_StoreMend.bits4 : waitsOk spec_StoreMend.T4.2 spec_StoreMend.B4 = true := by kernel_rfl
set_option maxHeartbeats 8000000 in
set_option maxRecDepth 100000 in
theorem spec_StoreMend.calls (k : Nat) (a0_0 : ByteArray) (a0_1 : ByteArray) (a0_2 : Int) (r1 : ByteArray) (r2 : ByteArray) (r3 : Int) (r4 : Bool) (w : World) (h : spec_StoreMend.f k a0_0 a0_1 a0_2 = some (r1, r2, r3, r4)) :
  Calls Tryz.prog 12 #[.agg #[.string a0_0, .string a0_1, .int .i64 a0_2]] w fun e w' => e = .returned (.tuple #[.agg #[.string r1, .string r2, .int .i64 r3], .bool r4]) ∧ Below w.heap.size w w' := by
 have hu25 := Tryz.underlying25
 have HB := Aside0.mk (Below.refl w.heap.size w)
 have H : ((spec_StoreOk.f k a0_0 a0_1 a0_2).bind fun aF => (if aF = true then ((spec_ReadJournal.f k a0_1).bind fun aj => (if 0 ≤ aj.2 then (if aj.2 ≤ (a0_1.size : Int) then (some (a0_0, a0_1.extract 0 (aj.2 : Int).toNat, mn a0_2 aj.2, true)) else (none)) else (none))) else (some ((⟨#[]⟩ : ByteArray), (⟨#[]⟩ : ByteArray), 0, false)))) = some (r1, r2, r3, r4) := h
 clear h
 obtain ⟨aF, A2, H⟩ := bnd_ H
 try dsimp only at H
 by_cases c3 : aF = true
 ·
  subst c3
  have H1 : ((spec_ReadJournal.f k a0_1).bind fun aj => (if 0 ≤ aj.2 then (if aj.2 ≤ (a0_1.size : Int) then (some (a0_0, a0_1.extract 0 (aj.2 : Int).toNat, mn a0_2 aj.2, true)) else (none)) else (none))) = some (r1, r2, r3, r4) := by rw [if_pos rfl] at H; exact H
  clear H
  have H := H1
  clear H1
  obtain ⟨⟨bK, an⟩, A4, H⟩ := bnd_ H
  try dsimp only at H
  by_cases c5 : 0 ≤ an
  ·
   rw [if_pos c5] at H
   have ar := eq_true c5
   have cj : decide (0 ≤ an) = true := decide_eq_true c5
   clear c5
   by_cases c6 : an ≤ (a0_1.size : Int)
   ·
    rw [if_pos c6] at H
    have aG := eq_true c6
    have ck : decide (an ≤ (a0_1.size : Int)) = true := decide_eq_true c6
    clear c6
    obtain ⟨bL, ax⟩ : ∃ j_ : Int, (mn a0_2 an) = j_ := ⟨_, rfl⟩
    replace H : (some (a0_0, a0_1.extract 0 (an : Int).toNat, bL, true)) = some (r1, r2, r3, r4) := by first | (rw [ax] at H; exact H) | (simp only [ax] at H ⊢; exact H)
    (try rw [ax] at A2)
    (try rw [ax] at A4)
    have hji7_ : (if an < a0_2 then an else a0_2) = bL := ax
    simp only [Option.some.injEq, Prod.mk.injEq] at H
    obtain ⟨rfl, rfl, rfl, rfl⟩ := H
    go_enter Tryz.func12, Tryz.ntmps12
    try go_wp2_with (first | ((with_reducible refine gate_dst (N := 1) rfl ?_); refine box_event ?hg (N := 1) ?hd (cs := #[.string a0_0, .string a0_1, .int .i64 a0_2]) (t := 25) ?hr ?_; (case hd => rfl); (case hg => rfl); (case hr => first | (go_simp; done) | (go_simp; rfl)); intro au hg w8 hbox hb; have ab := Aside0.mk (hbox); have aR := gx_ HB hg; have aU := gx_ HB hg; replace HB := bs_ HB hb; clear hb hbox hg) | ((with_reducible refine gate_dst (N := 2) rfl ?_); refine box_event ?hg (N := 2) ?hd (cs := #[.string (⟨#[]⟩ : ByteArray), .string (⟨#[]⟩ : ByteArray), .int .i64 0]) (t := 25) ?hr ?_; (case hd => rfl); (case hg => rfl); (case hr => first | (go_simp; done) | (go_simp; rfl)); intro ai hg w9 hbox hb; have af := Aside0.mk (hbox); have aV := gx_ HB hg; have aW := gx_ HB hg; replace HB := bs_ HB hb; have aa := nl_ ab hg; have ah := ng_ ab hg; replace ab := bb_ ab hb; clear hb hbox hg; have b4 := aa.out; have b5 := ah.out; have a5 := cz_ ab 0; have a6 := cz_ ab 1; have a7 := cz_ ab 2; have a8 := blk_frozen ab.out 0; have a9 := blk_frozen ab.out 1; have bb := blk_frozen ab.out 2) | ((with_reducible refine gate_callee (f := 34) rfl ?_); refine gl_ (some 7) Tryz.func34 #[.agg #[.string a0_0, .string a0_1, .int .i64 a0_2]] ?_; (with_reducible refine (spec_StoreOk.calls k a0_0 a0_1 a0_2 true _ A2.out).mono ?_); rintro e bc ⟨rfl, hb⟩; refine ⟨_, rfl, ?_⟩; replace ab := bb_ ab hb; replace af := bb_ af hb; replace HB := bs_ HB hb; (try clear hb); (try clear hb2); (try clear hk); (try clear hi); have bd := cz_ ab 0; have be := cz_ ab 1; have bf := cz_ ab 2; have bg := blk_frozen ab.out 0; have bh := blk_frozen ab.out 1; have bi := blk_frozen ab.out 2) | ((with_reducible refine gate_callee (f := 41) rfl ?_); refine gl_ (some 13) Tryz.func41 #[.string a0_1] ?_; (with_reducible refine (spec_ReadJournal.calls k a0_1 bK an _ A4.out).mono ?_); rintro e cl ⟨cm, rfl, ho0, hb⟩; refine ⟨_, rfl, ?_⟩; have aH := rx_ ho0 HB; replace ab := bb_ ab hb; replace af := bb_ af hb; replace HB := bs_ HB hb; (try clear hb); (try clear hb2); (try clear hk); (try clear hi); (try clear ho0)))
    replace aH := rd_ aH
    replace ab := dB_ ab
    replace af := dB_ af
    replace HB := Aside0.mk (ld_ HB.out)
    refine start_ (n := 13) (S := fun w' => w'.cell? ⟨au, 0, none⟩ = some (.string a0_0) ∧ w'.cell? ⟨au, 1, none⟩ = some (.string a0_1) ∧ w'.cell? ⟨au, 2, none⟩ = some (.int .i64 a0_2)) (ds := []) #[false, false, false, false, false, false, false, false, false, false, false, false, false] (by kernel_rfl) rfl rfl hh_ (fun hHeld => ?_); refine with_tabW spec_StoreMend.tab4 spec_StoreMend.bits4 (fun HT_ HW_ => ?_)
    generalize cl.drew = bM at aH ab af HB hHeld ⊢
    refine pu_ 0 (some 16) #[true, false, false, false, false, false, false, false, false, false, false, false, false] HT_ rfl rfl ?_
    refine pu_ 2 (some 18) #[true, false, true, false, false, false, false, false, false, false, false, false, false] HT_ rfl rfl ?_
    refine pu_ 4 (some 20) #[true, false, true, false, true, false, false, false, false, false, false, false, false] HT_ rfl rfl ?_
    refine pu_ 6 (some 22) #[true, false, true, false, true, false, true, false, false, false, false, false, false] HT_ rfl rfl ?_
    refine pu_ 8 (some 24) #[true, false, true, false, true, false, true, false, true, false, false, false, false] HT_ rfl rfl ?_
    refine ta_ 1 (some 17) #[true, true, true, false, true, false, true, false, true, false, false, false, false] HT_ HW_ hHeld rfl rfl ?_
    refine ta_ 3 (some 19) #[true, true, true, true, true, false, true, false, true, false, false, false, false] HT_ HW_ hHeld rfl rfl ?_
    refine pu_ 5 (some 21) #[true, true, true, true, true, true, true, false, true, false, false, false, false] HT_ rfl rfl ?_
    refine ta_ 7 (some 23) #[true, true, true, true, true, true, true, true, true, false, false, false, false] HT_ HW_ hHeld rfl rfl ?_
    refine pu_ 9 (some 25) #[true, true, true, true, true, true, true, true, true, true, false, false, false] HT_ rfl rfl ?_
    refine pu_ 10 (some 26) #[true, true, true, true, true, true, true, true, true, true, true, false, false] HT_ rfl rfl ?_
    refine one_ (i := 11) (N := none) #[true, true, true, true, true, true, true, true, true, true, true, true, false] rfl rfl (one_of HT_.out (by kernel_rfl)) (by decide) (fun K hK => ?_)
    have hs16 : bM.cell? ⟨ai, 0, none⟩ = some (.string (⟨#[]⟩ : ByteArray)) := (blk_cell af.out 0).trans rfl
    have hfs16 := blk_frozen af.out 0
    have bj := aa.out
    have bk := ah.out
    have hs17 : bM.cell? ⟨ai, 1, none⟩ = some (.string (⟨#[]⟩ : ByteArray)) := (blk_cell af.out 1).trans rfl
    have hfs17 := blk_frozen af.out 1
    have bl := aa.out
    have bm := ah.out
    have hs18 : bM.cell? ⟨ai, 2, none⟩ = some (.int .i64 0) := (blk_cell af.out 2).trans rfl
    have hfs18 := blk_frozen af.out 2
    have bn := aa.out
    have bo := ah.out
    refine sk_ rfl ?_
    refine hK.out _ _ ⟨((cell_far (p := ⟨ai, _, none⟩) aa.out _).trans (((cell_far (p := ⟨ai, _, none⟩) aa.out _).trans (((cell_far (p := ⟨ai, _, none⟩) aa.out _).trans (hHeld.1)))))), ((cell_far (p := ⟨ai, _, none⟩) aa.out _).trans (((cell_far (p := ⟨ai, _, none⟩) aa.out _).trans (((cell_far (p := ⟨ai, _, none⟩) aa.out _).trans (hHeld.2.1)))))), ((cell_far (p := ⟨ai, _, none⟩) aa.out _).trans (((cell_far (p := ⟨ai, _, none⟩) aa.out _).trans (((cell_far (p := ⟨ai, _, none⟩) aa.out _).trans (hHeld.2.2))))))⟩ (fun hHeld => ?_)
    clear hK K
    refine pu_ 12 (some 3) #[true, true, true, true, true, true, true, true, true, true, true, true, true] HT_ rfl rfl ?_
    refine done_ (done_of HT_.out (by kernel_rfl)) ?_
    try go_wp2
    refine bodyPost_ret (results_ct rfl _ _ ai 25 #[.string a0_0, .string (a0_1.extract 0 (an : Int).toNat), .int .i64 bL] (0, 0) _ rfl (ps_ af.out) Tryz.underlying25 rfl (by kernel_rfl)) rfl ?_
    exact ⟨by first | rfl | (simp [errW_none, errW_some, Option.map_none, Option.map_some] <;> rfl) | (simp only [← ax]; first | rfl | (simp [errW_none, errW_some, Option.map_none, Option.map_some] <;> rfl)) | (simp [*, errW_none, errW_some] <;> rfl), (tb_ HB.out)⟩
   ·
    rw [if_neg c6] at H
    exact absurd H (by simp)
  ·
   rw [if_neg c5] at H
   exact absurd H (by simp)
 ·
  replace c3 := Bool.eq_false_iff.mpr c3
  subst c3
  have H1 : (some ((⟨#[]⟩ : ByteArray), (⟨#[]⟩ : ByteArray), 0, false)) = some (r1, r2, r3, r4) := by rw [if_neg (show ¬ (false = true) by decide)] at H; exact H
  clear H
  have H := H1
  clear H1
  simp only [Option.some.injEq, Prod.mk.injEq] at H
  obtain ⟨rfl, rfl, rfl, rfl⟩ := H
  go_enter Tryz.func12, Tryz.ntmps12
  go_wp2_with (first | ((with_reducible refine gate_dst (N := 1) rfl ?_); refine box_event ?hg (N := 1) ?hd (cs := #[.string a0_0, .string a0_1, .int .i64 a0_2]) (t := 25) ?hr ?_; (case hd => rfl); (case hg => rfl); (case hr => first | (go_simp; done) | (go_simp; rfl)); intro au hg cx hbox hb; have ab := Aside0.mk (hbox); have aR := gx_ HB hg; have aU := gx_ HB hg; replace HB := bs_ HB hb; clear hb hbox hg) | ((with_reducible refine gate_dst (N := 2) rfl ?_); refine box_event ?hg (N := 2) ?hd (cs := #[.string (⟨#[]⟩ : ByteArray), .string (⟨#[]⟩ : ByteArray), .int .i64 0]) (t := 25) ?hr ?_; (case hd => rfl); (case hg => rfl); (case hr => first | (go_simp; done) | (go_simp; rfl)); intro ai hg cy hbox hb; have af := Aside0.mk (hbox); have aV := gx_ HB hg; have aW := gx_ HB hg; replace HB := bs_ HB hb; have aa := nl_ ab hg; have ah := ng_ ab hg; replace ab := bb_ ab hb; clear hb hbox hg; have b6 := aa.out; have b7 := ah.out; have bp := cz_ ab 0; have bq := cz_ ab 1; have br := cz_ ab 2; have bs := blk_frozen ab.out 0; have bu := blk_frozen ab.out 1; have bv := blk_frozen ab.out 2) | ((with_reducible refine gate_callee (f := 34) rfl ?_); refine gl_ (some 7) Tryz.func34 #[.agg #[.string a0_0, .string a0_1, .int .i64 a0_2]] ?_; (with_reducible refine (spec_StoreOk.calls k a0_0 a0_1 a0_2 false _ A2.out).mono ?_); rintro e cz ⟨rfl, hb⟩; refine ⟨_, rfl, ?_⟩; replace ab := bb_ ab hb; replace af := bb_ af hb; replace HB := bs_ HB hb; (try clear hb); (try clear hb2); (try clear hk); (try clear hi); have bw := cz_ af 0; have bx := cz_ af 1; have bz := cz_ af 2; have bB := blk_frozen af.out 0; have bC := blk_frozen af.out 1; have bD := blk_frozen af.out 2))
  refine bodyPost_ret (results_ct rfl _ _ ai 25 #[.string (⟨#[]⟩ : ByteArray), .string (⟨#[]⟩ : ByteArray), .int .i64 0] (0, 0) _ rfl (ps_ af.out) Tryz.underlying25 rfl (by kernel_rfl)) rfl ?_
  exact ⟨tw_, (tb_ HB.out)⟩

/-! ### laws_toStore: function 13 -/
def laws_toStore.f (a0_0 : ByteArray) (a0_1 : ByteArray) (a0_2 : Int) : Option (ByteArray × ByteArray × Int) := some (a0_0, a0_1, a0_2)
set_option maxHeartbeats 8000000 in
set_option maxRecDepth 100000 in
theorem laws_toStore.calls (a0_0 : ByteArray) (a0_1 : ByteArray) (a0_2 : Int) (r1 : ByteArray) (r2 : ByteArray) (r3 : Int) (w : World) (h : laws_toStore.f a0_0 a0_1 a0_2 = some (r1, r2, r3)) :
  Calls Tryz.prog 13 #[.agg #[.string a0_0, .string a0_1, .int .i64 a0_2]] w fun e w' => e = .returned (.agg #[.string r1, .string r2, .int .i64 r3]) ∧ Below w.heap.size w w' := by
 have hu23 := Tryz.underlying23
 have hu25 := Tryz.underlying25
 have HB := Aside0.mk (Below.refl w.heap.size w)
 have H : (some (a0_0, a0_1, a0_2)) = some (r1, r2, r3) := h
 clear h
 simp only [Option.some.injEq, Prod.mk.injEq] at H
 obtain ⟨rfl, rfl, rfl⟩ := H
 go_enter Tryz.func13, Tryz.ntmps13
 go_wp2_with (first | ((with_reducible refine gate_dst (N := 1) rfl ?_); refine box_event ?hg (N := 1) ?hd (cs := #[.string a0_0, .string a0_1, .int .i64 a0_2]) (t := 23) ?hr ?_; (case hd => rfl); (case hg => rfl); (case hr => first | (go_simp; done) | (go_simp; rfl)); intro b8 hg w2 hbox hb; have ak := Aside0.mk (hbox); have b9 := gx_ HB hg; have ca := gx_ HB hg; replace HB := bs_ HB hb; clear hb hbox hg) | ((with_reducible refine gate_dst (N := 2) rfl ?_); refine box_event ?hg (N := 2) ?hd (cs := #[.string (⟨#[]⟩ : ByteArray), .string (⟨#[]⟩ : ByteArray), .int .i64 0]) (t := 25) ?hr ?_; (case hd => rfl); (case hg => rfl); (case hr => first | (go_simp; done) | (go_simp; rfl)); intro aX hg w3 hbox hb; have al := Aside0.mk (hbox); have cb := gx_ HB hg; have cc := gx_ HB hg; replace HB := bs_ HB hb; have ay := nl_ ak hg; have az := ng_ ak hg; replace ak := bb_ ak hb; clear hb hbox hg) | ((with_reducible refine gate_dst (N := 3) rfl ?_); refine box_event ?hg (N := 3) ?hd (cs := #[.string (⟨#[]⟩ : ByteArray), .string (⟨#[]⟩ : ByteArray), .int .i64 0]) (t := 25) ?hr ?_; (case hd => rfl); (case hg => rfl); (case hr => first | (go_simp; done) | (go_simp; rfl)); intro cd hg w4 hbox hb; have ao := Aside0.mk (hbox); have ce := gx_ HB hg; have cf := gx_ HB hg; replace HB := bs_ HB hb; have aA := nl_ ak hg; have aB := ng_ ak hg; replace ak := bb_ ak hb; have aC := nl_ al hg; have aD := ng_ al hg; replace al := bb_ al hb; clear hb hbox hg; have cn := ay.out; have co := az.out; have cp := aA.out; have cq := aB.out; have bN := cz_ ak 0; have bO := cz_ ak 1; have bP := cz_ ak 2; have bQ := blk_frozen ak.out 0; have bR := blk_frozen ak.out 1; have bS := blk_frozen ak.out 2; have cr := aD.out; have ct := aC.out; have bU := cz_ ao 0; have bV := cz_ ao 1; have bW := cz_ ao 2; have bX := blk_frozen ao.out 0; have bZ := blk_frozen ao.out 1; have b0 := blk_frozen ao.out 2; have bE := cz_ al 0; have bF := cz_ al 1; have bG := cz_ al 2; have bH := blk_frozen al.out 0; have bI := blk_frozen al.out 1; have bJ := blk_frozen al.out 2))
 refine bodyPost_ret (results_cell_row rfl _ _ aX 25 #[.string a0_0, .string a0_1, .int .i64 a0_2] (0, 0) _ rfl (ps_ al.out) Tryz.underlying25 rfl (by kernel_rfl)) rfl ?_
 exact ⟨tw_, (tb_ HB.out)⟩

/-! ### impl_coloursOk: function 99 -/
def impl_coloursOk.f (a0 : Int) : Option (Bool) := if a0 ≥ 1 then (some (decide (a0 ≤ 3))) else (some false)
set_option maxHeartbeats 8000000 in
set_option maxRecDepth 100000 in
theorem impl_coloursOk.calls (a0 : Int) (r : Bool) (w : World) (h : impl_coloursOk.f a0 = some r) :
  Calls Tryz.prog 99 #[.int .i64 a0] w fun e w' => e = .returned (.bool r) ∧ Drawn0 w w' := by
 have H : (if a0 ≥ 1 then (some (decide (a0 ≤ 3))) else (some false)) = some r := h
 clear h
 by_cases c2 : a0 ≥ 1
 ·
  rw [if_pos c2] at H
  have aI : decide (1 ≤ a0) = true := decide_eq_true c2
  clear c2
  obtain rfl := Option.some.inj H
  go_enter Tryz.func99, Tryz.ntmps99
  go_wp2
  go_ret
  exact ⟨tx_, by repeat (first | exact Drawn0.refl _ | apply Drawn0.step)⟩
 ·
  rw [if_neg c2] at H
  have aI : decide (1 ≤ a0) = false := decide_eq_false c2
  clear c2
  obtain rfl := Option.some.inj H
  go_enter Tryz.func99, Tryz.ntmps99
  go_wp2
  go_ret
  exact ⟨tx_, by repeat (first | exact Drawn0.refl _ | apply Drawn0.step)⟩

/-! ### impl_UrnOk: function 62 -/
def impl_UrnOk.l0 : Nat → List Int → List Int → Int → Int → Option (Bool)
 | 0, _, _, _, _ => none
 | k + 1, x0, x5, x6, x7 => if x7 < x6 then (if 0 ≤ x7 then (if x7 < (x5.length : Int) then (if (rd x5 x7) < 0 then (some false) else (if (rd x5 x7) > 40 then (some false) else (impl_UrnOk.l0 k x0 x5 x6 (wrap64 (x7 + 1))))) else (none)) else (none)) else ((impl_coloursOk.f (x0.length : Int)).bind fun aM => (some aM))
def impl_UrnOk.f (k : Nat) (l0 : List Int) : Option (Bool) := impl_UrnOk.l0 k l0 l0 (l0.length : Int) 0
theorem impl_UrnOk.mono_l : ∀ k, (∀ y0 y1 y2 y3, LeO (impl_UrnOk.l0 k y0 y1 y2 y3) (impl_UrnOk.l0 (k + 1) y0 y1 y2 y3))
 | 0 => fun _ _ _ _ r h => by simp [impl_UrnOk.l0] at h
 | k + 1 => by
  have ih0 := impl_UrnOk.mono_l k
  ·
   intro y0 y1 y2 y3
   unfold impl_UrnOk.l0
   repeat' (with_reducible first | exact ih0 _ _ _ _ | exact mr_ | exact mn_ | refine mi_ ?_ ?_ | refine mb_ ?_ (fun _ => ?_))
theorem impl_UrnOk.mono : ∀ a0 k, LeO (impl_UrnOk.f k a0) (impl_UrnOk.f (k + 1) a0) := by
 intro a0 k
 have ih0 := impl_UrnOk.mono_l k
 unfold impl_UrnOk.f
 repeat' (with_reducible first | exact ih0 _ _ _ _ | exact mr_ | exact mn_ | refine mi_ ?_ ?_ | refine mb_ ?_ (fun _ => ?_))
set_option maxHeartbeats 8000000 in
set_option maxRecDepth 100000 in
theorem impl_UrnOk.calls (k : Nat) (A0 : Option Addr) (c0 : Nat) (l0 : List Int) (r : Bool) (w : World) (hr0 : Kd.C (Kd.int .i64) w A0 l0.length l0) (hc0 : l0.length ≤ c0) (h : impl_UrnOk.f k l0 = some r) :
  Calls Tryz.prog 62 #[.slice A0 l0.length c0] w fun e w' => e = .returned (.bool r) ∧ Drawn0 w w' := by
 have HR0 := Aside0.mk hr0
 have HC0 := Aside0.mk hc0
 clear hr0 hc0
 have H : (impl_UrnOk.l0 k l0 l0 (l0.length : Int) 0) = some r := h
 clear h
 have H' := Aside0.mk H
 clear H
 go_enter Tryz.func62, Tryz.ntmps62
 go_wp2
 go_loopg [7] k (fun kq v7 w' => ∃ (ae : Int), v7 = .int .i64 ae ∧ Aside0 (impl_UrnOk.l0 kq l0 l0 (l0.length : Int) ae = some r) ∧ Aside0 (kq ≤ k) ∧ Drawn0 w w')
 case atStart => exact ⟨(0), tx_, H', ⟨Nat.le_refl _⟩, by repeat (first | exact Drawn0.refl _ | apply Drawn0.step)⟩
 case round =>
  clear H'
  obtain ⟨ae, rfl, HA, HK1, ⟨m1, rfl⟩⟩ := hrel
  cases gk with
  | zero => exact absurd HA.out (by simp [impl_UrnOk.l0])
  | succ k1 =>
   have H := HA.out
   clear HA
   simp only [impl_UrnOk.l0] at H
   by_cases c2 : ae < (l0.length : Int)
   ·
    rw [if_pos c2] at H
    have aI : decide (ae < (l0.length : Int)) = true := decide_eq_true c2
    clear c2
    by_cases c3 : 0 ≤ ae
    ·
     rw [if_pos c3] at H
     have aN : decide (0 ≤ ae) = true := decide_eq_true c3
     clear c3
     by_cases c4 : ae < (l0.length : Int)
     ·
      rw [if_pos c4] at H
      have aY : decide (ae < (l0.length : Int)) = true := decide_eq_true c4
      clear c4
      by_cases c5 : (rd l0 ae) < 0
      ·
       rw [if_pos c5] at H
       have ar : decide ((rd l0 ae) < 0) = true := decide_eq_true c5
       clear c5
       obtain rfl := Option.some.inj H
       have p291 : 0 ≤ (ae : Int) := od_
       have q291 : ae < (l0.length : Int) := od_
       obtain ⟨ad291, e291, av⟩ := Kd.at_int HR0.out ae p291 q291
       cases e291
       replace p291 := eq_true p291
       replace q291 := eq_true q291
       go_wp2
       go_ret
       exact ⟨tx_, by repeat (first | exact Drawn0.refl _ | apply Drawn0.step)⟩
      ·
       rw [if_neg c5] at H
       have ar : decide ((rd l0 ae) < 0) = false := decide_eq_false c5
       clear c5
       by_cases c6 : (rd l0 ae) > 40
       ·
        rw [if_pos c6] at H
        have aG : decide (40 < (rd l0 ae)) = true := decide_eq_true c6
        clear c6
        obtain rfl := Option.some.inj H
        have p291 : 0 ≤ (ae : Int) := od_
        have q291 : ae < (l0.length : Int) := od_
        obtain ⟨ad291, e291, av⟩ := Kd.at_int HR0.out ae p291 q291
        cases e291
        replace p291 := eq_true p291
        replace q291 := eq_true q291
        go_wp2
        go_ret
        exact ⟨tx_, by repeat (first | exact Drawn0.refl _ | apply Drawn0.step)⟩
       ·
        rw [if_neg c6] at H
        have aG : decide (40 < (rd l0 ae)) = false := decide_eq_false c6
        clear c6
        have H' := Aside0.mk H
        clear H
        have p291 : 0 ≤ (ae : Int) := od_
        have q291 : ae < (l0.length : Int) := od_
        obtain ⟨ad291, e291, av⟩ := Kd.at_int HR0.out ae p291 q291
        cases e291
        replace p291 := eq_true p291
        replace q291 := eq_true q291
        go_wp2
        go_roundg k1
        case measure => have := HK1.out; omega
        case rel => exact ⟨(wrap64 (ae + 1)), tx_, H', ⟨by have := HK1.out; omega⟩, by repeat (first | exact Drawn0.refl _ | apply Drawn0.step)⟩
     ·
      rw [if_neg c4] at H
      exact absurd H (by simp)
    ·
     rw [if_neg c3] at H
     exact absurd H (by simp)
   ·
    rw [if_neg c2] at H
    have aI : decide (ae < (l0.length : Int)) = false := decide_eq_false c2
    clear c2
    obtain ⟨aM, A7, H⟩ := bnd_ H
    try dsimp only at H
    obtain rfl := Option.some.inj H
    go_wp2_with (first | ((with_reducible refine gate_callee (f := 99) rfl ?_); refine gl_ (some 20) Tryz.func99 #[.int .i64 (l0.length : Int)] ?_; (with_reducible refine (impl_coloursOk.calls (l0.length : Int) aM _ A7.out).mono ?_); rintro e w' ⟨rfl, ⟨nd, rfl⟩⟩; refine ⟨_, rfl, ?_⟩))
    go_ret
    exact ⟨tx_, by repeat (first | exact Drawn0.refl _ | apply Drawn0.step)⟩

/-! ### impl_StartOk: function 92 -/
def impl_StartOk.l0 : Nat → List Int → List Int → Int → Int → Option (Bool)
 | 0, _, _, _, _ => none
 | k + 1, x0, x5, x6, x7 => if x7 < x6 then (if 0 ≤ x7 then (if x7 < (x5.length : Int) then (if (rd x5 x7) > 10 then (some false) else (impl_StartOk.l0 k x0 x5 x6 (wrap64 (x7 + 1)))) else (none)) else (none)) else ((impl_UrnOk.f k x0).bind fun aO => (some aO))
def impl_StartOk.f (k : Nat) (l0 : List Int) : Option (Bool) := impl_StartOk.l0 k l0 l0 (l0.length : Int) 0
theorem impl_StartOk.mono_l : ∀ k, (∀ y0 y1 y2 y3, LeO (impl_StartOk.l0 k y0 y1 y2 y3) (impl_StartOk.l0 (k + 1) y0 y1 y2 y3))
 | 0 => fun _ _ _ _ r h => by simp [impl_StartOk.l0] at h
 | k + 1 => by
  have ih0 := impl_StartOk.mono_l k
  ·
   intro y0 y1 y2 y3
   unfold impl_StartOk.l0
   repeat' (with_reducible first | exact ih0 _ _ _ _ | exact impl_UrnOk.mono _ _ | exact mr_ | exact mn_ | refine mi_ ?_ ?_ | refine mb_ ?_ (fun _ => ?_))
theorem impl_StartOk.mono : ∀ a0 k, LeO (impl_StartOk.f k a0) (impl_StartOk.f (k + 1) a0) := by
 intro a0 k
 have ih0 := impl_StartOk.mono_l k
 unfold impl_StartOk.f
 repeat' (with_reducible first | exact ih0 _ _ _ _ | exact impl_UrnOk.mono _ _ | exact mr_ | exact mn_ | refine mi_ ?_ ?_ | refine mb_ ?_ (fun _ => ?_))
set_option maxHeartbeats 8000000 in
set_option maxRecDepth 100000 in
theorem impl_StartOk.calls (k : Nat) (A0 : Option Addr) (c0 : Nat) (l0 : List Int) (r : Bool) (w : World) (hr0 : Kd.C (Kd.int .i64) w A0 l0.length l0) (hc0 : l0.length ≤ c0) (h : impl_StartOk.f k l0 = some r) :
  Calls Tryz.prog 92 #[.slice A0 l0.length c0] w fun e w' => e = .returned (.bool r) ∧ Drawn0 w w' := by
 have HR0 := Aside0.mk hr0
 have HC0 := Aside0.mk hc0
 clear hr0 hc0
 have H : (impl_StartOk.l0 k l0 l0 (l0.length : Int) 0) = some r := h
 clear h
 have H' := Aside0.mk H
 clear H
 go_enter Tryz.func92, Tryz.ntmps92
 go_wp2
 go_loopg [7] k (fun kq v7 w' => ∃ (ae : Int), v7 = .int .i64 ae ∧ Aside0 (impl_StartOk.l0 kq l0 l0 (l0.length : Int) ae = some r) ∧ Aside0 (kq ≤ k) ∧ Drawn0 w w')
 case atStart => exact ⟨(0), tx_, H', ⟨Nat.le_refl _⟩, by repeat (first | exact Drawn0.refl _ | apply Drawn0.step)⟩
 case round =>
  clear H'
  obtain ⟨ae, rfl, HA, HK1, ⟨m1, rfl⟩⟩ := hrel
  cases gk with
  | zero => exact absurd HA.out (by simp [impl_StartOk.l0])
  | succ k1 =>
   have H := HA.out
   clear HA
   simp only [impl_StartOk.l0] at H
   by_cases c2 : ae < (l0.length : Int)
   ·
    rw [if_pos c2] at H
    have aI : decide (ae < (l0.length : Int)) = true := decide_eq_true c2
    clear c2
    by_cases c3 : 0 ≤ ae
    ·
     rw [if_pos c3] at H
     have aN : decide (0 ≤ ae) = true := decide_eq_true c3
     clear c3
     by_cases c4 : ae < (l0.length : Int)
     ·
      rw [if_pos c4] at H
      have aY : decide (ae < (l0.length : Int)) = true := decide_eq_true c4
      clear c4
      by_cases c5 : (rd l0 ae) > 10
      ·
       rw [if_pos c5] at H
       have ar : decide (10 < (rd l0 ae)) = true := decide_eq_true c5
       clear c5
       obtain rfl := Option.some.inj H
       have p293 : 0 ≤ (ae : Int) := od_
       have q293 : ae < (l0.length : Int) := od_
       obtain ⟨ad293, e293, aK⟩ := Kd.at_int HR0.out ae p293 q293
       cases e293
       replace p293 := eq_true p293
       replace q293 := eq_true q293
       go_wp2
       go_ret
       exact ⟨tx_, by repeat (first | exact Drawn0.refl _ | apply Drawn0.step)⟩
      ·
       rw [if_neg c5] at H
       have ar : decide (10 < (rd l0 ae)) = false := decide_eq_false c5
       clear c5
       have H' := Aside0.mk H
       clear H
       have p293 : 0 ≤ (ae : Int) := od_
       have q293 : ae < (l0.length : Int) := od_
       obtain ⟨ad293, e293, aK⟩ := Kd.at_int HR0.out ae p293 q293
       cases e293
       replace p293 := eq_true p293
       replace q293 := eq_true q293
       go_wp2
       go_roundg k1
       case measure => have := HK1.out; omega
       case rel => exact ⟨(wrap64 (ae + 1)), tx_, H', ⟨by have := HK1.out; omega⟩, by repeat (first | exact Drawn0.refl _ | apply Drawn0.step)⟩
     ·
      rw [if_neg c4] at H
      exact absurd H (by simp)
    ·
     rw [if_neg c3] at H
     exact absurd H (by simp)
   ·
    rw [if_neg c2] at H
    have aI : decide (ae < (l0.length : Int)) = false := decide_eq_false c2
    clear c2
    obtain ⟨aO, A6, H⟩ := bnd_ H
    try dsimp only at H
    obtain rfl := Option.some.inj H
    go_wp2_with (first | ((with_reducible refine gate_callee (f := 62) rfl ?_); refine gl_ (some 15) Tryz.func62 #[.slice A0 l0.length c0] ?_; (with_reducible refine (impl_UrnOk.calls k1 _ _ l0 aO _ ?s1 ?s2 A6.out).mono ?_); (case s1 => exact td_); (case s2 => exact HC0.out); rintro e w' ⟨rfl, ⟨nd, rfl⟩⟩; refine ⟨_, rfl, ?_⟩))
    go_ret
    exact ⟨tx_, by repeat (first | exact Drawn0.refl _ | apply Drawn0.step)⟩

/-! ### impl_WordOk: function 93 -/
def impl_WordOk.l0 : Nat → Int → List Int → List Int → Int → Int → Option (Bool)
 | 0, _, _, _, _, _ => none
 | k + 1, x0, x1, x7, x8, x9 => if x9 < x8 then (if 0 ≤ x9 then (if x9 < (x7.length : Int) then (if (rd x7 x9) < 0 then (some false) else (if (rd x7 x9) ≥ x0 then (some false) else (impl_WordOk.l0 k x0 x1 x7 x8 (wrap64 (x9 + 1))))) else (none)) else (none)) else ((impl_coloursOk.f x0).bind fun aP => (if aP = true then (some (decide ((x1.length : Int) ≤ 6))) else (some false)))
def impl_WordOk.f (k : Nat) (a0 : Int) (l1 : List Int) : Option (Bool) := impl_WordOk.l0 k a0 l1 l1 (l1.length : Int) 0
theorem impl_WordOk.mono_l : ∀ k, (∀ y0 y1 y2 y3 y4, LeO (impl_WordOk.l0 k y0 y1 y2 y3 y4) (impl_WordOk.l0 (k + 1) y0 y1 y2 y3 y4))
 | 0 => fun _ _ _ _ _ r h => by simp [impl_WordOk.l0] at h
 | k + 1 => by
  have ih0 := impl_WordOk.mono_l k
  ·
   intro y0 y1 y2 y3 y4
   unfold impl_WordOk.l0
   repeat' (with_reducible first | exact ih0 _ _ _ _ _ | exact mr_ | exact mn_ | refine mi_ ?_ ?_ | refine mb_ ?_ (fun _ => ?_))
theorem impl_WordOk.mono : ∀ a0 a1 k, LeO (impl_WordOk.f k a0 a1) (impl_WordOk.f (k + 1) a0 a1) := by
 intro a0 a1 k
 have ih0 := impl_WordOk.mono_l k
 unfold impl_WordOk.f
 repeat' (with_reducible first | exact ih0 _ _ _ _ _ | exact mr_ | exact mn_ | refine mi_ ?_ ?_ | refine mb_ ?_ (fun _ => ?_))
set_option maxHeartbeats 8000000 in
set_option maxRecDepth 100000 in
theorem impl_WordOk.calls (k : Nat) (a0 : Int) (A1 : Option Addr) (c1 : Nat) (l1 : List Int) (r : Bool) (w : World) (hr1 : Kd.C (Kd.int .i64) w A1 l1.length l1) (hc1 : l1.length ≤ c1) (h : impl_WordOk.f k a0 l1 = some r) :
  Calls Tryz.prog 93 #[.int .i64 a0, .slice A1 l1.length c1] w fun e w' => e = .returned (.bool r) ∧ Drawn0 w w' := by
 have HR1 := Aside0.mk hr1
 have HC1 := Aside0.mk hc1
 clear hr1 hc1
 have H : (impl_WordOk.l0 k a0 l1 l1 (l1.length : Int) 0) = some r := h
 clear h
 have H' := Aside0.mk H
 clear H
 go_enter Tryz.func93, Tryz.ntmps93
 go_wp2
 go_loopg [9] k (fun kq v9 w' => ∃ (ag : Int), v9 = .int .i64 ag ∧ Aside0 (impl_WordOk.l0 kq a0 l1 l1 (l1.length : Int) ag = some r) ∧ Aside0 (kq ≤ k) ∧ Drawn0 w w')
 case atStart => exact ⟨(0), tx_, H', ⟨Nat.le_refl _⟩, by repeat (first | exact Drawn0.refl _ | apply Drawn0.step)⟩
 case round =>
  clear H'
  try clear c1
  try clear p2
  obtain ⟨ag, rfl, HA, HK1, ⟨m1, rfl⟩⟩ := hrel
  cases gk with
  | zero => exact absurd HA.out (by simp [impl_WordOk.l0])
  | succ k1 =>
   have H := HA.out
   clear HA
   simp only [impl_WordOk.l0] at H
   by_cases c3 : ag < (l1.length : Int)
   ·
    rw [if_pos c3] at H
    have aN : decide (ag < (l1.length : Int)) = true := decide_eq_true c3
    clear c3
    by_cases c4 : 0 ≤ ag
    ·
     rw [if_pos c4] at H
     have aY : decide (0 ≤ ag) = true := decide_eq_true c4
     clear c4
     by_cases c5 : ag < (l1.length : Int)
     ·
      rw [if_pos c5] at H
      have ar : decide (ag < (l1.length : Int)) = true := decide_eq_true c5
      clear c5
      by_cases c6 : (rd l1 ag) < 0
      ·
       rw [if_pos c6] at H
       have aG : decide ((rd l1 ag) < 0) = true := decide_eq_true c6
       clear c6
       obtain rfl := Option.some.inj H
       have p295 : 0 ≤ (ag : Int) := od_
       have q295 : ag < (l1.length : Int) := od_
       obtain ⟨ad295, e295, aw⟩ := Kd.at_int HR1.out ag p295 q295
       cases e295
       replace p295 := eq_true p295
       replace q295 := eq_true q295
       go_wp2
       go_ret
       exact ⟨tx_, by repeat (first | exact Drawn0.refl _ | apply Drawn0.step)⟩
      ·
       rw [if_neg c6] at H
       have aG : decide ((rd l1 ag) < 0) = false := decide_eq_false c6
       clear c6
       by_cases c7 : (rd l1 ag) ≥ a0
       ·
        rw [if_pos c7] at H
        have aZ : decide (a0 ≤ (rd l1 ag)) = true := decide_eq_true c7
        clear c7
        obtain rfl := Option.some.inj H
        have p295 : 0 ≤ (ag : Int) := od_
        have q295 : ag < (l1.length : Int) := od_
        obtain ⟨ad295, e295, aw⟩ := Kd.at_int HR1.out ag p295 q295
        cases e295
        replace p295 := eq_true p295
        replace q295 := eq_true q295
        go_wp2
        go_ret
        exact ⟨tx_, by repeat (first | exact Drawn0.refl _ | apply Drawn0.step)⟩
       ·
        rw [if_neg c7] at H
        have aZ : decide (a0 ≤ (rd l1 ag)) = false := decide_eq_false c7
        clear c7
        have H' := Aside0.mk H
        clear H
        have p295 : 0 ≤ (ag : Int) := od_
        have q295 : ag < (l1.length : Int) := od_
        obtain ⟨ad295, e295, aw⟩ := Kd.at_int HR1.out ag p295 q295
        cases e295
        replace p295 := eq_true p295
        replace q295 := eq_true q295
        go_wp2
        go_roundg k1
        case measure => have := HK1.out; omega
        case rel => exact ⟨(wrap64 (ag + 1)), tx_, H', ⟨by have := HK1.out; omega⟩, by repeat (first | exact Drawn0.refl _ | apply Drawn0.step)⟩
     ·
      rw [if_neg c5] at H
      exact absurd H (by simp)
    ·
     rw [if_neg c4] at H
     exact absurd H (by simp)
   ·
    rw [if_neg c3] at H
    have aN : decide (ag < (l1.length : Int)) = false := decide_eq_false c3
    clear c3
    obtain ⟨aP, A8, H⟩ := bnd_ H
    try dsimp only at H
    by_cases c9 : aP = true
    ·
     subst c9
     have H1 : (some (decide ((l1.length : Int) ≤ 6))) = some r := by rw [if_pos rfl] at H; exact H
     clear H
     have H := H1
     clear H1
     obtain rfl := Option.some.inj H
     go_wp2_with (first | ((with_reducible refine gate_callee (f := 99) rfl ?_); refine gl_ (some 22) Tryz.func99 #[.int .i64 a0] ?_; (with_reducible refine (impl_coloursOk.calls a0 true _ A8.out).mono ?_); rintro e w' ⟨rfl, ⟨nd, rfl⟩⟩; refine ⟨_, rfl, ?_⟩))
     go_ret
     exact ⟨tx_, by repeat (first | exact Drawn0.refl _ | apply Drawn0.step)⟩
    ·
     replace c9 := Bool.eq_false_iff.mpr c9
     subst c9
     have H1 : (some false) = some r := by rw [if_neg (show ¬ (false = true) by decide)] at H; exact H
     clear H
     have H := H1
     clear H1
     obtain rfl := Option.some.inj H
     go_wp2_with (first | ((with_reducible refine gate_callee (f := 99) rfl ?_); refine gl_ (some 22) Tryz.func99 #[.int .i64 a0] ?_; (with_reducible refine (impl_coloursOk.calls a0 false _ A8.out).mono ?_); rintro e w' ⟨rfl, ⟨nd, rfl⟩⟩; refine ⟨_, rfl, ?_⟩))
     go_ret
     exact ⟨tx_, by repeat (first | exact Drawn0.refl _ | apply Drawn0.step)⟩

/-! ### slices_Clone_int_int: function 100 -/
def slices_Clone_int_int.f (l0 : List Int) : Option (List Int) := if l0.length * 8 ≤ 140737488355328 then some l0 else none
theorem slices_Clone_int_int.calls (A0 : Option Addr) (c0 : Nat) (l0 : List Int) (r : List Int) (w : World) (hr0 : Kd.C (Kd.int .i64) w A0 l0.length l0) (hc0 : l0.length ≤ c0) (h : slices_Clone_int_int.f l0 = some r) :
  Calls Tryz.prog 100 #[.slice A0 l0.length c0] w fun e w' => ∃ v0_ : Value, e = .returned (v0_) ∧ Kd.R (Kd.int .i64) 3 w' w.heap.size (fun _ => True) v0_ r ∧ Below w.heap.size w w' := by
 unfold slices_Clone_int_int.f at h
 by_cases hl : l0.length * 8 ≤ 140737488355328
 ·
  rw [if_pos hl] at h
  obtain rfl := Option.some.inj h
  rcases Nat.eq_zero_or_pos l0.length with h0 | h0
  ·
   obtain rfl : l0 = [] := List.eq_nil_of_length_eq_zero h0
   cases A0 with
   | none => exact (Sh.Tryz.slices_Clone_int_nil 0 c0 w).mono fun e w' ⟨he, hw⟩ => ⟨.slice none 0 0, he, Kd.R_nil _ _ _ _ _, hw ▸ Below.refl _ _⟩
   | some ad => exact (Sh.Tryz.slices_Clone_int_zero ad c0 w).mono fun e w' ⟨v, he, ho, _, hb⟩ => ⟨v, he, Kd.R_of_own (xs := []) ho (fun _ _ => trivial), hb⟩
  ·
   obtain ⟨ad, rfl, hc⟩ := hr0.2.2 h0
   have hcell : ∀ j, j < l0.length → w.cell? (ad.add j) = some (.int .i64 (l0.getD j 0)) := by
    intro j hj
    obtain ⟨c, hc1, hc2, hc3⟩ := hc j _ (List.getElem?_eq_getElem hj)
    have e1 : c = [.int .i64 l0[j]] := hc2
    have := hc3 0 _ (by rw [e1]; rfl)
    rw [List.getD_eq_getElem?_getD, List.getElem?_eq_getElem hj]
    simpa [Kd.int, Kd.scalar] using this
   have hs := hcell 0 h0
   have hsp : ad.spot = none := by
    cases hq : ad.spot with
    | none => rfl
    | some q => simp [World.cell?, Addr.add, hq] at hs; split at hs <;> simp at hs
   obtain ⟨b, o, sp⟩ := ad
   simp only at hsp
   subst hsp
   refine (Sh.Tryz.slices_Clone_int b o l0.length c0 l0 w (Nat.le_refl _) hl (fun j hj => by have := hcell j hj; unfold Addr.add at this; split at this <;> simp_all)).mono fun e w' ⟨v, he, ho, _, hb⟩ => ⟨v, he, Kd.R_of_own (by rw [List.take_length] at ho; exact ho) (fun _ _ => trivial), hb⟩
 ·
  rw [if_neg hl] at h
  exact absurd h (by simp)

/-! ### impl_added: function 126 -/
def impl_added.l0 : Nat → List Int → List Int → Int → Int → Option (List Int)
 | 0, _, _, _, _ => none
 | k + 1, x5, x10, x11, x12 => if x12 < x11 then (if 0 ≤ x12 then (if x12 < (x10.length : Int) then (if x12 < (x5.length : Int) then (impl_added.l0 k (x5.set (x12 : Int).toNat (wrap64 ((rd x5 x12) + (rd x10 x12)))) x10 x11 (wrap64 (x12 + 1))) else (none)) else (none)) else (none)) else (some x5)
def impl_added.f (k : Nat) (l0 : List Int) (l1 : List Int) : Option (List Int) := (slices_Clone_int_int.f l0).bind fun aE => (impl_added.l0 k aE l1 (l1.length : Int) 0)
theorem impl_added.mono_l : ∀ k, (∀ y0 y1 y2 y3, LeO (impl_added.l0 k y0 y1 y2 y3) (impl_added.l0 (k + 1) y0 y1 y2 y3))
 | 0 => fun _ _ _ _ r h => by simp [impl_added.l0] at h
 | k + 1 => by
  have ih0 := impl_added.mono_l k
  ·
   intro y0 y1 y2 y3
   unfold impl_added.l0
   repeat' (with_reducible first | exact ih0 _ _ _ _ | exact mr_ | exact mn_ | refine mi_ ?_ ?_ | refine mb_ ?_ (fun _ => ?_))
theorem impl_added.mono : ∀ a0 a1 k, LeO (impl_added.f k a0 a1) (impl_added.f (k + 1) a0 a1) := by
 intro a0 a1 k
 have ih0 := impl_added.mono_l k
 unfold impl_added.f
 repeat' (with_reducible first | exact ih0 _ _ _ _ | exact mr_ | exact mn_ | refine mi_ ?_ ?_ | refine mb_ ?_ (fun _ => ?_))
set_option maxHeartbeats 8000000 in
set_option maxRecDepth 100000 in
theorem impl_added.calls (k : Nat) (A0 : Option Addr) (c0 : Nat) (l0 : List Int) (A1 : Option Addr) (c1 : Nat) (l1 : List Int) (r : List Int) (w : World) (hr0 : Kd.C (Kd.int .i64) w A0 l0.length l0) (hc0 : l0.length ≤ c0) (hr1 : Kd.C (Kd.int .i64) w A1 l1.length l1) (hc1 : l1.length ≤ c1) (h : impl_added.f k l0 l1 = some r) :
  Calls Tryz.prog 126 #[.slice A0 l0.length c0, .slice A1 l1.length c1] w fun e w' => ∃ v0_ : Value, e = .returned (v0_) ∧ Kd.R (Kd.int .i64) 3 w' w.heap.size (fun _ => True) v0_ r ∧ Below w.heap.size w w' := by
 have HR0 := Aside0.mk hr0
 have HC0 := Aside0.mk hc0
 clear hr0 hc0
 have HR1 := Aside0.mk hr1
 have HC1 := Aside0.mk hc1
 clear hr1 hc1
 have HB := Aside0.mk (Below.refl w.heap.size w)
 have H : ((slices_Clone_int_int.f l0).bind fun aE => (impl_added.l0 k aE l1 (l1.length : Int) 0)) = some r := h
 clear h
 obtain ⟨aE, A3, H⟩ := bnd_ H
 try dsimp only at H
 have H' := Aside0.mk H
 clear H
 go_enter Tryz.func126, Tryz.ntmps126
 go_wp2_with (first | ((with_reducible refine gate_callee (f := 100) rfl ?_); refine gl_ (some 9) Tryz.func100 #[.slice A0 l0.length c0] ?_; (with_reducible refine (slices_Clone_int_int.calls _ _ l0 aE _ ?s1 ?s2 A3.out).mono ?_); (case s1 => exact td_); (case s2 => exact HC0.out); rintro e w4 ⟨b1, rfl, ho0, hb⟩; refine ⟨_, rfl, ?_⟩; have a3 := rx_ ho0 HB; replace HB := bs_ HB hb; (try clear hb); (try clear hb2); (try clear hk); (try clear hi); (try clear ho0)))
 go_loopg [12] k (fun kq cu w' => ∃ (am : List Int) (ac : Int), cu = .int .i64 ac ∧ Aside0 (impl_added.l0 kq am l1 (l1.length : Int) ac = some r) ∧ Aside0 (kq ≤ k) ∧ Aside0 (Kd.R (Kd.int .i64) 3 w' w.heap.size (fun _ => True) b1 am) ∧ Aside0 (Below w.heap.size w w'))
 case atStart => exact ⟨(aE), (0), tx_, H', ⟨Nat.le_refl _⟩, ⟨rR_ a3.out⟩, ⟨(tb_ HB.out)⟩⟩
 case round =>
  clear H'
  try clear c1
  try clear p2
  obtain ⟨am, ac, rfl, HA, HK1, aq, HB⟩ := hrel
  cases gk with
  | zero => exact absurd HA.out (by simp [impl_added.l0])
  | succ k1 =>
   have H := HA.out
   clear HA
   simp only [impl_added.l0] at H
   by_cases c5 : ac < (l1.length : Int)
   ·
    rw [if_pos c5] at H
    have ar : decide (ac < (l1.length : Int)) = true := decide_eq_true c5
    clear c5
    by_cases c6 : 0 ≤ ac
    ·
     rw [if_pos c6] at H
     have aG : decide (0 ≤ ac) = true := decide_eq_true c6
     clear c6
     by_cases c7 : ac < (l1.length : Int)
     ·
      rw [if_pos c7] at H
      have aZ : decide (ac < (l1.length : Int)) = true := decide_eq_true c7
      clear c7
      by_cases c8 : ac < (am.length : Int)
      ·
       rw [if_pos c8] at H
       have cv : decide (ac < (am.length : Int)) = true := decide_eq_true c8
       clear c8
       obtain ⟨aQ, aJ⟩ : ∃ y_ : List Int, y_ = (am.set (ac : Int).toNat (wrap64 ((rd am ac) + (rd l1 ac)))) := ⟨_, rfl⟩
       replace H : (impl_added.l0 k1 aQ l1 (l1.length : Int) (wrap64 (ac + 1))) = some r := yq_ aJ H
       have a4 := Aside0.mk aJ
       clear aJ
       have H' := Aside0.mk H
       clear H
       have p300 : 0 ≤ (ac : Int) := od_
       have q300 : ac < (l1.length : Int) := od_
       obtain ⟨ad300, e300, ap⟩ := Kd.at_int HR1.out ac p300 q300
       cases e300
       replace ap := (HB.out.cell (World.block_lt_of_cell? w _ ap)).trans ap
       replace p300 := eq_true p300
       replace q300 := eq_true q300
       obtain ⟨cw, b2, b3⟩ := Kd.R_slice aq.out
       subst b3
       have p301 : 0 ≤ (ac : Int) := od_
       have q301 : ac < (am.length : Int) := od_
       obtain ⟨ad301, e301, aL⟩ := Kd.at_int (Kd.R_reads' aq.out).2.2 ac p301 q301
       cases e301
       replace p301 := eq_true p301
       replace q301 := eq_true q301
       have p9 : 0 ≤ (ac : Int) := od_
       have q9 : (ac : Int) < ((am.length : Int) : Int) := od_
       obtain ⟨go9, co9, cg, ch, gl9, cl9, HG9⟩ := Kd.R_form aq.out (by omega)
       (first | cases cg | (injection cg with ea_ en_ ec_; (first | subst ea_ | (injection ea_ with ea_; subst ea_)); subst ec_; clear en_))
       have GB9 := Aside0.mk ch
       have GG9 := Aside0.mk HG9
       clear ch gl9 HG9
       (first | simp only [add_plain] at aL | skip)
       obtain ⟨ci, hf9_0⟩ := Kd.R_celln 0 aq.out (ac : Int) p9 q9
       replace p9 := eq_true p9
       replace q9 := eq_true q9
       have HP11 := Kd.R_putg aq.out (ac : Int) (wrap64 ((rd am ac) + (rd l1 ac)))
       go_wp2_with (first | ((with_reducible refine gate_store (t := 3) (p := 23) rfl ?_); refine store_event (t := 3) (p := 23) (v := ?vo_w12) (w1 := (wr.setCell ⟨go9, (ac : Int).toNat, none⟩ (.int .i64 (wrap64 ((rd am ac) + (rd l1 ac)))))) ?hg ?ho ?hn ?hr ?_; (case ho => rfl); (case hg => rfl); (case hn => rfl); (case hr => first | (go_simp; done) | (go_simp; rfl)); intro bc hw; have hg : wr.grownBy bc (some go9) := (by rw [hw]; exact HP11.2); have hp_ : Kd.R (Kd.int .i64) 3 bc w.heap.size (fun _ => True) (.slice (some ⟨go9, 0, none⟩) am.length b2) aQ := (by rw [hw, a4.out]; exact HP11.1); clear HP11; replace aq := Aside0.mk (hp_); replace HB := Aside0.mk ((by rw [hw]; exact below_set (HB.out) GB9.out : Below w.heap.size w bc)); clear hg hw hp_))
       go_roundg k1
       case measure => have := HK1.out; omega
       case rel => exact ⟨(aQ), (wrap64 (ac + 1)), tx_, H', ⟨by have := HK1.out; omega⟩, ⟨rR_ aq.out⟩, ⟨(tb_ HB.out)⟩⟩
      ·
       rw [if_neg c8] at H
       exact absurd H (by simp)
     ·
      rw [if_neg c7] at H
      exact absurd H (by simp)
    ·
     rw [if_neg c6] at H
     exact absurd H (by simp)
   ·
    rw [if_neg c5] at H
    have ar : decide (ac < (l1.length : Int)) = false := decide_eq_false c5
    clear c5
    obtain rfl := Option.some.inj H
    go_wp2
    go_ret
    exact ⟨_, tw_, by refine qR_ ?_; exact aq.out, (tb_ HB.out)⟩

end Go.Proofs.YtfibbdefcppfcaaGreatDoor.MFnExactStoreMend
