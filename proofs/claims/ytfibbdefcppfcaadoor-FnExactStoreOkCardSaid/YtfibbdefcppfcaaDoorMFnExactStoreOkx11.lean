/- For the law FnExactStoreOk: walks of the functions that it reaches: each call returns what the plain function beside it tells. The conditions stand in each statement. -/
import Derived.Test.YtfibbdefcppfcaaDoorV
import Derived.Test.YtfibbdefcppfcaaDoorMFnExactStoreOkx0
import Derived.Test.YtfibbdefcppfcaaDoorMFnExactStoreOkx1
import Derived.Test.YtfibbdefcppfcaaDoorMFnExactStoreOkx7
import Derived.Test.YtfibbdefcppfcaaDoorMFnExactStoreOkx10
namespace Go.Proofs.YtfibbdefcppfcaaDoor.MFnExactStoreOk
open Go.RowKit Go.Proofs.YtfibbdefcppfcaaDoorW.PrintWords Go.Proofs.YtfibbdefcppfcaaDoorW.PrintLast Go.Proofs.YtfibbdefcppfcaaDoorW.PrintMore
attribute [local go_sem] max2_int min2_int max_two min_two max_three min_three max_four min_four   -- for this text's walks alone
set_option linter.unusedVariables false
set_option linter.unusedSimpArgs false

/-! ### laws_FnExactStoreOk: function 3 -/
def laws_FnExactStoreOk.f (k : Nat) (a0_0 : ByteArray) (a0_1 : ByteArray) (a0_2 : Int) : Option (Bool) := (laws_szStore.f a0_0 a0_1 a0_2 1048576).bind fun af => (if af < 0 then (some true) else ((laws_toStore.f a0_0 a0_1 a0_2).bind fun ad => ((spec_StoreOk.f k ad.1 ad.2.1 ad.2.2).bind fun ab => ((laws_toStore.f a0_0 a0_1 a0_2).bind fun ae => ((impl_StoreOk.f k ae.1 ae.2.1 ae.2.2).bind fun ac => (if (ac != ab) = true then (some false) else (some true)))))))
theorem laws_FnExactStoreOk.mono : ∀ a0 a1 a2 k, LeO (laws_FnExactStoreOk.f k a0 a1 a2) (laws_FnExactStoreOk.f (k + 1) a0 a1 a2) := by
 intro a0 a1 a2 k
 unfold laws_FnExactStoreOk.f
 repeat' (with_reducible first | exact impl_StoreOk.mono _ _ _ _ | exact spec_StoreOk.mono _ _ _ _ | exact mr_ | exact mn_ | refine mi_ ?_ ?_ | refine mb_ ?_ (fun _ => ?_))
set_option maxHeartbeats 8000000 in
set_option maxRecDepth 100000 in
theorem laws_FnExactStoreOk.calls (k : Nat) (a0_0 : ByteArray) (a0_1 : ByteArray) (a0_2 : Int) (r : Bool) (w : World) (hG : GWb w) (h : laws_FnExactStoreOk.f k a0_0 a0_1 a0_2 = some r) :
  Calls Tryd.prog 3 #[.agg #[.string a0_0, .string a0_1, .int .i64 a0_2]] w fun e w' => e = .returned (.bool r) ∧ Below w.heap.size w w' := by
 have HG := Aside0.mk hG
 clear hG
 have hu23 := Tryd.underlying23
 have HB := Aside0.mk (Below.refl w.heap.size w)
 have H : ((laws_szStore.f a0_0 a0_1 a0_2 1048576).bind fun af => (if af < 0 then (some true) else ((laws_toStore.f a0_0 a0_1 a0_2).bind fun ad => ((spec_StoreOk.f k ad.1 ad.2.1 ad.2.2).bind fun ab => ((laws_toStore.f a0_0 a0_1 a0_2).bind fun ae => ((impl_StoreOk.f k ae.1 ae.2.1 ae.2.2).bind fun ac => (if (ac != ab) = true then (some false) else (some true)))))))) = some r := h
 clear h
 obtain ⟨af, A2, H⟩ := bnd_ H
 try dsimp only at H
 by_cases c3 : af < 0
 ·
  rw [if_pos c3] at H
  have a9 : decide (af < 0) = true := decide_eq_true c3
  clear c3
  obtain rfl := Option.some.inj H
  go_enter Tryd.func3, Tryd.ntmps3
  go_wp2_with (first | ((with_reducible refine gate_dst (N := 1) rfl ?_); refine box_event ?hg (N := 1) ?hd (cs := #[.string a0_0, .string a0_1, .int .i64 a0_2]) (t := 23) ?hr ?_; (case hd => rfl); (case hg => rfl); (case hr => first | (go_simp; done) | (go_simp; rfl)); intro am hg w4 hbox hb; have aa := Aside0.mk (hbox); have an := gx_ HB hg; have ao := gx_ HB hg; replace HB := bs_ HB hb; clear hb hbox hg; have bb := cz_ aa 0; have bc := cz_ aa 1; have bd := cz_ aa 2; have be := blk_frozen aa.out 0; have bf := blk_frozen aa.out 1; have bg := blk_frozen aa.out 2) | ((with_reducible refine gate_callee (f := 6) rfl ?_); refine gl_ (some 8) Tryd.func6 #[.agg #[.string a0_0, .string a0_1, .int .i64 a0_2], .int .i64 1048576] ?_; (with_reducible refine (laws_szStore.calls a0_0 a0_1 a0_2 1048576 af _ A2.out).mono ?_); rintro e w6 ⟨rfl, hb⟩; refine ⟨_, rfl, ?_⟩; replace aa := bb_ aa hb; replace HB := bs_ HB hb; (try clear hb); (try clear hb2); (try clear hk); (try clear hi)))
  go_ret
  exact ⟨tw_, (tb_ HB.out)⟩
 ·
  rw [if_neg c3] at H
  have a9 : decide (af < 0) = false := decide_eq_false c3
  clear c3
  obtain ⟨⟨ag, ah, ai⟩, A7, H⟩ := bnd_ H
  try dsimp only at H
  obtain ⟨ab, A8, H⟩ := bnd_ H
  try dsimp only at H
  obtain ⟨⟨aj, ak, al⟩, A9, H⟩ := bnd_ H
  try dsimp only at H
  obtain ⟨ac, A10, H⟩ := bnd_ H
  try dsimp only at H
  by_cases c11 : (ac != ab) = true
  ·
   rw [if_pos c11] at H
   have ap : (ac != ab) = true := c11
   (try (have aq : decide (ac = ab) = false := by simpa using c11))
   (try (have ar : (ac == ab) = false := by simpa using c11))
   (try (have bh : ¬ (ac = ab) := by simpa using c11))
   clear c11
   obtain rfl := Option.some.inj H
   go_enter Tryd.func3, Tryd.ntmps3
   go_wp2_with (first | ((with_reducible refine gate_dst (N := 1) rfl ?_); refine box_event ?hg (N := 1) ?hd (cs := #[.string a0_0, .string a0_1, .int .i64 a0_2]) (t := 23) ?hr ?_; (case hd => rfl); (case hg => rfl); (case hr => first | (go_simp; done) | (go_simp; rfl)); intro am hg bi hbox hb; have aa := Aside0.mk (hbox); have an := gx_ HB hg; have ao := gx_ HB hg; replace HB := bs_ HB hb; clear hb hbox hg; have au := cz_ aa 0; have av := cz_ aa 1; have aw := cz_ aa 2; have ax := blk_frozen aa.out 0; have ay := blk_frozen aa.out 1; have az := blk_frozen aa.out 2) | ((with_reducible refine gate_callee (f := 6) rfl ?_); refine gl_ (some 8) Tryd.func6 #[.agg #[.string a0_0, .string a0_1, .int .i64 a0_2], .int .i64 1048576] ?_; (with_reducible refine (laws_szStore.calls a0_0 a0_1 a0_2 1048576 af _ A2.out).mono ?_); rintro e bj ⟨rfl, hb⟩; refine ⟨_, rfl, ?_⟩; replace aa := bb_ aa hb; replace HB := bs_ HB hb; (try clear hb); (try clear hb2); (try clear hk); (try clear hi); have aA := cz_ aa 0; have aB := cz_ aa 1; have aC := cz_ aa 2; have aD := blk_frozen aa.out 0; have aE := blk_frozen aa.out 1; have aF := blk_frozen aa.out 2) | ((with_reducible refine gate_callee (f := 8) rfl ?_); refine gl_ (some 12) Tryd.func8 #[.agg #[.string a0_0, .string a0_1, .int .i64 a0_2]] ?_; (with_reducible refine (laws_toStore.calls a0_0 a0_1 a0_2 ag ah ai _ A7.out).mono ?_); rintro e bk ⟨rfl, hb⟩; refine ⟨_, rfl, ?_⟩; replace aa := bb_ aa hb; replace HB := bs_ HB hb; (try clear hb); (try clear hb2); (try clear hk); (try clear hi)) | ((with_reducible refine gate_callee (f := 7) rfl ?_); refine gl_ (some 13) Tryd.func7 #[.agg #[.string ag, .string ah, .int .i64 ai]] ?_; (with_reducible refine (spec_StoreOk.calls k ag ah ai ab _ A8.out).mono ?_); rintro e bl ⟨rfl, hb⟩; refine ⟨_, rfl, ?_⟩; replace aa := bb_ aa hb; replace HB := bs_ HB hb; (try clear hb); (try clear hb2); (try clear hk); (try clear hi); have aG := cz_ aa 0; have aH := cz_ aa 1; have aI := cz_ aa 2; have aJ := blk_frozen aa.out 0; have aK := blk_frozen aa.out 1; have aL := blk_frozen aa.out 2) | ((with_reducible refine gate_callee (f := 8) rfl ?_); refine gl_ (some 15) Tryd.func8 #[.agg #[.string a0_0, .string a0_1, .int .i64 a0_2]] ?_; (with_reducible refine (laws_toStore.calls a0_0 a0_1 a0_2 aj ak al _ A9.out).mono ?_); rintro e bm ⟨rfl, hb⟩; refine ⟨_, rfl, ?_⟩; replace aa := bb_ aa hb; replace HB := bs_ HB hb; (try clear hb); (try clear hb2); (try clear hk); (try clear hi)) | ((with_reducible refine gate_callee (f := 9) rfl ?_); refine gl_ (some 16) Tryd.func9 #[.agg #[.string aj, .string ak, .int .i64 al]] ?_; (with_reducible refine (impl_StoreOk.calls k aj ak al ac _ ?s1 A10.out).mono ?_); (case s1 => exact GWb.below HG.out (tb_ HB.out)); rintro e bn ⟨rfl, hb⟩; refine ⟨_, rfl, ?_⟩; replace aa := bb_ aa hb; replace HB := bs_ HB hb; (try clear hb); (try clear hb2); (try clear hk); (try clear hi)))
   go_ret
   exact ⟨tw_, (tb_ HB.out)⟩
  ·
   rw [if_neg c11] at H
   have ap : (ac != ab) = false := by simpa using c11
   (try (have aq : decide (ac = ab) = true := by simpa using c11))
   (try (have ar : (ac == ab) = true := by simpa using c11))
   clear c11
   obtain rfl := Option.some.inj H
   go_enter Tryd.func3, Tryd.ntmps3
   go_wp2_with (first | ((with_reducible refine gate_dst (N := 1) rfl ?_); refine box_event ?hg (N := 1) ?hd (cs := #[.string a0_0, .string a0_1, .int .i64 a0_2]) (t := 23) ?hr ?_; (case hd => rfl); (case hg => rfl); (case hr => first | (go_simp; done) | (go_simp; rfl)); intro am hg bo hbox hb; have aa := Aside0.mk (hbox); have an := gx_ HB hg; have ao := gx_ HB hg; replace HB := bs_ HB hb; clear hb hbox hg; have aM := cz_ aa 0; have aN := cz_ aa 1; have aO := cz_ aa 2; have aP := blk_frozen aa.out 0; have aQ := blk_frozen aa.out 1; have aR := blk_frozen aa.out 2) | ((with_reducible refine gate_callee (f := 6) rfl ?_); refine gl_ (some 8) Tryd.func6 #[.agg #[.string a0_0, .string a0_1, .int .i64 a0_2], .int .i64 1048576] ?_; (with_reducible refine (laws_szStore.calls a0_0 a0_1 a0_2 1048576 af _ A2.out).mono ?_); rintro e bp ⟨rfl, hb⟩; refine ⟨_, rfl, ?_⟩; replace aa := bb_ aa hb; replace HB := bs_ HB hb; (try clear hb); (try clear hb2); (try clear hk); (try clear hi); have aU := cz_ aa 0; have aV := cz_ aa 1; have aW := cz_ aa 2; have aX := blk_frozen aa.out 0; have aY := blk_frozen aa.out 1; have aZ := blk_frozen aa.out 2) | ((with_reducible refine gate_callee (f := 8) rfl ?_); refine gl_ (some 12) Tryd.func8 #[.agg #[.string a0_0, .string a0_1, .int .i64 a0_2]] ?_; (with_reducible refine (laws_toStore.calls a0_0 a0_1 a0_2 ag ah ai _ A7.out).mono ?_); rintro e bq ⟨rfl, hb⟩; refine ⟨_, rfl, ?_⟩; replace aa := bb_ aa hb; replace HB := bs_ HB hb; (try clear hb); (try clear hb2); (try clear hk); (try clear hi)) | ((with_reducible refine gate_callee (f := 7) rfl ?_); refine gl_ (some 13) Tryd.func7 #[.agg #[.string ag, .string ah, .int .i64 ai]] ?_; (with_reducible refine (spec_StoreOk.calls k ag ah ai ab _ A8.out).mono ?_); rintro e br ⟨rfl, hb⟩; refine ⟨_, rfl, ?_⟩; replace aa := bb_ aa hb; replace HB := bs_ HB hb; (try clear hb); (try clear hb2); (try clear hk); (try clear hi); have a3 := cz_ aa 0; have a4 := cz_ aa 1; have a5 := cz_ aa 2; have a6 := blk_frozen aa.out 0; have a7 := blk_frozen aa.out 1; have a8 := blk_frozen aa.out 2) | ((with_reducible refine gate_callee (f := 8) rfl ?_); refine gl_ (some 15) Tryd.func8 #[.agg #[.string a0_0, .string a0_1, .int .i64 a0_2]] ?_; (with_reducible refine (laws_toStore.calls a0_0 a0_1 a0_2 aj ak al _ A9.out).mono ?_); rintro e bs ⟨rfl, hb⟩; refine ⟨_, rfl, ?_⟩; replace aa := bb_ aa hb; replace HB := bs_ HB hb; (try clear hb); (try clear hb2); (try clear hk); (try clear hi)) | ((with_reducible refine gate_callee (f := 9) rfl ?_); refine gl_ (some 16) Tryd.func9 #[.agg #[.string aj, .string ak, .int .i64 al]] ?_; (with_reducible refine (impl_StoreOk.calls k aj ak al ac _ ?s1 A10.out).mono ?_); (case s1 => exact GWb.below HG.out (tb_ HB.out)); rintro e bu ⟨rfl, hb⟩; refine ⟨_, rfl, ?_⟩; replace aa := bb_ aa hb; replace HB := bs_ HB hb; (try clear hb); (try clear hb2); (try clear hk); (try clear hi)))
   go_ret
   exact ⟨tw_, (tb_ HB.out)⟩

end Go.Proofs.YtfibbdefcppfcaaDoor.MFnExactStoreOk
