/- For the law FnExactStoreMend: walks of the functions that it reaches: each call returns what the plain function beside it tells. The conditions stand in each statement. -/
import Derived.Test.YtfibbdefcppfcaaGreatDoorV
import Derived.Test.YtfibbdefcppfcaaGreatDoorMFnExactStoreMendx0
import Derived.Test.YtfibbdefcppfcaaGreatDoorMFnExactStoreMendx12
namespace Go.Proofs.YtfibbdefcppfcaaGreatDoor.MFnExactStoreMend
open Go.RowKit Go.Proofs.YtfibbdefcppfcaaGreatDoorW.PrintWords Go.Proofs.YtfibbdefcppfcaaGreatDoorW.PrintLast Go.Proofs.YtfibbdefcppfcaaGreatDoorW.PrintMore
attribute [local go_sem] max2_int min2_int max_two min_two max_three min_three max_four min_four   -- for this text's walks alone
set_option linter.unusedVariables false
set_option linter.unusedSimpArgs false

/-! ### impl_DeedText: function 49 -/
def impl_DeedText.j0 : Nat → Bool → Int → Int → Int → Option (ByteArray)
 | 0, _, _, _, _ => none
 | k + 1, x21, ad, ag, ah => if x21 = true then (some (⟨#[]⟩ : ByteArray)) else ((strconv_Itoa.f ag).bind fun ab => (if 1 + ab.size ≤ 9223372036854775807 then (if ad = 0 then (if 3 + ((⟨#[32]⟩ : ByteArray) ++ ab).size ≤ 9223372036854775807 then (if ((⟨#[112, 117, 116]⟩ : ByteArray) ++ ((⟨#[32]⟩ : ByteArray) ++ ab)).size + 1 ≤ 9223372036854775807 then ((strconv_Itoa.f ah).bind fun ae => (if (((⟨#[112, 117, 116]⟩ : ByteArray) ++ ((⟨#[32]⟩ : ByteArray) ++ ab)) ++ (⟨#[32]⟩ : ByteArray)).size + ae.size ≤ 9223372036854775807 then (some ((((⟨#[112, 117, 116]⟩ : ByteArray) ++ ((⟨#[32]⟩ : ByteArray) ++ ab)) ++ (⟨#[32]⟩ : ByteArray)) ++ ae)) else (none))) else (none)) else (none)) else (if ah = 0 then (if ad = 1 then (if 4 + ((⟨#[32]⟩ : ByteArray) ++ ab).size ≤ 9223372036854775807 then (some ((⟨#[115, 116, 101, 112]⟩ : ByteArray) ++ ((⟨#[32]⟩ : ByteArray) ++ ab))) else (none)) else (if ad = 2 then (if 4 + ((⟨#[32]⟩ : ByteArray) ++ ab).size ≤ 9223372036854775807 then (some ((⟨#[100, 114, 97, 119]⟩ : ByteArray) ++ ((⟨#[32]⟩ : ByteArray) ++ ab))) else (none)) else (if ag = 0 then (if ad = 3 then (some (⟨#[97, 103, 97, 105, 110]⟩ : ByteArray)) else (if ad = 4 then (some (⟨#[98, 97, 99, 107]⟩ : ByteArray)) else (some (⟨#[]⟩ : ByteArray)))) else (some (⟨#[]⟩ : ByteArray))))) else (some (⟨#[]⟩ : ByteArray)))) else (none)))
def impl_DeedText.f (k : Nat) (a0_0 : Int) (a0_1 : Int) (a0_2 : Int) : Option (ByteArray) := if a0_1 < (-99) then (impl_DeedText.j0 k true a0_0 a0_1 a0_2) else (if a0_1 > 99 then (impl_DeedText.j0 k true a0_0 a0_1 a0_2) else (if a0_2 < (-99) then (impl_DeedText.j0 k true a0_0 a0_1 a0_2) else (impl_DeedText.j0 k (decide (a0_2 > 99)) a0_0 a0_1 a0_2)))
theorem impl_DeedText.mono_l : ∀ k, (∀ y0 y1 y2 y3, LeO (impl_DeedText.j0 k y0 y1 y2 y3) (impl_DeedText.j0 (k + 1) y0 y1 y2 y3))
 | 0 => fun _ _ _ _ r h => by simp [impl_DeedText.j0] at h
 | k + 1 => by
  have ih0 := impl_DeedText.mono_l k
  ·
   intro y0 y1 y2 y3
   unfold impl_DeedText.j0
   repeat' (with_reducible first | exact ih0 _ _ _ _ | exact mr_ | exact mn_ | refine mi_ ?_ ?_ | refine mb_ ?_ (fun _ => ?_))
theorem impl_DeedText.mono : ∀ a0 a1 a2 k, LeO (impl_DeedText.f k a0 a1 a2) (impl_DeedText.f (k + 1) a0 a1 a2) := by
 intro a0 a1 a2 k
 have ih0 := impl_DeedText.mono_l k
 unfold impl_DeedText.f
 repeat' (with_reducible first | exact ih0 _ _ _ _ | exact mr_ | exact mn_ | refine mi_ ?_ ?_ | refine mb_ ?_ (fun _ => ?_))
set_option maxHeartbeats 8000000 in
set_option maxRecDepth 100000 in
theorem impl_DeedText.calls (k : Nat) (a0_0 : Int) (a0_1 : Int) (a0_2 : Int) (r : ByteArray) (w : World) (hG : GWb w) (h : impl_DeedText.f k a0_0 a0_1 a0_2 = some r) :
  Calls Tryz.prog 49 #[.agg #[.int .i64 a0_0, .int .i64 a0_1, .int .i64 a0_2]] w fun e w' => e = .returned (.string r) ∧ Below w.heap.size w w' := by
 have HG := Aside0.mk hG
 clear hG
 have hu34 := Tryz.underlying34
 have HB := Aside0.mk (Below.refl w.heap.size w)
 have H : (if a0_1 < (-99) then (impl_DeedText.j0 k true a0_0 a0_1 a0_2) else (if a0_1 > 99 then (impl_DeedText.j0 k true a0_0 a0_1 a0_2) else (if a0_2 < (-99) then (impl_DeedText.j0 k true a0_0 a0_1 a0_2) else (impl_DeedText.j0 k (decide (a0_2 > 99)) a0_0 a0_1 a0_2)))) = some r := h
 clear h
 have HC2 := Aside0.mk H
 clear H
 go_enter Tryz.func49, Tryz.ntmps49
 go_upto_region 1 with (first | ((with_reducible refine gate_dst (N := 1) rfl ?_); refine box_event ?hg (N := 1) ?hd (cs := #[.int .i64 a0_0, .int .i64 a0_1, .int .i64 a0_2]) (t := 34) ?hr ?_; (case hd => rfl); (case hg => rfl); (case hr => first | (go_simp; done) | (go_simp; rfl)); intro aL hg w3 hbox hb; have aa := Aside0.mk (hbox); have cN := gx_ HB hg; have cO := gx_ HB hg; replace HB := bs_ HB hb; clear hb hbox hg))
 (try simp only [Act.put, sa_, sb_, sc_])
 go_cut [21] (fun dj wc => ∃ (kq : Nat) (ai : Bool), dj = .bool ai ∧ Aside0 (impl_DeedText.j0 kq ai a0_0 a0_1 a0_2 = some r) ∧ Aside0 (kq ≤ k) ∧ Aside0 (wc.heap[aL]? = some (.cells #[.int .i64 a0_0, .int .i64 a0_1, .int .i64 a0_2] 34 (0, 0))) ∧ Aside0 (Below w.heap.size w wc))
 case first =>
  have H := HC2.out
  clear HC2
  by_cases c4 : a0_1 < (-99)
  ·
   rw [if_pos c4] at H
   have af : decide (a0_1 < (-99)) = true := decide_eq_true c4
   clear c4
   (first | rw [af] | (simp only [i64_w, i32_w]; rw [af]) | skip)
   have H' := Aside0.mk H
   clear H
   have ar := cz_ aa 0
   have au := cz_ aa 1
   have av := cz_ aa 2
   have aw := blk_frozen aa.out 0
   have ax := blk_frozen aa.out 1
   have ay := blk_frozen aa.out 2
   go_wp2
   go_meet
   case rel => exact ⟨_, (true), tx_, H', ⟨by first | omega | exact Nat.le_refl _⟩, ⟨tk_ aa.out⟩, ⟨(tb_ HB.out)⟩⟩
  ·
   rw [if_neg c4] at H
   have af : decide (a0_1 < (-99)) = false := decide_eq_false c4
   clear c4
   (first | rw [af] | (simp only [i64_w, i32_w]; rw [af]) | skip)
   by_cases c6 : a0_1 > 99
   ·
    rw [if_pos c6] at H
    have aj : decide (99 < a0_1) = true := decide_eq_true c6
    clear c6
    have H' := Aside0.mk H
    clear H
    have az := cz_ aa 0
    have aA := cz_ aa 1
    have aB := cz_ aa 2
    have aC := blk_frozen aa.out 0
    have aD := blk_frozen aa.out 1
    have aE := blk_frozen aa.out 2
    go_wp2
    go_meet
    case rel => exact ⟨_, (true), tx_, H', ⟨by first | omega | exact Nat.le_refl _⟩, ⟨tk_ aa.out⟩, ⟨(tb_ HB.out)⟩⟩
   ·
    rw [if_neg c6] at H
    have aj : decide (99 < a0_1) = false := decide_eq_false c6
    clear c6
    by_cases c8 : a0_2 < (-99)
    ·
     rw [if_pos c8] at H
     have aM : decide (a0_2 < (-99)) = true := decide_eq_true c8
     clear c8
     have H' := Aside0.mk H
     clear H
     have aF := cz_ aa 0
     have aG := cz_ aa 1
     have aH := cz_ aa 2
     have aI := blk_frozen aa.out 0
     have aJ := blk_frozen aa.out 1
     have aK := blk_frozen aa.out 2
     go_wp2
     go_meet
     case rel => exact ⟨_, (true), tx_, H', ⟨by first | omega | exact Nat.le_refl _⟩, ⟨tk_ aa.out⟩, ⟨(tb_ HB.out)⟩⟩
    ·
     rw [if_neg c8] at H
     have aM : decide (a0_2 < (-99)) = false := decide_eq_false c8
     clear c8
     have H' := Aside0.mk H
     clear H
     have ak := cz_ aa 0
     have al := cz_ aa 1
     have am := cz_ aa 2
     have an := blk_frozen aa.out 0
     have ao := blk_frozen aa.out 1
     have ap := blk_frozen aa.out 2
     go_wp2
     go_meet
     case rel => exact ⟨_, (decide (a0_2 > 99)), tx_, H', ⟨by first | omega | exact Nat.le_refl _⟩, ⟨tk_ aa.out⟩, ⟨(tb_ HB.out)⟩⟩
 case rest =>
  clear HC2
  try clear p2
  try clear c4
  try clear af
  try clear c6
  try clear aj
  try clear c8
  try clear aM
  try clear ak
  try clear al
  try clear am
  try clear ar
  try clear au
  try clear av
  try clear az
  try clear aA
  try clear aB
  try clear aF
  try clear aG
  try clear aH
  try clear an
  try clear ao
  try clear ap
  try clear aw
  try clear ax
  try clear ay
  try clear aC
  try clear aD
  try clear aE
  try clear aI
  try clear aJ
  try clear aK
  obtain ⟨kq, ai, rfl, HA, HJ1, aa, HB⟩ := hcut
  cases kq with
  | zero => exact absurd HA.out (by simp [impl_DeedText.j0])
  | succ kj1 =>
   have H := HA.out
   clear HA
   simp only [impl_DeedText.j0] at H
   by_cases c11 : ai = true
   ·
    subst c11
    have H1 : (some (⟨#[]⟩ : ByteArray)) = some r := by rw [if_pos rfl] at H; exact H
    clear H
    have H := H1
    clear H1
    obtain rfl := Option.some.inj H
    go_wp2
    go_ret
    exact ⟨tw_, (tb_ HB.out)⟩
   ·
    replace c11 := Bool.eq_false_iff.mpr c11
    subst c11
    have H1 : ((strconv_Itoa.f a0_1).bind fun ab => (if 1 + ab.size ≤ 9223372036854775807 then (if a0_0 = 0 then (if 3 + ((⟨#[32]⟩ : ByteArray) ++ ab).size ≤ 9223372036854775807 then (if ((⟨#[112, 117, 116]⟩ : ByteArray) ++ ((⟨#[32]⟩ : ByteArray) ++ ab)).size + 1 ≤ 9223372036854775807 then ((strconv_Itoa.f a0_2).bind fun ae => (if (((⟨#[112, 117, 116]⟩ : ByteArray) ++ ((⟨#[32]⟩ : ByteArray) ++ ab)) ++ (⟨#[32]⟩ : ByteArray)).size + ae.size ≤ 9223372036854775807 then (some ((((⟨#[112, 117, 116]⟩ : ByteArray) ++ ((⟨#[32]⟩ : ByteArray) ++ ab)) ++ (⟨#[32]⟩ : ByteArray)) ++ ae)) else (none))) else (none)) else (none)) else (if a0_2 = 0 then (if a0_0 = 1 then (if 4 + ((⟨#[32]⟩ : ByteArray) ++ ab).size ≤ 9223372036854775807 then (some ((⟨#[115, 116, 101, 112]⟩ : ByteArray) ++ ((⟨#[32]⟩ : ByteArray) ++ ab))) else (none)) else (if a0_0 = 2 then (if 4 + ((⟨#[32]⟩ : ByteArray) ++ ab).size ≤ 9223372036854775807 then (some ((⟨#[100, 114, 97, 119]⟩ : ByteArray) ++ ((⟨#[32]⟩ : ByteArray) ++ ab))) else (none)) else (if a0_1 = 0 then (if a0_0 = 3 then (some (⟨#[97, 103, 97, 105, 110]⟩ : ByteArray)) else (if a0_0 = 4 then (some (⟨#[98, 97, 99, 107]⟩ : ByteArray)) else (some (⟨#[]⟩ : ByteArray)))) else (some (⟨#[]⟩ : ByteArray))))) else (some (⟨#[]⟩ : ByteArray)))) else (none))) = some r := by rw [if_neg (show ¬ (false = true) by decide)] at H; exact H
    clear H
    have H := H1
    clear H1
    obtain ⟨ab, A12, H⟩ := bnd_ H
    try dsimp only at H
    by_cases c13 : 1 + ab.size ≤ 9223372036854775807
    ·
     rw [if_pos c13] at H
     have cP := eq_true c13
     have cQ : decide (1 + ab.size ≤ 9223372036854775807) = true := decide_eq_true c13
     try have cR : (9223372036854775807 < 1 + ab.size) = False := eq_false (Nat.not_lt.2 c13)
     by_cases c14 : a0_0 = 0
     ·
      rw [if_pos c14] at H
      have aN : (a0_0 == 0) = true := beq_iff_eq.mpr c14
      have aO : (a0_0 != 0) = false := bne_eq_false_iff_eq.mpr c14
      clear c14
      by_cases c15 : 3 + ((⟨#[32]⟩ : ByteArray) ++ ab).size ≤ 9223372036854775807
      ·
       rw [if_pos c15] at H
       have cS := eq_true c15
       have cT : decide (3 + ((⟨#[32]⟩ : ByteArray) ++ ab).size ≤ 9223372036854775807) = true := decide_eq_true c15
       try have cU : (9223372036854775807 < 3 + ((⟨#[32]⟩ : ByteArray) ++ ab).size) = False := eq_false (Nat.not_lt.2 c15)
       try have cV : (9223372036854775807 < 3 + (1 + ab.size)) = False := eq_false (by have h := c15; simp only [ByteArray.size_append] at h; simp only [ByteArray.size] at h ⊢; simp at h ⊢; omega)
       by_cases c16 : ((⟨#[112, 117, 116]⟩ : ByteArray) ++ ((⟨#[32]⟩ : ByteArray) ++ ab)).size + 1 ≤ 9223372036854775807
       ·
        rw [if_pos c16] at H
        have cW := eq_true c16
        have cX : decide (((⟨#[112, 117, 116]⟩ : ByteArray) ++ ((⟨#[32]⟩ : ByteArray) ++ ab)).size + 1 ≤ 9223372036854775807) = true := decide_eq_true c16
        try have cY : (9223372036854775807 < ((⟨#[112, 117, 116]⟩ : ByteArray) ++ ((⟨#[32]⟩ : ByteArray) ++ ab)).size + 1) = False := eq_false (Nat.not_lt.2 c16)
        try have cZ : (9223372036854775807 < 3 + (1 + ab.size) + 1) = False := eq_false (by have h := c16; simp only [ByteArray.size_append] at h; simp only [ByteArray.size] at h ⊢; simp at h ⊢; omega)
        obtain ⟨ae, A17, H⟩ := bnd_ H
        try dsimp only at H
        by_cases c18 : (((⟨#[112, 117, 116]⟩ : ByteArray) ++ ((⟨#[32]⟩ : ByteArray) ++ ab)) ++ (⟨#[32]⟩ : ByteArray)).size + ae.size ≤ 9223372036854775807
        ·
         rw [if_pos c18] at H
         have c2 := eq_true c18
         have c7 : decide ((((⟨#[112, 117, 116]⟩ : ByteArray) ++ ((⟨#[32]⟩ : ByteArray) ++ ab)) ++ (⟨#[32]⟩ : ByteArray)).size + ae.size ≤ 9223372036854775807) = true := decide_eq_true c18
         try have c9 : (9223372036854775807 < (((⟨#[112, 117, 116]⟩ : ByteArray) ++ ((⟨#[32]⟩ : ByteArray) ++ ab)) ++ (⟨#[32]⟩ : ByteArray)).size + ae.size) = False := eq_false (Nat.not_lt.2 c18)
         try have da : (9223372036854775807 < 3 + (1 + ab.size) + 1 + ae.size) = False := eq_false (by have h := c18; simp only [ByteArray.size_append] at h; simp only [ByteArray.size] at h ⊢; simp at h ⊢; omega)
         obtain rfl := Option.some.inj H
         have a6 := cz_ aa 0
         have a7 := cz_ aa 1
         have a8 := cz_ aa 2
         have a9 := blk_frozen aa.out 0
         have bb := blk_frozen aa.out 1
         have bc := blk_frozen aa.out 2
         go_wp2_with (first | ((with_reducible refine gate_callee (f := 75) rfl ?_); refine gl_ (some 24) Tryz.func75 #[.int .i64 a0_1] ?_; (with_reducible refine (strconv_Itoa.calls a0_1 ab _ ?s1 A12.out).mono ?_); (case s1 => exact GWb.below HG.out (tb_ HB.out)); rintro e dl ⟨rfl, hb⟩; refine ⟨_, rfl, ?_⟩; replace aa := bb_ aa hb; replace HB := bs_ HB hb; (try clear hb); (try clear hb2); (try clear hk); (try clear hi); have bd := cz_ aa 0; have be := cz_ aa 1; have bf := cz_ aa 2; have bg := blk_frozen aa.out 0; have bh := blk_frozen aa.out 1; have bi := blk_frozen aa.out 2) | ((with_reducible refine gate_callee (f := 75) rfl ?_); refine gl_ (some 35) Tryz.func75 #[.int .i64 a0_2] ?_; (with_reducible refine (strconv_Itoa.calls a0_2 ae _ ?s1 A17.out).mono ?_); (case s1 => exact GWb.below HG.out (tb_ HB.out)); rintro e dm ⟨rfl, hb⟩; refine ⟨_, rfl, ?_⟩; replace aa := bb_ aa hb; replace HB := bs_ HB hb; (try clear hb); (try clear hb2); (try clear hk); (try clear hi)))
         go_ret
         exact ⟨tw_, (tb_ HB.out)⟩
        ·
         rw [if_neg c18] at H
         exact absurd H (by simp)
       ·
        rw [if_neg c16] at H
        exact absurd H (by simp)
      ·
       rw [if_neg c15] at H
       exact absurd H (by simp)
     ·
      rw [if_neg c14] at H
      have aN : (a0_0 == 0) = false := beq_eq_false_iff_ne.mpr c14
      have aO : (a0_0 != 0) = true := bne_iff_ne.mpr c14
      by_cases c23 : a0_2 = 0
      ·
       rw [if_pos c23] at H
       have aP : (a0_2 == 0) = true := beq_iff_eq.mpr c23
       have aQ : (a0_2 != 0) = false := bne_eq_false_iff_eq.mpr c23
       clear c23
       by_cases c24 : a0_0 = 1
       ·
        rw [if_pos c24] at H
        have aR : (a0_0 == 1) = true := beq_iff_eq.mpr c24
        have aU : (a0_0 != 1) = false := bne_eq_false_iff_eq.mpr c24
        clear c24
        by_cases c25 : 4 + ((⟨#[32]⟩ : ByteArray) ++ ab).size ≤ 9223372036854775807
        ·
         rw [if_pos c25] at H
         have db := eq_true c25
         have dc : decide (4 + ((⟨#[32]⟩ : ByteArray) ++ ab).size ≤ 9223372036854775807) = true := decide_eq_true c25
         try have dd : (9223372036854775807 < 4 + ((⟨#[32]⟩ : ByteArray) ++ ab).size) = False := eq_false (Nat.not_lt.2 c25)
         try have de : (9223372036854775807 < 4 + (1 + ab.size)) = False := eq_false (by have h := c25; simp only [ByteArray.size_append] at h; simp only [ByteArray.size] at h ⊢; simp at h ⊢; omega)
         obtain rfl := Option.some.inj H
         have bj := cz_ aa 0
         have bk := cz_ aa 1
         have bl := cz_ aa 2
         have bm := blk_frozen aa.out 0
         have bn := blk_frozen aa.out 1
         have bo := blk_frozen aa.out 2
         go_wp2_with (first | ((with_reducible refine gate_callee (f := 75) rfl ?_); refine gl_ (some 24) Tryz.func75 #[.int .i64 a0_1] ?_; (with_reducible refine (strconv_Itoa.calls a0_1 ab _ ?s1 A12.out).mono ?_); (case s1 => exact GWb.below HG.out (tb_ HB.out)); rintro e dn ⟨rfl, hb⟩; refine ⟨_, rfl, ?_⟩; replace aa := bb_ aa hb; replace HB := bs_ HB hb; (try clear hb); (try clear hb2); (try clear hk); (try clear hi); have bp := cz_ aa 0; have bq := cz_ aa 1; have br := cz_ aa 2; have bs := blk_frozen aa.out 0; have bu := blk_frozen aa.out 1; have bv := blk_frozen aa.out 2))
         go_ret
         exact ⟨tw_, (tb_ HB.out)⟩
        ·
         rw [if_neg c25] at H
         exact absurd H (by simp)
       ·
        rw [if_neg c24] at H
        have aR : (a0_0 == 1) = false := beq_eq_false_iff_ne.mpr c24
        have aU : (a0_0 != 1) = true := bne_iff_ne.mpr c24
        by_cases c29 : a0_0 = 2
        ·
         rw [if_pos c29] at H
         have aV : (a0_0 == 2) = true := beq_iff_eq.mpr c29
         have aW : (a0_0 != 2) = false := bne_eq_false_iff_eq.mpr c29
         clear c29
         by_cases c30 : 4 + ((⟨#[32]⟩ : ByteArray) ++ ab).size ≤ 9223372036854775807
         ·
          rw [if_pos c30] at H
          have df := eq_true c30
          have dg : decide (4 + ((⟨#[32]⟩ : ByteArray) ++ ab).size ≤ 9223372036854775807) = true := decide_eq_true c30
          try have dh : (9223372036854775807 < 4 + ((⟨#[32]⟩ : ByteArray) ++ ab).size) = False := eq_false (Nat.not_lt.2 c30)
          try have di : (9223372036854775807 < 4 + (1 + ab.size)) = False := eq_false (by have h := c30; simp only [ByteArray.size_append] at h; simp only [ByteArray.size] at h ⊢; simp at h ⊢; omega)
          obtain rfl := Option.some.inj H
          have bw := cz_ aa 0
          have bx := cz_ aa 1
          have bz := cz_ aa 2
          have bB := blk_frozen aa.out 0
          have bC := blk_frozen aa.out 1
          have bD := blk_frozen aa.out 2
          go_wp2_with (first | ((with_reducible refine gate_callee (f := 75) rfl ?_); refine gl_ (some 24) Tryz.func75 #[.int .i64 a0_1] ?_; (with_reducible refine (strconv_Itoa.calls a0_1 ab _ ?s1 A12.out).mono ?_); (case s1 => exact GWb.below HG.out (tb_ HB.out)); rintro e dp ⟨rfl, hb⟩; refine ⟨_, rfl, ?_⟩; replace aa := bb_ aa hb; replace HB := bs_ HB hb; (try clear hb); (try clear hb2); (try clear hk); (try clear hi); have bE := cz_ aa 0; have bF := cz_ aa 1; have bG := cz_ aa 2; have bH := blk_frozen aa.out 0; have bI := blk_frozen aa.out 1; have bJ := blk_frozen aa.out 2))
          go_ret
          exact ⟨tw_, (tb_ HB.out)⟩
         ·
          rw [if_neg c30] at H
          exact absurd H (by simp)
        ·
         rw [if_neg c29] at H
         have aV : (a0_0 == 2) = false := beq_eq_false_iff_ne.mpr c29
         have aW : (a0_0 != 2) = true := bne_iff_ne.mpr c29
         by_cases c34 : a0_1 = 0
         ·
          rw [if_pos c34] at H
          have aX : (a0_1 == 0) = true := beq_iff_eq.mpr c34
          have aY : (a0_1 != 0) = false := bne_eq_false_iff_eq.mpr c34
          clear c34
          by_cases c35 : a0_0 = 3
          ·
           rw [if_pos c35] at H
           have aZ : (a0_0 == 3) = true := beq_iff_eq.mpr c35
           have a3 : (a0_0 != 3) = false := bne_eq_false_iff_eq.mpr c35
           clear c35
           obtain rfl := Option.some.inj H
           have bK := cz_ aa 0
           have bL := cz_ aa 1
           have bM := cz_ aa 2
           have bN := blk_frozen aa.out 0
           have bO := blk_frozen aa.out 1
           have bP := blk_frozen aa.out 2
           go_wp2_with (first | ((with_reducible refine gate_callee (f := 75) rfl ?_); refine gl_ (some 24) Tryz.func75 #[.int .i64 a0_1] ?_; (with_reducible refine (strconv_Itoa.calls a0_1 ab _ ?s1 A12.out).mono ?_); (case s1 => exact GWb.below HG.out (tb_ HB.out)); rintro e dq ⟨rfl, hb⟩; refine ⟨_, rfl, ?_⟩; replace aa := bb_ aa hb; replace HB := bs_ HB hb; (try clear hb); (try clear hb2); (try clear hk); (try clear hi); have bQ := cz_ aa 0; have bR := cz_ aa 1; have bS := cz_ aa 2; have bU := blk_frozen aa.out 0; have bV := blk_frozen aa.out 1; have bW := blk_frozen aa.out 2))
           go_ret
           exact ⟨tw_, (tb_ HB.out)⟩
          ·
           rw [if_neg c35] at H
           have aZ : (a0_0 == 3) = false := beq_eq_false_iff_ne.mpr c35
           have a3 : (a0_0 != 3) = true := bne_iff_ne.mpr c35
           by_cases c39 : a0_0 = 4
           ·
            rw [if_pos c39] at H
            have a4 : (a0_0 == 4) = true := beq_iff_eq.mpr c39
            have a5 : (a0_0 != 4) = false := bne_eq_false_iff_eq.mpr c39
            clear c39
            obtain rfl := Option.some.inj H
            have bX := cz_ aa 0
            have bZ := cz_ aa 1
            have b0 := cz_ aa 2
            have b1 := blk_frozen aa.out 0
            have b2 := blk_frozen aa.out 1
            have b3 := blk_frozen aa.out 2
            go_wp2_with (first | ((with_reducible refine gate_callee (f := 75) rfl ?_); refine gl_ (some 24) Tryz.func75 #[.int .i64 a0_1] ?_; (with_reducible refine (strconv_Itoa.calls a0_1 ab _ ?s1 A12.out).mono ?_); (case s1 => exact GWb.below HG.out (tb_ HB.out)); rintro e dr ⟨rfl, hb⟩; refine ⟨_, rfl, ?_⟩; replace aa := bb_ aa hb; replace HB := bs_ HB hb; (try clear hb); (try clear hb2); (try clear hk); (try clear hi); have b4 := cz_ aa 0; have b5 := cz_ aa 1; have b6 := cz_ aa 2; have b7 := blk_frozen aa.out 0; have b8 := blk_frozen aa.out 1; have b9 := blk_frozen aa.out 2))
            go_ret
            exact ⟨tw_, (tb_ HB.out)⟩
           ·
            rw [if_neg c39] at H
            have a4 : (a0_0 == 4) = false := beq_eq_false_iff_ne.mpr c39
            have a5 : (a0_0 != 4) = true := bne_iff_ne.mpr c39
            obtain rfl := Option.some.inj H
            have ca := cz_ aa 0
            have cb := cz_ aa 1
            have cc := cz_ aa 2
            have cd := blk_frozen aa.out 0
            have ce := blk_frozen aa.out 1
            have cf := blk_frozen aa.out 2
            go_wp2_with (first | ((with_reducible refine gate_callee (f := 75) rfl ?_); refine gl_ (some 24) Tryz.func75 #[.int .i64 a0_1] ?_; (with_reducible refine (strconv_Itoa.calls a0_1 ab _ ?s1 A12.out).mono ?_); (case s1 => exact GWb.below HG.out (tb_ HB.out)); rintro e ds ⟨rfl, hb⟩; refine ⟨_, rfl, ?_⟩; replace aa := bb_ aa hb; replace HB := bs_ HB hb; (try clear hb); (try clear hb2); (try clear hk); (try clear hi); have cg := cz_ aa 0; have ch := cz_ aa 1; have ci := cz_ aa 2; have cj := blk_frozen aa.out 0; have ck := blk_frozen aa.out 1; have cl := blk_frozen aa.out 2))
            go_ret
            exact ⟨tw_, (tb_ HB.out)⟩
         ·
          rw [if_neg c34] at H
          have aX : (a0_1 == 0) = false := beq_eq_false_iff_ne.mpr c34
          have aY : (a0_1 != 0) = true := bne_iff_ne.mpr c34
          obtain rfl := Option.some.inj H
          have cm := cz_ aa 0
          have cn := cz_ aa 1
          have co := cz_ aa 2
          have cp := blk_frozen aa.out 0
          have cq := blk_frozen aa.out 1
          have cr := blk_frozen aa.out 2
          go_wp2_with (first | ((with_reducible refine gate_callee (f := 75) rfl ?_); refine gl_ (some 24) Tryz.func75 #[.int .i64 a0_1] ?_; (with_reducible refine (strconv_Itoa.calls a0_1 ab _ ?s1 A12.out).mono ?_); (case s1 => exact GWb.below HG.out (tb_ HB.out)); rintro e dt ⟨rfl, hb⟩; refine ⟨_, rfl, ?_⟩; replace aa := bb_ aa hb; replace HB := bs_ HB hb; (try clear hb); (try clear hb2); (try clear hk); (try clear hi); have ct := cz_ aa 0; have cu := cz_ aa 1; have cv := cz_ aa 2; have cw := blk_frozen aa.out 0; have cx := blk_frozen aa.out 1; have cy := blk_frozen aa.out 2))
          go_ret
          exact ⟨tw_, (tb_ HB.out)⟩
      ·
       rw [if_neg c23] at H
       have aP : (a0_2 == 0) = false := beq_eq_false_iff_ne.mpr c23
       have aQ : (a0_2 != 0) = true := bne_iff_ne.mpr c23
       obtain rfl := Option.some.inj H
       have cz := cz_ aa 0
       have cA := cz_ aa 1
       have cB := cz_ aa 2
       have cC := blk_frozen aa.out 0
       have cD := blk_frozen aa.out 1
       have cE := blk_frozen aa.out 2
       go_wp2_with (first | ((with_reducible refine gate_callee (f := 75) rfl ?_); refine gl_ (some 24) Tryz.func75 #[.int .i64 a0_1] ?_; (with_reducible refine (strconv_Itoa.calls a0_1 ab _ ?s1 A12.out).mono ?_); (case s1 => exact GWb.below HG.out (tb_ HB.out)); rintro e du ⟨rfl, hb⟩; refine ⟨_, rfl, ?_⟩; replace aa := bb_ aa hb; replace HB := bs_ HB hb; (try clear hb); (try clear hb2); (try clear hk); (try clear hi); have cF := cz_ aa 0; have cG := cz_ aa 1; have cH := cz_ aa 2; have cI := blk_frozen aa.out 0; have cJ := blk_frozen aa.out 1; have cK := blk_frozen aa.out 2))
       go_ret
       exact ⟨tw_, (tb_ HB.out)⟩
    ·
     rw [if_neg c13] at H
     exact absurd H (by simp)

/-! ### slices_Index_string_string: function 107 -/
def slices_Index_string_string.l0 : Nat → List ByteArray → ByteArray → Int → Int → Option (Int)
 | 0, _, _, _, _ => none
 | k + 1, x0, x1, x7, x8 => if x8 < x7 then (if 0 ≤ x8 then (if x8 < (x0.length : Int) then (if x1.toList = (rdOf ByteArray.empty x0 x8).toList then (some x8) else (slices_Index_string_string.l0 k x0 x1 x7 (wrap64 (x8 + 1)))) else (none)) else (none)) else (some (-1))
def slices_Index_string_string.f (k : Nat) (l0 : List ByteArray) (a1 : ByteArray) : Option (Int) := slices_Index_string_string.l0 k l0 a1 (l0.length : Int) 0
theorem slices_Index_string_string.mono_l : ∀ k, (∀ y0 y1 y2 y3, LeO (slices_Index_string_string.l0 k y0 y1 y2 y3) (slices_Index_string_string.l0 (k + 1) y0 y1 y2 y3))
 | 0 => fun _ _ _ _ r h => by simp [slices_Index_string_string.l0] at h
 | k + 1 => by
  have ih0 := slices_Index_string_string.mono_l k
  ·
   intro y0 y1 y2 y3
   unfold slices_Index_string_string.l0
   repeat' (with_reducible first | exact ih0 _ _ _ _ | exact mr_ | exact mn_ | refine mi_ ?_ ?_ | refine mb_ ?_ (fun _ => ?_))
theorem slices_Index_string_string.mono : ∀ a0 a1 k, LeO (slices_Index_string_string.f k a0 a1) (slices_Index_string_string.f (k + 1) a0 a1) := by
 intro a0 a1 k
 have ih0 := slices_Index_string_string.mono_l k
 unfold slices_Index_string_string.f
 repeat' (with_reducible first | exact ih0 _ _ _ _ | exact mr_ | exact mn_ | refine mi_ ?_ ?_ | refine mb_ ?_ (fun _ => ?_))
set_option maxHeartbeats 8000000 in
set_option maxRecDepth 100000 in
theorem slices_Index_string_string.calls (k : Nat) (A0 : Option Addr) (c0 : Nat) (l0 : List ByteArray) (a1 : ByteArray) (r : Int) (w : World) (hr0 : Kd.C Kd.string w A0 l0.length l0) (hc0 : l0.length ≤ c0) (h : slices_Index_string_string.f k l0 a1 = some r) :
  Calls Tryz.prog 107 #[.slice A0 l0.length c0, .string a1] w fun e w' => e = .returned (.int .i64 r) ∧ Drawn0 w w' := by
 have HR0 := Aside0.mk hr0
 have HC0 := Aside0.mk hc0
 clear hr0 hc0
 have H : (slices_Index_string_string.l0 k l0 a1 (l0.length : Int) 0) = some r := h
 clear h
 have H' := Aside0.mk H
 clear H
 go_enter Tryz.func107, Tryz.ntmps107
 go_wp2
 go_loopg [8] k (fun kq v8 w' => ∃ (ac : Int), v8 = .int .i64 ac ∧ Aside0 (slices_Index_string_string.l0 kq l0 a1 (l0.length : Int) ac = some r) ∧ Aside0 (kq ≤ k) ∧ Drawn0 w w')
 case atStart => exact ⟨(0), tx_, H', ⟨Nat.le_refl _⟩, by repeat (first | exact Drawn0.refl _ | apply Drawn0.step)⟩
 case round =>
  clear H'
  try clear c1
  try clear p2
  obtain ⟨ac, rfl, HA, HK1, ⟨m1, rfl⟩⟩ := hrel
  cases gk with
  | zero => exact absurd HA.out (by simp [slices_Index_string_string.l0])
  | succ k1 =>
   have H := HA.out
   clear HA
   simp only [slices_Index_string_string.l0] at H
   by_cases c3 : ac < (l0.length : Int)
   ·
    rw [if_pos c3] at H
    have cL : decide (ac < (l0.length : Int)) = true := decide_eq_true c3
    clear c3
    by_cases c4 : 0 ≤ ac
    ·
     rw [if_pos c4] at H
     have af : decide (0 ≤ ac) = true := decide_eq_true c4
     clear c4
     by_cases c5 : ac < (l0.length : Int)
     ·
      rw [if_pos c5] at H
      have dk : decide (ac < (l0.length : Int)) = true := decide_eq_true c5
      clear c5
      by_cases c6 : a1.toList = (rdOf ByteArray.empty l0 ac).toList
      ·
       rw [if_pos c6] at H
       have aj : (a1.toList == (rdOf ByteArray.empty l0 ac).toList) = true := beq_iff_eq.mpr c6
       have cM : (a1.toList != (rdOf ByteArray.empty l0 ac).toList) = false := bne_eq_false_iff_eq.mpr c6
       clear c6
       obtain rfl := Option.some.inj H
       have p400 : 0 ≤ (ac : Int) := od_
       have q400 : ac < (l0.length : Int) := od_
       obtain ⟨ad400, e400, aq⟩ := Kd.at_string HR0.out ac p400 q400
       cases e400
       replace p400 := eq_true p400
       replace q400 := eq_true q400
       go_wp2
       go_ret
       exact ⟨tx_, by repeat (first | exact Drawn0.refl _ | apply Drawn0.step)⟩
      ·
       rw [if_neg c6] at H
       have aj : (a1.toList == (rdOf ByteArray.empty l0 ac).toList) = false := beq_eq_false_iff_ne.mpr c6
       have cM : (a1.toList != (rdOf ByteArray.empty l0 ac).toList) = true := bne_iff_ne.mpr c6
       have H' := Aside0.mk H
       clear H
       have p400 : 0 ≤ (ac : Int) := od_
       have q400 : ac < (l0.length : Int) := od_
       obtain ⟨ad400, e400, aq⟩ := Kd.at_string HR0.out ac p400 q400
       cases e400
       replace p400 := eq_true p400
       replace q400 := eq_true q400
       go_wp2
       go_roundg k1
       case measure => have := HK1.out; omega
       case rel => exact ⟨(wrap64 (ac + 1)), tx_, H', ⟨by have := HK1.out; omega⟩, by repeat (first | exact Drawn0.refl _ | apply Drawn0.step)⟩
     ·
      rw [if_neg c5] at H
      exact absurd H (by simp)
    ·
     rw [if_neg c4] at H
     exact absurd H (by simp)
   ·
    rw [if_neg c3] at H
    have cL : decide (ac < (l0.length : Int)) = false := decide_eq_false c3
    clear c3
    obtain rfl := Option.some.inj H
    go_wp2
    go_ret
    exact ⟨tx_, by repeat (first | exact Drawn0.refl _ | apply Drawn0.step)⟩

end Go.Proofs.YtfibbdefcppfcaaGreatDoor.MFnExactStoreMend
