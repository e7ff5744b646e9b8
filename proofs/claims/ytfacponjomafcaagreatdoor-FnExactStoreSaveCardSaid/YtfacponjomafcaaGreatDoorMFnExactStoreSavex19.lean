/- For the law FnExactStoreSave: walks of the functions that it reaches: each call returns what the plain function beside it tells. The conditions stand in each statement. -/
import Derived.Test.YtfacponjomafcaaGreatDoorV
import Derived.Test.YtfacponjomafcaaGreatDoorMFnExactStoreSavex0
import Derived.Test.YtfacponjomafcaaGreatDoorMFnExactStoreSavex16
namespace Go.Proofs.YtfacponjomafcaaGreatDoor.MFnExactStoreSave
open Go.RowKit Go.Proofs.YtfacponjomafcaaGreatDoorW.PrintWords Go.Proofs.YtfacponjomafcaaGreatDoorW.PrintLast Go.Proofs.YtfacponjomafcaaGreatDoorW.PrintMore
attribute [local go_sem] max2_int min2_int max_two min_two max_three min_three max_four min_four   -- for this text's walks alone
set_option linter.unusedVariables false
set_option linter.unusedSimpArgs false
set_option maxHeartbeats 8000000
set_option maxRecDepth 100000

/-! ### slices_Index_string_string: function 83 -/
def slices_Index_string_string.l0 : Nat → List ByteArray → ByteArray → Int → Int → Option (Int)
 | 0, _, _, _, _ => none
 | k + 1, x0, x1, x7, x8 => if x8 < x7 then (if 0 ≤ x8 then (if x8 < (x0.length : Int) then (if x1.toList = (rdOf ByteArray.empty x0 x8).toList then (some x8) else (slices_Index_string_string.l0 k x0 x1 x7 (wrap64 (x8 + 1)))) else (none)) else (none)) else (some (-1))
def slices_Index_string_string.f (k : Nat) (l0 : List ByteArray) (a1 : ByteArray) : Option (Int) := slices_Index_string_string.l0 k l0 a1 (l0.length : Int) 0
theorem slices_Index_string_string.calls (k : Nat) (A0 : Option Addr) (c0 : Nat) (l0 : List ByteArray) (a1 : ByteArray) (r : Int) (w : World) (hr0 : Kd.C Kd.string w A0 l0.length l0) (hc0 : l0.length ≤ c0) (h : slices_Index_string_string.f k l0 a1 = some r) :
  Calls Tryz.prog 83 #[.slice A0 l0.length c0, .string a1] w fun e w' => e = .returned (.int .i64 r) ∧ Drawn0 w w' := by
 have HR0 := A_ hr0; have HC0 := A_ hc0; clear hr0 hc0; have H : (slices_Index_string_string.l0 k l0 a1 (l0.length : Int) 0) = some r := h; clear h; have H' := A_ H; clear H; go_enter Tryz.func83, Tryz.ntmps83; go_wp2
 go_loopg [8] k (fun kq v8 w' => ∃ (ac : Int), v8 = .int .i64 ac ∧ Aside0 (slices_Index_string_string.l0 kq l0 a1 (l0.length : Int) ac = some r) ∧ Aside0 (kq ≤ k) ∧ Drawn0 w w')
 case atStart => exact ⟨(0), tx_, H', ⟨Nat.le_refl _⟩, dz_⟩
 case round =>
  clear H'; obtain ⟨ac, rfl, HA, HK1, ⟨m1, rfl⟩⟩ := hrel
  cases gk with
  | zero => exact absurd HA.out (by simp [slices_Index_string_string.l0])
  | succ k1 =>
   have H := HA.out; clear HA; simp only [slices_Index_string_string.l0] at H; replace H := it_ H; rcases H with ⟨cL, H⟩ | ⟨cL, H⟩
   ·
    replace H := in_ H; obtain ⟨af, H⟩ := H; replace H := in_ H; obtain ⟨di, H⟩ := H; by_cases c6 : a1.toList = (rdOf ByteArray.empty l0 ac).toList
    ·
     rw [if_pos c6] at H; have aj : (a1.toList == (rdOf ByteArray.empty l0 ac).toList) = true := beq_iff_eq.mpr c6; have cM : (a1.toList != (rdOf ByteArray.empty l0 ac).toList) = false := bne_eq_false_iff_eq.mpr c6; clear c6; obtain rfl := Option.some.inj H; obtain ⟨p570, q570, ad570, e570, ak⟩ := a2_ (Kd.at_string HR0.out ac); cases e570; go_wp2; go_ret; exact ⟨tx_, dz_⟩
    ·
     rw [if_neg c6] at H; have aj : (a1.toList == (rdOf ByteArray.empty l0 ac).toList) = false := beq_eq_false_iff_ne.mpr c6; have cM : (a1.toList != (rdOf ByteArray.empty l0 ac).toList) = true := bne_iff_ne.mpr c6; have H' := A_ H; clear H; obtain ⟨p570, q570, ad570, e570, ak⟩ := a2_ (Kd.at_string HR0.out ac); cases e570; go_wp2
     go_roundg k1
     case measure => have := HK1.out; omega
     case rel => exact ⟨(wrap64 (ac + 1)), tx_, H', ⟨by have := HK1.out; omega⟩, dz_⟩
   ·
    obtain rfl := Option.some.inj H; go_wp2; go_ret; exact ⟨tx_, dz_⟩

/-! ### impl_DeedText: function 84 -/
def impl_DeedText.j0 : Nat → Bool → Int → Int → Int → Option (ByteArray)
 | 0, _, _, _, _ => none
 | k + 1, x21, ad, ag, ah => if x21 = true then (some (⟨#[]⟩ : ByteArray)) else ((strconv_Itoa.f ag).bind fun ab => (if 1 + ab.size ≤ 9223372036854775807 then (if ad = 0 then (if 3 + ((⟨#[32]⟩ : ByteArray) ++ ab).size ≤ 9223372036854775807 then (if ((⟨#[112, 117, 116]⟩ : ByteArray) ++ ((⟨#[32]⟩ : ByteArray) ++ ab)).size + 1 ≤ 9223372036854775807 then ((strconv_Itoa.f ah).bind fun ae => (if (((⟨#[112, 117, 116]⟩ : ByteArray) ++ ((⟨#[32]⟩ : ByteArray) ++ ab)) ++ (⟨#[32]⟩ : ByteArray)).size + ae.size ≤ 9223372036854775807 then (some ((((⟨#[112, 117, 116]⟩ : ByteArray) ++ ((⟨#[32]⟩ : ByteArray) ++ ab)) ++ (⟨#[32]⟩ : ByteArray)) ++ ae)) else (none))) else (none)) else (none)) else (if ah = 0 then (if ad = 1 then (if 4 + ((⟨#[32]⟩ : ByteArray) ++ ab).size ≤ 9223372036854775807 then (some ((⟨#[115, 116, 101, 112]⟩ : ByteArray) ++ ((⟨#[32]⟩ : ByteArray) ++ ab))) else (none)) else (if ad = 2 then (if 4 + ((⟨#[32]⟩ : ByteArray) ++ ab).size ≤ 9223372036854775807 then (some ((⟨#[100, 114, 97, 119]⟩ : ByteArray) ++ ((⟨#[32]⟩ : ByteArray) ++ ab))) else (none)) else (if ag = 0 then (if ad = 3 then (some (⟨#[97, 103, 97, 105, 110]⟩ : ByteArray)) else (if ad = 4 then (some (⟨#[98, 97, 99, 107]⟩ : ByteArray)) else (some (⟨#[]⟩ : ByteArray)))) else (some (⟨#[]⟩ : ByteArray))))) else (some (⟨#[]⟩ : ByteArray)))) else (none)))
def impl_DeedText.f (k : Nat) (a0_0 : Int) (a0_1 : Int) (a0_2 : Int) : Option (ByteArray) := if a0_1 < (-99) then (impl_DeedText.j0 k true a0_0 a0_1 a0_2) else (if a0_1 > 99 then (impl_DeedText.j0 k true a0_0 a0_1 a0_2) else (if a0_2 < (-99) then (impl_DeedText.j0 k true a0_0 a0_1 a0_2) else (impl_DeedText.j0 k (decide (a0_2 > 99)) a0_0 a0_1 a0_2)))
theorem impl_DeedText.calls (k : Nat) (a0_0 : Int) (a0_1 : Int) (a0_2 : Int) (r : ByteArray) (w : World) (hG : GWb w) (h : impl_DeedText.f k a0_0 a0_1 a0_2 = some r) :
  Calls Tryz.prog 84 #[.agg #[.int .i64 a0_0, .int .i64 a0_1, .int .i64 a0_2]] w fun e w' => e = .returned (.string r) ∧ Below w.heap.size w w' := by
 have HG := A_ hG; clear hG; have hu92 := Tryz.underlying92; have HB := A_ (Below.refl w.heap.size w); have H : (if a0_1 < (-99) then (impl_DeedText.j0 k true a0_0 a0_1 a0_2) else (if a0_1 > 99 then (impl_DeedText.j0 k true a0_0 a0_1 a0_2) else (if a0_2 < (-99) then (impl_DeedText.j0 k true a0_0 a0_1 a0_2) else (impl_DeedText.j0 k (decide (a0_2 > 99)) a0_0 a0_1 a0_2)))) = some r := h; clear h; have HC2 := A_ H; clear H; go_enter Tryz.func84, Tryz.ntmps84
 go_upto_region 1 with (first | ((with_reducible refine gate_dst (N := 1) rfl ?_); refine be_ 1 #[.int .i64 a0_0, .int .i64 a0_1, .int .i64 a0_2] 92 ?_; intro aL hg w3 aa hb; have cN := gx_ HB hg; have cO := gx_ HB hg; replace HB := bs_ HB hb; clear hb hg))
 (try simp only [Act.put, sa_, sb_, sc_])
 go_cut [21] (fun dj wc => ∃ (kq : Nat) (ai : Bool), dj = .bool ai ∧ Aside0 (impl_DeedText.j0 kq ai a0_0 a0_1 a0_2 = some r) ∧ Aside0 (kq ≤ k) ∧ Aside0 (wc.heap[aL]? = some (.cells #[.int .i64 a0_0, .int .i64 a0_1, .int .i64 a0_2] 92 (0, 0))) ∧ Aside0 (Below w.heap.size w wc))
 case first =>
  have H := HC2.out; clear HC2; replace H := it_ H; rcases H with ⟨af, H⟩ | ⟨af, H⟩
  ·
   (first | rw [af] | (simp only [i64_w, i32_w]; rw [af]) | skip); have H' := A_ H; clear H; obtain ⟨ar, au, av, aw, ax, ay⟩ := cf3_ aa; go_wp2; go_meet
   case rel => exact ⟨_, (true), tx_, H', ⟨by first | omega | exact Nat.le_refl _⟩, ⟨tk_ aa.out⟩, ⟨(tb_ HB.out)⟩⟩
  ·
   (first | rw [af] | (simp only [i64_w, i32_w]; rw [af]) | skip); replace H := ig_ H; rcases H with ⟨aj, H⟩ | ⟨aj, H⟩
   ·
    have H' := A_ H; clear H; obtain ⟨az, aA, aB, aC, aD, aE⟩ := cf3_ aa; go_wp2; go_meet
    case rel => exact ⟨_, (true), tx_, H', ⟨by first | omega | exact Nat.le_refl _⟩, ⟨tk_ aa.out⟩, ⟨(tb_ HB.out)⟩⟩
   ·
    replace H := it_ H; rcases H with ⟨aM, H⟩ | ⟨aM, H⟩
    ·
     have H' := A_ H; clear H; obtain ⟨aF, aG, aH, aI, aJ, aK⟩ := cf3_ aa; go_wp2; go_meet
     case rel => exact ⟨_, (true), tx_, H', ⟨by first | omega | exact Nat.le_refl _⟩, ⟨tk_ aa.out⟩, ⟨(tb_ HB.out)⟩⟩
    ·
     have H' := A_ H; clear H; obtain ⟨al, am, an, ao, ap, aq⟩ := cf3_ aa; go_wp2; go_meet
     case rel => exact ⟨_, (decide (a0_2 > 99)), tx_, H', ⟨by first | omega | exact Nat.le_refl _⟩, ⟨tk_ aa.out⟩, ⟨(tb_ HB.out)⟩⟩
 case rest =>
  clear HC2; obtain ⟨kq, ai, rfl, HA, HJ1, aa, HB⟩ := hcut
  cases kq with
  | zero => exact absurd HA.out (by simp [impl_DeedText.j0])
  | succ kj1 =>
   have H := HA.out; clear HA; simp only [impl_DeedText.j0] at H; by_cases c11 : ai = true
   ·
    subst c11; replace H : (some (⟨#[]⟩ : ByteArray)) = some r := by rw [if_pos rfl] at H; exact H
    obtain rfl := Option.some.inj H; go_wp2; go_ret; exact ⟨tw_, (tb_ HB.out)⟩
   ·
    replace c11 := Bool.eq_false_iff.mpr c11; subst c11; replace H : ((strconv_Itoa.f a0_1).bind fun ab => (if 1 + ab.size ≤ 9223372036854775807 then (if a0_0 = 0 then (if 3 + ((⟨#[32]⟩ : ByteArray) ++ ab).size ≤ 9223372036854775807 then (if ((⟨#[112, 117, 116]⟩ : ByteArray) ++ ((⟨#[32]⟩ : ByteArray) ++ ab)).size + 1 ≤ 9223372036854775807 then ((strconv_Itoa.f a0_2).bind fun ae => (if (((⟨#[112, 117, 116]⟩ : ByteArray) ++ ((⟨#[32]⟩ : ByteArray) ++ ab)) ++ (⟨#[32]⟩ : ByteArray)).size + ae.size ≤ 9223372036854775807 then (some ((((⟨#[112, 117, 116]⟩ : ByteArray) ++ ((⟨#[32]⟩ : ByteArray) ++ ab)) ++ (⟨#[32]⟩ : ByteArray)) ++ ae)) else (none))) else (none)) else (none)) else (if a0_2 = 0 then (if a0_0 = 1 then (if 4 + ((⟨#[32]⟩ : ByteArray) ++ ab).size ≤ 9223372036854775807 then (some ((⟨#[115, 116, 101, 112]⟩ : ByteArray) ++ ((⟨#[32]⟩ : ByteArray) ++ ab))) else (none)) else (if a0_0 = 2 then (if 4 + ((⟨#[32]⟩ : ByteArray) ++ ab).size ≤ 9223372036854775807 then (some ((⟨#[100, 114, 97, 119]⟩ : ByteArray) ++ ((⟨#[32]⟩ : ByteArray) ++ ab))) else (none)) else (if a0_1 = 0 then (if a0_0 = 3 then (some (⟨#[97, 103, 97, 105, 110]⟩ : ByteArray)) else (if a0_0 = 4 then (some (⟨#[98, 97, 99, 107]⟩ : ByteArray)) else (some (⟨#[]⟩ : ByteArray)))) else (some (⟨#[]⟩ : ByteArray))))) else (some (⟨#[]⟩ : ByteArray)))) else (none))) = some r := by rw [if_neg (show ¬ (false = true) by decide)] at H; exact H
    obtain ⟨ab, A12, H⟩ := bnd_ H; (try dsimp only at H); replace H := i0_ H; obtain ⟨c13, H⟩ := H; have cP := eq_true c13; have cQ : decide (1 + ab.size ≤ 9223372036854775807) = true := decide_eq_true c13; (try have cR : (9223372036854775807 < 1 + ab.size) = False := eq_false (Nat.not_lt.2 c13)); by_cases c14 : a0_0 = 0
    ·
     rw [if_pos c14] at H; have aN : (a0_0 == 0) = true := beq_iff_eq.mpr c14; have aO : (a0_0 != 0) = false := bne_eq_false_iff_eq.mpr c14; clear c14; replace H := i0_ H; obtain ⟨c15, H⟩ := H; have cS := eq_true c15; have cT : decide (3 + ((⟨#[32]⟩ : ByteArray) ++ ab).size ≤ 9223372036854775807) = true := decide_eq_true c15; (try have cU : (9223372036854775807 < 3 + ((⟨#[32]⟩ : ByteArray) ++ ab).size) = False := eq_false (Nat.not_lt.2 c15)); (try have cV : (9223372036854775807 < 3 + (1 + ab.size)) = False := eq_false (by have h := c15; simp only [ByteArray.size_append] at h; simp only [ByteArray.size] at h ⊢; simp at h ⊢; omega)); replace H := i0_ H; obtain ⟨c16, H⟩ := H; have cW := eq_true c16; have cX : decide (((⟨#[112, 117, 116]⟩ : ByteArray) ++ ((⟨#[32]⟩ : ByteArray) ++ ab)).size + 1 ≤ 9223372036854775807) = true := decide_eq_true c16; (try have cY : (9223372036854775807 < ((⟨#[112, 117, 116]⟩ : ByteArray) ++ ((⟨#[32]⟩ : ByteArray) ++ ab)).size + 1) = False := eq_false (Nat.not_lt.2 c16)); (try have cZ : (9223372036854775807 < 3 + (1 + ab.size) + 1) = False := eq_false (by have h := c16; simp only [ByteArray.size_append] at h; simp only [ByteArray.size] at h ⊢; simp at h ⊢; omega)); obtain ⟨ae, A17, H⟩ := bnd_ H; (try dsimp only at H); replace H := i0_ H; obtain ⟨c18, H⟩ := H; have c1 := eq_true c18; have c2 : decide ((((⟨#[112, 117, 116]⟩ : ByteArray) ++ ((⟨#[32]⟩ : ByteArray) ++ ab)) ++ (⟨#[32]⟩ : ByteArray)).size + ae.size ≤ 9223372036854775807) = true := decide_eq_true c18; (try have c7 : (9223372036854775807 < (((⟨#[112, 117, 116]⟩ : ByteArray) ++ ((⟨#[32]⟩ : ByteArray) ++ ab)) ++ (⟨#[32]⟩ : ByteArray)).size + ae.size) = False := eq_false (Nat.not_lt.2 c18)); (try have c9 : (9223372036854775807 < 3 + (1 + ab.size) + 1 + ae.size) = False := eq_false (by have h := c18; simp only [ByteArray.size_append] at h; simp only [ByteArray.size] at h ⊢; simp at h ⊢; omega)); obtain rfl := Option.some.inj H; obtain ⟨a6, a7, a8, a9, bb, bc⟩ := cf3_ aa; go_wp2_with (first | ((with_reducible refine gate_callee (f := 38) rfl ?_); refine gl_ (some 24) Tryz.func38 #[.int .i64 a0_1] ?_; (with_reducible refine (strconv_Itoa.calls a0_1 ab _ ?s1 A12.out).mono ?_); (case s1 => exact GWb.below HG.out (tb_ HB.out)); rintro e dk ⟨rfl, hb⟩; refine ⟨_, rfl, ?_⟩; replace aa := bb_ aa hb; replace HB := bs_ HB hb; (try clear hb); obtain ⟨bd, be, bf, bg, bh, bi⟩ := cf3_ aa) | ((with_reducible refine gate_callee (f := 38) rfl ?_); refine gl_ (some 35) Tryz.func38 #[.int .i64 a0_2] ?_; (with_reducible refine (strconv_Itoa.calls a0_2 ae _ ?s1 A17.out).mono ?_); (case s1 => exact GWb.below HG.out (tb_ HB.out)); rintro e dl ⟨rfl, hb⟩; refine ⟨_, rfl, ?_⟩; replace aa := bb_ aa hb; replace HB := bs_ HB hb; (try clear hb))); go_ret; exact ⟨tw_, (tb_ HB.out)⟩
    ·
     rw [if_neg c14] at H; have aN : (a0_0 == 0) = false := beq_eq_false_iff_ne.mpr c14; have aO : (a0_0 != 0) = true := bne_iff_ne.mpr c14; by_cases c23 : a0_2 = 0
     ·
      rw [if_pos c23] at H; have aP : (a0_2 == 0) = true := beq_iff_eq.mpr c23; have aQ : (a0_2 != 0) = false := bne_eq_false_iff_eq.mpr c23; clear c23; by_cases c24 : a0_0 = 1
      ·
       rw [if_pos c24] at H; have aR : (a0_0 == 1) = true := beq_iff_eq.mpr c24; have aU : (a0_0 != 1) = false := bne_eq_false_iff_eq.mpr c24; clear c24; replace H := i0_ H; obtain ⟨c25, H⟩ := H; have da := eq_true c25; have db : decide (4 + ((⟨#[32]⟩ : ByteArray) ++ ab).size ≤ 9223372036854775807) = true := decide_eq_true c25; (try have dc : (9223372036854775807 < 4 + ((⟨#[32]⟩ : ByteArray) ++ ab).size) = False := eq_false (Nat.not_lt.2 c25)); (try have dd : (9223372036854775807 < 4 + (1 + ab.size)) = False := eq_false (by have h := c25; simp only [ByteArray.size_append] at h; simp only [ByteArray.size] at h ⊢; simp at h ⊢; omega)); obtain rfl := Option.some.inj H; obtain ⟨bj, bk, bl, bm, bn, bo⟩ := cf3_ aa; go_wp2_with (first | ((with_reducible refine gate_callee (f := 38) rfl ?_); refine gl_ (some 24) Tryz.func38 #[.int .i64 a0_1] ?_; (with_reducible refine (strconv_Itoa.calls a0_1 ab _ ?s1 A12.out).mono ?_); (case s1 => exact GWb.below HG.out (tb_ HB.out)); rintro e dm ⟨rfl, hb⟩; refine ⟨_, rfl, ?_⟩; replace aa := bb_ aa hb; replace HB := bs_ HB hb; (try clear hb); obtain ⟨bp, bq, br, bs, bu, bv⟩ := cf3_ aa)); go_ret; exact ⟨tw_, (tb_ HB.out)⟩
      ·
       rw [if_neg c24] at H; have aR : (a0_0 == 1) = false := beq_eq_false_iff_ne.mpr c24; have aU : (a0_0 != 1) = true := bne_iff_ne.mpr c24; by_cases c29 : a0_0 = 2
       ·
        rw [if_pos c29] at H; have aV : (a0_0 == 2) = true := beq_iff_eq.mpr c29; have aW : (a0_0 != 2) = false := bne_eq_false_iff_eq.mpr c29; clear c29; replace H := i0_ H; obtain ⟨c30, H⟩ := H; have de := eq_true c30; have df : decide (4 + ((⟨#[32]⟩ : ByteArray) ++ ab).size ≤ 9223372036854775807) = true := decide_eq_true c30; (try have dg : (9223372036854775807 < 4 + ((⟨#[32]⟩ : ByteArray) ++ ab).size) = False := eq_false (Nat.not_lt.2 c30)); (try have dh : (9223372036854775807 < 4 + (1 + ab.size)) = False := eq_false (by have h := c30; simp only [ByteArray.size_append] at h; simp only [ByteArray.size] at h ⊢; simp at h ⊢; omega)); obtain rfl := Option.some.inj H; obtain ⟨bw, bx, bz, bB, bC, bD⟩ := cf3_ aa; go_wp2_with (first | ((with_reducible refine gate_callee (f := 38) rfl ?_); refine gl_ (some 24) Tryz.func38 #[.int .i64 a0_1] ?_; (with_reducible refine (strconv_Itoa.calls a0_1 ab _ ?s1 A12.out).mono ?_); (case s1 => exact GWb.below HG.out (tb_ HB.out)); rintro e dn ⟨rfl, hb⟩; refine ⟨_, rfl, ?_⟩; replace aa := bb_ aa hb; replace HB := bs_ HB hb; (try clear hb); obtain ⟨bE, bF, bG, bH, bI, bJ⟩ := cf3_ aa)); go_ret; exact ⟨tw_, (tb_ HB.out)⟩
       ·
        rw [if_neg c29] at H; have aV : (a0_0 == 2) = false := beq_eq_false_iff_ne.mpr c29; have aW : (a0_0 != 2) = true := bne_iff_ne.mpr c29; by_cases c34 : a0_1 = 0
        ·
         rw [if_pos c34] at H; have aX : (a0_1 == 0) = true := beq_iff_eq.mpr c34; have aY : (a0_1 != 0) = false := bne_eq_false_iff_eq.mpr c34; clear c34; by_cases c35 : a0_0 = 3
         ·
          rw [if_pos c35] at H; have aZ : (a0_0 == 3) = true := beq_iff_eq.mpr c35; have a3 : (a0_0 != 3) = false := bne_eq_false_iff_eq.mpr c35; clear c35; obtain rfl := Option.some.inj H; obtain ⟨bK, bL, bM, bN, bO, bP⟩ := cf3_ aa; go_wp2_with (first | ((with_reducible refine gate_callee (f := 38) rfl ?_); refine gl_ (some 24) Tryz.func38 #[.int .i64 a0_1] ?_; (with_reducible refine (strconv_Itoa.calls a0_1 ab _ ?s1 A12.out).mono ?_); (case s1 => exact GWb.below HG.out (tb_ HB.out)); rintro e dp ⟨rfl, hb⟩; refine ⟨_, rfl, ?_⟩; replace aa := bb_ aa hb; replace HB := bs_ HB hb; (try clear hb); obtain ⟨bQ, bR, bS, bU, bV, bW⟩ := cf3_ aa)); go_ret; exact ⟨tw_, (tb_ HB.out)⟩
         ·
          rw [if_neg c35] at H; have aZ : (a0_0 == 3) = false := beq_eq_false_iff_ne.mpr c35; have a3 : (a0_0 != 3) = true := bne_iff_ne.mpr c35; by_cases c39 : a0_0 = 4
          ·
           rw [if_pos c39] at H; have a4 : (a0_0 == 4) = true := beq_iff_eq.mpr c39; have a5 : (a0_0 != 4) = false := bne_eq_false_iff_eq.mpr c39; clear c39; obtain rfl := Option.some.inj H; obtain ⟨bX, bZ, b0, b1, b2, b3⟩ := cf3_ aa; go_wp2_with (first | ((with_reducible refine gate_callee (f := 38) rfl ?_); refine gl_ (some 24) Tryz.func38 #[.int .i64 a0_1] ?_; (with_reducible refine (strconv_Itoa.calls a0_1 ab _ ?s1 A12.out).mono ?_); (case s1 => exact GWb.below HG.out (tb_ HB.out)); rintro e dq ⟨rfl, hb⟩; refine ⟨_, rfl, ?_⟩; replace aa := bb_ aa hb; replace HB := bs_ HB hb; (try clear hb); obtain ⟨b4, b5, b6, b7, b8, b9⟩ := cf3_ aa)); go_ret; exact ⟨tw_, (tb_ HB.out)⟩
          ·
           rw [if_neg c39] at H; have a4 : (a0_0 == 4) = false := beq_eq_false_iff_ne.mpr c39; have a5 : (a0_0 != 4) = true := bne_iff_ne.mpr c39; obtain rfl := Option.some.inj H; obtain ⟨ca, cb, cc, cd, ce, cf⟩ := cf3_ aa; go_wp2_with (first | ((with_reducible refine gate_callee (f := 38) rfl ?_); refine gl_ (some 24) Tryz.func38 #[.int .i64 a0_1] ?_; (with_reducible refine (strconv_Itoa.calls a0_1 ab _ ?s1 A12.out).mono ?_); (case s1 => exact GWb.below HG.out (tb_ HB.out)); rintro e dr ⟨rfl, hb⟩; refine ⟨_, rfl, ?_⟩; replace aa := bb_ aa hb; replace HB := bs_ HB hb; (try clear hb); obtain ⟨cg, ch, ci, cj, ck, cl⟩ := cf3_ aa)); go_ret; exact ⟨tw_, (tb_ HB.out)⟩
        ·
         rw [if_neg c34] at H; have aX : (a0_1 == 0) = false := beq_eq_false_iff_ne.mpr c34; have aY : (a0_1 != 0) = true := bne_iff_ne.mpr c34; obtain rfl := Option.some.inj H; obtain ⟨cm, cn, co, cp, cq, cr⟩ := cf3_ aa; go_wp2_with (first | ((with_reducible refine gate_callee (f := 38) rfl ?_); refine gl_ (some 24) Tryz.func38 #[.int .i64 a0_1] ?_; (with_reducible refine (strconv_Itoa.calls a0_1 ab _ ?s1 A12.out).mono ?_); (case s1 => exact GWb.below HG.out (tb_ HB.out)); rintro e ds ⟨rfl, hb⟩; refine ⟨_, rfl, ?_⟩; replace aa := bb_ aa hb; replace HB := bs_ HB hb; (try clear hb); obtain ⟨ct, cu, cv, cw, cx, cy⟩ := cf3_ aa)); go_ret; exact ⟨tw_, (tb_ HB.out)⟩
     ·
      rw [if_neg c23] at H; have aP : (a0_2 == 0) = false := beq_eq_false_iff_ne.mpr c23; have aQ : (a0_2 != 0) = true := bne_iff_ne.mpr c23; obtain rfl := Option.some.inj H; obtain ⟨cz, cA, cB, cC, cD, cE⟩ := cf3_ aa; go_wp2_with (first | ((with_reducible refine gate_callee (f := 38) rfl ?_); refine gl_ (some 24) Tryz.func38 #[.int .i64 a0_1] ?_; (with_reducible refine (strconv_Itoa.calls a0_1 ab _ ?s1 A12.out).mono ?_); (case s1 => exact GWb.below HG.out (tb_ HB.out)); rintro e dt ⟨rfl, hb⟩; refine ⟨_, rfl, ?_⟩; replace aa := bb_ aa hb; replace HB := bs_ HB hb; (try clear hb); obtain ⟨cF, cG, cH, cI, cJ, cK⟩ := cf3_ aa)); go_ret; exact ⟨tw_, (tb_ HB.out)⟩
end Go.Proofs.YtfacponjomafcaaGreatDoor.MFnExactStoreSave
