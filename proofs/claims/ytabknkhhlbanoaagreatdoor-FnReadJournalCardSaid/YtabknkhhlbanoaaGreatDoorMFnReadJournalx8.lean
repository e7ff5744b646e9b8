/- Walks for FnReadJournal: a call returns what the plain function tells. Conditions: in each statement. -/
import Derived.Test.YtabknkhhlbanoaaGreatDoorMFnReadJournalx7
namespace Go.Proofs.YtabknkhhlbanoaaGreatDoor.MFnReadJournal
open Go.RowKit Go.Proofs.YtabknkhhlbanoaaGreatDoorW.PrintWords Go.Proofs.YtabknkhhlbanoaaGreatDoorW.PrintLast Go.Proofs.YtabknkhhlbanoaaGreatDoorW.PrintMore
set_option linter.unusedVariables false
set_option linter.unusedSimpArgs false
set_option maxHeartbeats 8000000
set_option maxRecDepth 100000
def impl_DeedText.j0:Nat→Bool→Int→Int→Int→Option (ByteArray)
 |0,_,_,_,_=>none
 |k+1,x21,ah,au,av=>if x21=true then (some (⟨#[]⟩:ByteArray)) else ((strconv_Itoa.f au).bind fun ab=>(if 1+ab.size≤9223372036854775807 then (if ah=0 then (if 3+((⟨#[32]⟩:ByteArray)++ab).size≤9223372036854775807 then (if ((⟨#[112,117,116]⟩:ByteArray)++((⟨#[32]⟩:ByteArray)++ab)).size+1≤9223372036854775807 then ((strconv_Itoa.f av).bind fun ap=>(if (((⟨#[112,117,116]⟩:ByteArray)++((⟨#[32]⟩:ByteArray)++ab))++(⟨#[32]⟩:ByteArray)).size+ap.size≤9223372036854775807 then (some ((((⟨#[112,117,116]⟩:ByteArray)++((⟨#[32]⟩:ByteArray)++ab))++(⟨#[32]⟩:ByteArray))++ap)) else (none))) else (none)) else (none)) else (if av=0 then (if ah=1 then (if 4+((⟨#[32]⟩:ByteArray)++ab).size≤9223372036854775807 then (some ((⟨#[115,116,101,112]⟩:ByteArray)++((⟨#[32]⟩:ByteArray)++ab))) else (none)) else (if ah=2 then (if 4+((⟨#[32]⟩:ByteArray)++ab).size≤9223372036854775807 then (some ((⟨#[100,114,97,119]⟩:ByteArray)++((⟨#[32]⟩:ByteArray)++ab))) else (none)) else (if au=0 then (if ah=3 then (some (⟨#[97,103,97,105,110]⟩:ByteArray)) else (if ah=4 then (some (⟨#[98,97,99,107]⟩:ByteArray)) else (some (⟨#[]⟩:ByteArray)))) else (some (⟨#[]⟩:ByteArray))))) else (some (⟨#[]⟩:ByteArray)))) else (none)))
def impl_DeedText.f (k:Nat) (a0_0:Int) (a0_1:Int) (a0_2:Int):Option (ByteArray):=if a0_1<(-99) then (impl_DeedText.j0 k true a0_0 a0_1 a0_2) else (if a0_1>99 then (impl_DeedText.j0 k true a0_0 a0_1 a0_2) else (if a0_2<(-99) then (impl_DeedText.j0 k true a0_0 a0_1 a0_2) else (impl_DeedText.j0 k (decide (a0_2>99)) a0_0 a0_1 a0_2)))
theorem impl_DeedText.z0 {P_:Prop} (h_:P_:=by go_wp2_with (first|((with_reducible refine gc_ 32 ?_);refine ca_ (some 24) Tryz.func32 _ (strconv_Itoa.calls _ _ _ (GWb.below HG.out st.b) A_24.out) ?_;rintro e w_ ⟨rfl,hb⟩;refine ⟨_,rfl,?_⟩;replace st:=st.ev hb;clear cl hb;have cl:=cl_ st)|((with_reducible refine gc_ 32 ?_);refine ca_ (some 35) Tryz.func32 _ (strconv_Itoa.calls _ _ _ (GWb.below HG.out st.b) A_35.out) ?_;rintro e w_ ⟨rfl,hb⟩;refine ⟨_,rfl,?_⟩;replace st:=st.ev hb;clear cl hb;have cl:=cl_ st));(go_ret;exact ⟨tw_,st.b⟩)):P_:=h_
theorem impl_DeedText.calls (k:Nat) (a0_0:Int) (a0_1:Int) (a0_2:Int) (r:ByteArray) (w:World) (hG:GWb w) (h:impl_DeedText.f k a0_0 a0_1 a0_2=some r) :
  Calls Tryz.prog 11 #[.agg #[.int .i64 a0_0,.int .i64 a0_1,.int .i64 a0_2]] w fun e w'=>e=.returned (.string r)∧Below w.heap.size w w':=by
 have HG:=A_ hG;clear hG;have hu41:=Tryz.underlying41;have st:=ST.nil w;have s0:=st;have cl:=cl_ st;have H:=h;clear h;unfold impl_DeedText.f at H;go_enter Tryz.func11,Tryz.ntmps11;have HC3:=A_ H;clear H
 go_upto_region 1 with (first|((with_reducible refine gd_ 1 ?_);refine al_ st ?_;clear st cl;intro g1 w_ st;have cl:=cl_ st))
 (try simp only [Act.put,sa_,sb_,sc_])
 go_cut [21] (fun bC wc=>∃(kq:Nat) (aw:Bool),bC=.bool aw∧Aside0 (impl_DeedText.j0 kq aw a0_0 a0_1 a0_2=some r)∧Aside0 (kq≤k)∧ST w [] [Bx g1 #[.int .i64 a0_0,.int .i64 a0_1,.int .i64 a0_2] 41] wc)
 case first =>
  have H:=HC3.out;clear HC3;replace H:=it_ H;rcases H with ⟨am,H⟩|⟨am,H⟩
  ·
   (first|rw [am]|(simp only [i64_w,i32_w];rw [am])|skip);have H':=A_ H;clear H;go_wp2;go_meet
   case rel=>exact ⟨_,(true),tx_,H',⟨by first|omega|exact Nat.le_refl _⟩,st.en⟩
  ·
   (first|rw [am]|(simp only [i64_w,i32_w];rw [am])|skip);replace H:=ig_ H;rcases H with ⟨an,H⟩|⟨an,H⟩
   ·
    have H':=A_ H;clear H;go_wp2;go_meet
    case rel=>exact ⟨_,(true),tx_,H',⟨by first|omega|exact Nat.le_refl _⟩,st.en⟩
   ·
    replace H:=it_ H;rcases H with ⟨aK,H⟩|⟨aK,H⟩
    ·
     have H':=A_ H;clear H;go_wp2;go_meet
     case rel=>exact ⟨_,(true),tx_,H',⟨by first|omega|exact Nat.le_refl _⟩,st.en⟩
    ·
     have H':=A_ H;clear H;go_wp2;go_meet
     case rel=>exact ⟨_,(decide (a0_2>99)),tx_,H',⟨by first|omega|exact Nat.le_refl _⟩,st.en⟩
 case rest =>
  clear HC3 st cl;obtain ⟨kq,aw,rfl,HA,HJ2,st⟩:=hcut;have cl:=cl_ st
  cases kq with
  |zero=>exact absurd HA.out (by simp [impl_DeedText.j0])
  |succ kj2 =>
   have H:=HA.out;clear HA;simp only [impl_DeedText.j0] at H;rcases bx_ aw with rfl|rfl
   ·
    replace H:=bt_ H;obtain rfl:=Option.some.inj H;exact impl_DeedText.z0
   ·
    replace H:=bf_ H;obtain ⟨ab,A_24,H⟩:=bnd_ H;replace H:=i0_ H;obtain ⟨c7,H⟩:=H;have aR:=eq_true c7;have aY:decide (1+ab.size≤9223372036854775807)=true:=decide_eq_true c7;(try have bD:(9223372036854775807<1+ab.size)=False:=eq_false (Nat.not_lt.2 c7));by_cases c8:a0_0=0
    ·
     rw [if_pos c8] at H;have aZ:(a0_0 == 0)=true:=beq_iff_eq.mpr c8;have a3:(a0_0 != 0)=false:=bne_eq_false_iff_eq.mpr c8;clear c8;replace H:=i0_ H;obtain ⟨c9,H⟩:=H;have bh:=eq_true c9;have bi:decide (3+((⟨#[32]⟩:ByteArray)++ab).size≤9223372036854775807)=true:=decide_eq_true c9;(try have bE:(9223372036854775807<3+((⟨#[32]⟩:ByteArray)++ab).size)=False:=eq_false (Nat.not_lt.2 c9));(try have bF:(9223372036854775807<3+(1+ab.size))=False:=eq_false (by have h:=c9;simp only [ByteArray.size_append] at h;simp only [ByteArray.size] at h ⊢;simp at h ⊢;omega));replace H:=i0_ H;obtain ⟨c10,H⟩:=H;have al:=eq_true c10;have aD:decide (((⟨#[112,117,116]⟩:ByteArray)++((⟨#[32]⟩:ByteArray)++ab)).size+1≤9223372036854775807)=true:=decide_eq_true c10;(try have bp:(9223372036854775807<((⟨#[112,117,116]⟩:ByteArray)++((⟨#[32]⟩:ByteArray)++ab)).size+1)=False:=eq_false (Nat.not_lt.2 c10));(try have bq:(9223372036854775807<3+(1+ab.size)+1)=False:=eq_false (by have h:=c10;simp only [ByteArray.size_append] at h;simp only [ByteArray.size] at h ⊢;simp at h ⊢;omega));obtain ⟨ap,A_35,H⟩:=bnd_ H;replace H:=i0_ H;obtain ⟨c11,H⟩:=H;have a4:=eq_true c11;have a5:decide ((((⟨#[112,117,116]⟩:ByteArray)++((⟨#[32]⟩:ByteArray)++ab))++(⟨#[32]⟩:ByteArray)).size+ap.size≤9223372036854775807)=true:=decide_eq_true c11;(try have br:(9223372036854775807<(((⟨#[112,117,116]⟩:ByteArray)++((⟨#[32]⟩:ByteArray)++ab))++(⟨#[32]⟩:ByteArray)).size+ap.size)=False:=eq_false (Nat.not_lt.2 c11));(try have bs:(9223372036854775807<3+(1+ab.size)+1+ap.size)=False:=eq_false (by have h:=c11;simp only [ByteArray.size_append] at h;simp only [ByteArray.size] at h ⊢;simp at h ⊢;omega));obtain rfl:=Option.some.inj H;exact impl_DeedText.z0
    ·
     rw [if_neg c8] at H;have aZ:(a0_0 == 0)=false:=beq_eq_false_iff_ne.mpr c8;have a3:(a0_0 != 0)=true:=bne_iff_ne.mpr c8;by_cases c12:a0_2=0
     ·
      rw [if_pos c12] at H;have ax:(a0_2 == 0)=true:=beq_iff_eq.mpr c12;have ay:(a0_2 != 0)=false:=bne_eq_false_iff_eq.mpr c12;clear c12;by_cases c13:a0_0=1
      ·
       rw [if_pos c13] at H;have aE:(a0_0 == 1)=true:=beq_iff_eq.mpr c13;have aF:(a0_0 != 1)=false:=bne_eq_false_iff_eq.mpr c13;clear c13;replace H:=i0_ H;obtain ⟨c14,H⟩:=H;have aO:=eq_true c14;have aP:decide (4+((⟨#[32]⟩:ByteArray)++ab).size≤9223372036854775807)=true:=decide_eq_true c14;(try have bu:(9223372036854775807<4+((⟨#[32]⟩:ByteArray)++ab).size)=False:=eq_false (Nat.not_lt.2 c14));(try have bv:(9223372036854775807<4+(1+ab.size))=False:=eq_false (by have h:=c14;simp only [ByteArray.size_append] at h;simp only [ByteArray.size] at h ⊢;simp at h ⊢;omega));obtain rfl:=Option.some.inj H;exact impl_DeedText.z0
      ·
       rw [if_neg c13] at H;have aE:(a0_0 == 1)=false:=beq_eq_false_iff_ne.mpr c13;have aF:(a0_0 != 1)=true:=bne_iff_ne.mpr c13;by_cases c15:a0_0=2
       ·
        rw [if_pos c15] at H;have aG:(a0_0 == 2)=true:=beq_iff_eq.mpr c15;have aH:(a0_0 != 2)=false:=bne_eq_false_iff_eq.mpr c15;clear c15;replace H:=i0_ H;obtain ⟨c16,H⟩:=H;have bw:=eq_true c16;have bx:decide (4+((⟨#[32]⟩:ByteArray)++ab).size≤9223372036854775807)=true:=decide_eq_true c16;(try have bz:(9223372036854775807<4+((⟨#[32]⟩:ByteArray)++ab).size)=False:=eq_false (Nat.not_lt.2 c16));(try have bB:(9223372036854775807<4+(1+ab.size))=False:=eq_false (by have h:=c16;simp only [ByteArray.size_append] at h;simp only [ByteArray.size] at h ⊢;simp at h ⊢;omega));obtain rfl:=Option.some.inj H;exact impl_DeedText.z0
       ·
        rw [if_neg c15] at H;have aG:(a0_0 == 2)=false:=beq_eq_false_iff_ne.mpr c15;have aH:(a0_0 != 2)=true:=bne_iff_ne.mpr c15;by_cases c17:a0_1=0
        ·
         rw [if_pos c17] at H;have a6:(a0_1 == 0)=true:=beq_iff_eq.mpr c17;have a7:(a0_1 != 0)=false:=bne_eq_false_iff_eq.mpr c17;clear c17;by_cases c18:a0_0=3
         ·
          rw [if_pos c18] at H;have a8:(a0_0 == 3)=true:=beq_iff_eq.mpr c18;have a9:(a0_0 != 3)=false:=bne_eq_false_iff_eq.mpr c18;clear c18;obtain rfl:=Option.some.inj H;exact impl_DeedText.z0
         ·
          rw [if_neg c18] at H;have a8:(a0_0 == 3)=false:=beq_eq_false_iff_ne.mpr c18;have a9:(a0_0 != 3)=true:=bne_iff_ne.mpr c18;by_cases c19:a0_0=4
          ·
           rw [if_pos c19] at H;have bb:(a0_0 == 4)=true:=beq_iff_eq.mpr c19;have bc:(a0_0 != 4)=false:=bne_eq_false_iff_eq.mpr c19;clear c19;obtain rfl:=Option.some.inj H;exact impl_DeedText.z0
          ·
           rw [if_neg c19] at H;have bb:(a0_0 == 4)=false:=beq_eq_false_iff_ne.mpr c19;have bc:(a0_0 != 4)=true:=bne_iff_ne.mpr c19;obtain rfl:=Option.some.inj H;exact impl_DeedText.z0
        ·
         rw [if_neg c17] at H;have a6:(a0_1 == 0)=false:=beq_eq_false_iff_ne.mpr c17;have a7:(a0_1 != 0)=true:=bne_iff_ne.mpr c17;obtain rfl:=Option.some.inj H;exact impl_DeedText.z0
     ·
      rw [if_neg c12] at H;have ax:(a0_2 == 0)=false:=beq_eq_false_iff_ne.mpr c12;have ay:(a0_2 != 0)=true:=bne_iff_ne.mpr c12;obtain rfl:=Option.some.inj H;exact impl_DeedText.z0
def strings_Split.f (a0:ByteArray) (a1:ByteArray):Option (List ByteArray):=if a0.size<4294967281∧1≤a1.size then some (Lib.splitB a1 0 (Lib.countB a0 a1) a0) else none
theorem strings_Split.calls (a0:ByteArray) (a1:ByteArray) (r:List ByteArray) (w:World) (hG:GWb w) (h:strings_Split.f a0 a1=some r) :
  Calls Tryz.prog 39 #[.string a0,.string a1] w fun e w'=>∃v0_:Value,e=.returned (v0_)∧Kd.R Kd.string 9 w' w.heap.size (fun _=>True) v0_ r∧Below w.heap.size w w':=by
 unfold strings_Split.f at h;split at h
 ·
  rename_i hb;obtain rfl:=Option.some.inj h;refine (Sh.Tryz.strings_Split_shaped a0 a1 w hG.shape hb.1 hb.2).mono fun e w' ⟨he,hw⟩=>?_;have hl:(Lib.splitB a1 0 (Lib.countB a0 a1) a0).length=Lib.countB a0 a1+1:=Lib.splitB_all a1 hb.2 0 _ a0 rfl;have hle:=Lib.countB_le a1 hb.2 a0.size a0 (Nat.le_refl _);have ho:=own_lit_of (enc:=Value.string) w w.heap.size 9 (Lib.splitB a1 0 (Lib.countB a0 a1) a0) (Nat.le_refl _) (by rw [hl];omega);refine ⟨_,he,?_,?_⟩
  ·
   rw [hw];rw [hl] at ho;exact Kd.R_of_own (by rw [hl];exact ho) (fun _ _=>trivial)
  ·
   rw [hw];exact (Below.refl _ _).alloc (Nat.le_refl _) _
 ·
  cases h
def slices_Index_string_string.l0:Nat→List ByteArray→ByteArray→Int→Int→Option (Int)
 |0,_,_,_,_=>none
 |k+1,x0,x1,x7,x8=>if x8<x7 then (if 0≤x8 then (if x8<(x0.length:Int) then (if x1.toList=(rdOf ByteArray.empty x0 x8).toList then (some x8) else (slices_Index_string_string.l0 k x0 x1 x7 (wrap64 (x8+1)))) else (none)) else (none)) else (some (-1))
def slices_Index_string_string.f (k:Nat) (l0:List ByteArray) (a1:ByteArray):Option (Int):=slices_Index_string_string.l0 k l0 a1 (l0.length:Int) 0
theorem slices_Index_string_string.calls (k:Nat) (A0:Option Addr) (c0:Nat) (l0:List ByteArray) (a1:ByteArray) (r:Int) (w:World) (hr0:Kd.C Kd.string w A0 l0.length l0) (hc0:l0.length≤c0) (h:slices_Index_string_string.f k l0 a1=some r) :
  Calls Tryz.prog 40 #[.slice A0 l0.length c0,.string a1] w fun e w'=>e=.returned (.int .i64 r)∧Drawn0 w w':=by
 have HR0:=A_ hr0;have HC0:=A_ hc0;clear hr0 hc0;have H:=h;clear h;unfold slices_Index_string_string.f at H;have H':=A_ H;clear H;go_enter Tryz.func40,Tryz.ntmps40;go_wp2
 go_loopg [8] k (fun kq v8 w'=>∃(ad:Int),v8=.int .i64 ad∧Aside0 (slices_Index_string_string.l0 kq l0 a1 (l0.length:Int) ad=some r)∧Aside0 (kq≤k)∧Drawn0 w w')
 case atStart=>exact ⟨(0),tx_,H',⟨Nat.le_refl _⟩,dz_⟩
 case round =>
  clear H';obtain ⟨ad,rfl,HA,HK1,⟨m1,rfl⟩⟩:=hrel
  cases gk with
  |zero=>exact absurd HA.out (by simp [slices_Index_string_string.l0])
  |succ k1 =>
   have H:=HA.out;clear HA;simp only [slices_Index_string_string.l0] at H;replace H:=it_ H;rcases H with ⟨bd,H⟩|⟨bd,H⟩
   ·
    replace H:=in_ H;obtain ⟨am,H⟩:=H;replace H:=in_ H;obtain ⟨an,H⟩:=H;by_cases c6:a1.toList=(rdOf ByteArray.empty l0 ad).toList
    ·
     rw [if_pos c6] at H;have aK:(a1.toList == (rdOf ByteArray.empty l0 ad).toList)=true:=beq_iff_eq.mpr c6;have bj:(a1.toList != (rdOf ByteArray.empty l0 ad).toList)=false:=bne_eq_false_iff_eq.mpr c6;clear c6;obtain rfl:=Option.some.inj H;obtain ⟨p340,q340,ad340,e340,aL⟩:=a2_ (Kd.at_string HR0.out ad);cases e340;go_wp2;go_ret;exact ⟨tx_,dz_⟩
    ·
     rw [if_neg c6] at H;have aK:(a1.toList == (rdOf ByteArray.empty l0 ad).toList)=false:=beq_eq_false_iff_ne.mpr c6;have bj:(a1.toList != (rdOf ByteArray.empty l0 ad).toList)=true:=bne_iff_ne.mpr c6;have H':=A_ H;clear H;obtain ⟨p340,q340,ad340,e340,aL⟩:=a2_ (Kd.at_string HR0.out ad);cases e340;go_wp2
     go_roundg k1
     case measure=>have:=HK1.out;omega
     case rel=>exact ⟨(wrap64 (ad+1)),tx_,H',⟨by have:=HK1.out;omega⟩,dz_⟩
   ·
    obtain rfl:=Option.some.inj H;go_wp2;go_ret;exact ⟨tx_,dz_⟩
def strconv_Atoi.f (a0:ByteArray):Option (Int×Option Int):=if a0.size≤140737488355328 then some (match Lib.atoiAll a0.data.toList with|.ok v=>(v,none)|Lib.NumEnd.syntax=>(0,some 0)|.range=>(Lib.atoiSat a0.data.toList,some 0)) else none
theorem strconv_Atoi.calls (a0:ByteArray) (r1:Int) (r2:Option Int) (w:World) (hG:GWb w) (h:strconv_Atoi.f a0=some (r1,r2)) :
  Calls Tryz.prog 41 #[.string a0] w fun e w'=>∃N_:Int,e=.returned (.tuple #[.int .i64 r1,errW (r2.map fun _=>N_)])∧Below w.heap.size w w':=by
 unfold strconv_Atoi.f at h;split at h
 ·
  rename_i hb;rcases ha:Lib.atoiAll a0.data.toList with v|_|_
  ·
   simp only [ha,Option.some.injEq,Prod.mk.injEq] at h;obtain ⟨rfl,rfl⟩:=h;exact (Sh.Tryz.strconv_Atoi_ok a0 (by omega) v ha w).mono fun e w' ⟨he,hw⟩=>⟨0,he,atoi_below hw⟩
  ·
   simp only [ha,Option.some.injEq,Prod.mk.injEq] at h;obtain ⟨rfl,rfl⟩:=h;obtain ⟨t,p,hv⟩:=hG.esyn;exact (Sh.Tryz.strconv_Atoi_syntax_var a0 (by omega) ha t p w hv).mono fun e w' ⟨N,he,_,_,hw⟩=>⟨(N:Int),he,hw⟩
  ·
   simp only [ha,Option.some.injEq,Prod.mk.injEq] at h;obtain ⟨rfl,rfl⟩:=h;obtain ⟨t,p,hv⟩:=hG.erng;exact (Sh.Tryz.strconv_Atoi_range_var a0 (by omega) ha t p w hv).mono fun e w' ⟨N,he,_,_,hw⟩=>⟨(N:Int),he,hw⟩
 ·
  cases h
mutual
def impl_ReadDeed.j0:Nat→ByteArray→List ByteArray→Int→Bool→Option (Int×Int×Int×Bool)
 |0,_,_,_,_=>none
 |k+1,x0,x4,x5,x20=>if x20=true then (some (0,0,0,false)) else ((some (([0,1,2,3,4]:List Int):List Int)).bind fun aU=>(if 0≤x5 then (if x5<(aU.length:Int) then (if (x4.length:Int)>1 then (if 1<(x4.length:Int) then ((strconv_Atoi.f (rdOf ByteArray.empty x4 1)).bind fun be=>(impl_ReadDeed.j1 k x0 x4 (rd aU x5) be.1 0)) else (none)) else (impl_ReadDeed.j1 k x0 x4 (rd aU x5) 0 0)) else (none)) else (none)))
def impl_ReadDeed.j1:Nat→ByteArray→List ByteArray→Int→Int→Int→Option (Int×Int×Int×Bool)
 |0,_,_,_,_,_=>none
 |k+1,x0,x4,aj,ak,az=>if (x4.length:Int)>2 then (if 2<(x4.length:Int) then ((strconv_Atoi.f (rdOf ByteArray.empty x4 2)).bind fun aQ=>((impl_DeedText.f k aj ak aQ.1).bind fun aq=>(if aq.toList=x0.toList then (some (aj,ak,aQ.1,true)) else (some (0,0,0,false))))) else (none)) else ((impl_DeedText.f k aj ak az).bind fun ar=>(if ar.toList=x0.toList then (some (aj,ak,az,true)) else (some (0,0,0,false))))
end
def impl_ReadDeed.f (k:Nat) (a0:ByteArray):Option (Int×Int×Int×Bool):=(strings_Split.f a0 (⟨#[32]⟩:ByteArray)).bind fun aa=>(if 0<(aa.length:Int) then ((slices_Index_string_string.f k (([(⟨#[112,117,116]⟩:ByteArray),(⟨#[115,116,101,112]⟩:ByteArray),(⟨#[100,114,97,119]⟩:ByteArray),(⟨#[97,103,97,105,110]⟩:ByteArray),(⟨#[98,97,99,107]⟩:ByteArray)]:List ByteArray)) (rdOf ByteArray.empty aa 0)).bind fun ag=>(if ag<0 then (impl_ReadDeed.j0 k a0 aa ag true) else (impl_ReadDeed.j0 k a0 aa ag (decide ((aa.length:Int)>3))))) else (none))
theorem impl_ReadDeed.z0 {P_:Prop} (h_:P_:=by go_wp2_with (first|((with_reducible refine gd_ 32 ?_);obtain ⟨p_,q_,ad_,e_,x0⟩:=a2_ (Kd.at_string (gC_ st Kd.string B8_0 aa) 1);have ix_:=ix1_ Tryz.underlying71 e_ p_ q_ (c:=d8_0);clear e_;(try simp only [Addr.add,Int.reduceToNat,Nat.reduceMul,Nat.reduceEqDiff,↓reduceIte] at ix_ x0);go_step)|((with_reducible refine gc_ 41 ?_);refine ca_ (some 34) Tryz.func41 _ (strconv_Atoi.calls _ _ _ _ (GWb.below HG.out st.b) A_34.out) ?_;rintro e w_ ⟨N_,rfl,hb⟩;refine ⟨_,rfl,?_⟩;replace st:=st.ev hb;clear cl hb;have cl:=cl_ st)|((with_reducible refine gs_ 37 ?_);refine so1_ st ?_;clear st cl;intro w_ st;have cl:=cl_ st));first|(go_meet;(case rel=>exact ⟨_,(bk),H',⟨by have:=HJ3.out;first|omega|exact Nat.le_refl _⟩,st.en⟩))|(go_meet;(case rel=>exact ⟨_,(0),H',⟨by have:=HJ3.out;first|omega|exact Nat.le_refl _⟩,st.en⟩))):P_:=h_
theorem impl_ReadDeed.z1 {P_:Prop} (h_:P_:=by go_wp2_with (first|((with_reducible refine gd_ 43 ?_);obtain ⟨p_,q_,ad_,e_,x0⟩:=a2_ (Kd.at_string (gC_ st Kd.string B8_0 aa) 2);have ix_:=ix1_ Tryz.underlying71 e_ p_ q_ (c:=d8_0);clear e_;(try simp only [Addr.add,Int.reduceToNat,Nat.reduceMul,Nat.reduceEqDiff,↓reduceIte] at ix_ x0);go_step)|((with_reducible refine gc_ 41 ?_);refine ca_ (some 45) Tryz.func41 _ (strconv_Atoi.calls _ _ _ _ (GWb.below HG.out st.b) A_45.out) ?_;rintro e w_ ⟨N_,rfl,hb⟩;refine ⟨_,rfl,?_⟩;replace st:=st.ev hb;clear cl hb;have cl:=cl_ st)|((with_reducible refine gs_ 48 ?_);refine so1_ st ?_;clear st cl;intro w_ st;have cl:=cl_ st)|((with_reducible refine gc_ 11 ?_);refine ca_ (some 50) Tryz.func11 _ (impl_DeedText.calls kj8 _ _ _ _ _ (GWb.below HG.out st.b) A_50.out) ?_;rintro e w_ ⟨rfl,hb⟩;refine ⟨_,rfl,?_⟩;replace st:=st.ev hb;clear cl hb;have cl:=cl_ st)|((with_reducible refine gs_ 2 ?_);refine so3_ st ?_;clear st cl;intro w_ st;have cl:=cl_ st));(refine bodyPost_ret (rct_ st Tryz.underlying41) rfl ?_;exact ⟨tw_,st.b⟩)):P_:=h_
theorem impl_ReadDeed.calls (k:Nat) (a0:ByteArray) (r1:Int) (r2:Int) (r3:Int) (r4:Bool) (w:World) (hG:GWb w) (h:impl_ReadDeed.f k a0=some (r1,r2,r3,r4)) :
  Calls Tryz.prog 22 #[.string a0] w fun e w'=>e=.returned (.tuple #[.agg #[.int .i64 r1,.int .i64 r2,.int .i64 r3],.bool r4])∧Below w.heap.size w w':=by
 have HG:=A_ hG;clear hG;have hu41:=Tryz.underlying41;have st:=ST.nil w;have s0:=st;have cl:=cl_ st;have H:=h;clear h;unfold impl_ReadDeed.f at H;go_enter Tryz.func22,Tryz.ntmps22;obtain ⟨aa,A_8,H⟩:=bnd_ H;replace H:=i0_ H;obtain ⟨c2,H⟩:=H;have bG:decide (0<(aa.length:Int))=true:=decide_eq_true c2;have bH:decide (0<aa.length)=true:=decide_eq_true (by omega);clear c2;obtain ⟨ag,A_13,H⟩:=bnd_ H;have HC4:=A_ H;clear H
 go_upto_region 3 with (first|((with_reducible refine gd_ 2 ?_);refine al_ st ?_;clear st cl;intro g2 w_ st;have cl:=cl_ st)|((with_reducible refine gc_ 39 ?_);refine ca_ (some 8) Tryz.func39 _ (strings_Split.calls _ _ _ _ (GWb.below HG.out st.b) A_8.out) ?_;rintro e w_ ⟨v0,rfl,h0,hb⟩;refine ⟨_,rfl,?_⟩;obtain ⟨B8_0,d8_0,rfl⟩:=Kd.R_slice h0;replace st:=st.p1 hb (st.mr h0);clear cl hb h0;have cl:=cl_ st)|((with_reducible refine gd_ 9 ?_);refine nw_ Kd.string 9 (([(⟨#[112,117,116]⟩:ByteArray),(⟨#[115,116,101,112]⟩:ByteArray),(⟨#[100,114,97,119]⟩:ByteArray),(⟨#[97,103,97,105,110]⟩:ByteArray),(⟨#[98,97,99,107]⟩:ByteArray)]:List ByteArray):List ByteArray) [.string (⟨#[112,117,116]⟩:ByteArray),.string (⟨#[115,116,101,112]⟩:ByteArray),.string (⟨#[100,114,97,119]⟩:ByteArray),.string (⟨#[97,103,97,105,110]⟩:ByteArray),.string (⟨#[98,97,99,107]⟩:ByteArray)] st ?_;clear st cl;intro B9_0 d9_0 w_ st;have cl:=cl_ st)|((with_reducible refine gd_ 11 ?_);obtain ⟨p_,q_,ad_,e_,x0⟩:=a2_ (Kd.at_string (gC_ st Kd.string B8_0 aa) 0);have ix_:=ix1_ Tryz.underlying71 e_ p_ q_ (c:=d8_0);clear e_;(try simp only [Addr.add,Int.reduceToNat,Nat.reduceMul,Nat.reduceEqDiff,↓reduceIte] at ix_ x0);go_step)|((with_reducible refine gc_ 40 ?_);refine ca_ (some 13) Tryz.func40 _ (slices_Index_string_string.calls k B9_0 d9_0 _ _ _ _ (gt_ st) (gt_ st) A_13.out) ?_;rintro e w_ ⟨rfl,hb⟩;refine ⟨_,rfl,?_⟩;replace hb:=hb.below;replace st:=st.ev hb;clear cl hb;have cl:=cl_ st))
 (try simp only [Act.put,sa_,sb_,sc_])
 go_cut [20] (fun bI wc=>∃(kq:Nat) (aA:Bool),bI=.bool aA∧Aside0 (impl_ReadDeed.j0 kq a0 aa ag aA=some (r1,r2,r3,r4))∧Aside0 (kq≤k)∧ST w [AR Kd.string 9 w.heap.size (.slice B8_0 aa.length d8_0) aa] [Bx g2 #[.int .i64 0,.int .i64 0,.int .i64 0] 41] wc)
 case first =>
  have H:=HC4.out;clear HC4;replace H:=it_ H;rcases H with ⟨an,H⟩|⟨an,H⟩
  ·
   (first|rw [an]|(simp only [i64_w,i32_w];rw [an])|skip);have H':=A_ H;clear H;go_wp2;go_meet
   case rel=>exact ⟨_,(true),tx_,H',⟨by first|omega|exact Nat.le_refl _⟩,st.en⟩
  ·
   (first|rw [an]|(simp only [i64_w,i32_w];rw [an])|skip);have H':=A_ H;clear H;go_wp2;go_meet
   case rel=>exact ⟨_,(decide ((aa.length:Int)>3)),tx_,H',⟨by first|omega|exact Nat.le_refl _⟩,st.en⟩
 case rest =>
  clear HC4 st cl;obtain ⟨kq,aA,rfl,HA,HJ3,st⟩:=hcut;have cl:=cl_ st
  cases kq with
  |zero=>exact absurd HA.out (by simp [impl_ReadDeed.j0])
  |succ kj3 =>
   have H:=HA.out;clear HA;simp only [impl_ReadDeed.j0] at H;rcases bx_ aA with rfl|rfl
   ·
    replace H:=bt_ H;obtain ⟨rfl,rfl,rfl,rfl⟩:=sj4_ H;go_wp2_with (first|((with_reducible refine gs_ 2 ?_);refine so3_ st ?_;clear st cl;intro w_ st;have cl:=cl_ st));refine bodyPost_ret (rct_ st Tryz.underlying41) rfl ?_;exact ⟨tw_,st.b⟩
   ·
    replace H:=bf_ H;replace H:=sm_ H;(try dsimp only at H);replace H:=in_ H;obtain ⟨aK,H⟩:=H;replace H:=in_ H;obtain ⟨aR,H⟩:=H;have HC9:=A_ H;clear H
    go_upto_if 29 with (first|((with_reducible refine gd_ 22 ?_);refine nw_ (Kd.int .i64) 3 (([0,1,2,3,4]:List Int):List Int) [.int .i64 0,.int .i64 1,.int .i64 2,.int .i64 3,.int .i64 4] st ?_;clear st cl;intro B22_0 d22_0 w_ st;have cl:=cl_ st)|((with_reducible refine gd_ 24 ?_);obtain ⟨p_,q_,ad_,e_,x0⟩:=a2_ (Kd.at_int (gC_ st (Kd.int .i64) B22_0 (([0,1,2,3,4]:List Int))) ag);have ix_:=ix1_ (n:=5) Tryz.underlying28 e_ p_ q_ (c:=d22_0);clear e_;go_step)|((with_reducible refine gd_ 6 ?_);refine al_ st ?_;clear st cl;intro g6 w_ st;have cl:=cl_ st)|((with_reducible refine gs_ 6 ?_);refine so3_ st ?_;clear st cl;intro w_ st;have cl:=cl_ st))
    (try simp only [Act.put,sa_,sb_,sc_])
    go_cut [] (fun wc=>∃(kq:Nat) (ai:Int),Aside0 (impl_ReadDeed.j1 kq a0 aa (rd (([0,1,2,3,4]:List Int)) ag) ai 0=some (r1,r2,r3,r4))∧Aside0 (kq≤kj3)∧ST w [AR Kd.string 9 w.heap.size (.slice B8_0 aa.length d8_0) aa] [Bx g2 #[.int .i64 0,.int .i64 0,.int .i64 0] 41,Bx g6 #[.int .i64 (rd (([0,1,2,3,4]:List Int)) ag),.int .i64 ai,.int .i64 0] 41] wc)
    case first =>
     have H:=HC9.out;clear HC9;by_cases c10:(aa.length:Int)>1
     ·
      rw [if_pos c10] at H;have al:decide (1<(aa.length:Int))=true:=decide_eq_true c10;have aD:decide (1<aa.length)=true:=decide_eq_true (by omega);clear c10;(first|rw [al]|(simp only [i64_w,i32_w];rw [al])|skip);replace H:=i0_ H;obtain ⟨c11,H⟩:=H;have a4:decide (1<(aa.length:Int))=true:=decide_eq_true c11;have a5:decide (1<aa.length)=true:=decide_eq_true (by omega);clear c11;obtain ⟨⟨bk,bJ⟩,A_34,H⟩:=bnd_ H;(try dsimp only at H);have H':=A_ H;clear H;exact impl_ReadDeed.z0
     ·
      rw [if_neg c10] at H;have al:decide (1<(aa.length:Int))=false:=decide_eq_false c10;have aD:decide (1<aa.length)=false:=decide_eq_false (by omega);clear c10;(first|rw [al]|(simp only [i64_w,i32_w];rw [al])|skip);have H':=A_ H;clear H;exact impl_ReadDeed.z0
    case rest =>
     clear HC9 st cl;obtain ⟨kq,ai,HA,HJ8,st⟩:=hcut;have cl:=cl_ st
     cases kq with
     |zero=>exact absurd HA.out (by simp [impl_ReadDeed.j1])
     |succ kj8 =>
      have H:=HA.out;clear HA;simp only [impl_ReadDeed.j1] at H;by_cases c12:(aa.length:Int)>2
      ·
       rw [if_pos c12] at H;have ax:decide (2<(aa.length:Int))=true:=decide_eq_true c12;have ay:decide (2<aa.length)=true:=decide_eq_true (by omega);clear c12;replace H:=i0_ H;obtain ⟨c13,H⟩:=H;have aE:decide (2<(aa.length:Int))=true:=decide_eq_true c13;have aF:decide (2<aa.length)=true:=decide_eq_true (by omega);clear c13;obtain ⟨⟨bK,bL⟩,A_45,H⟩:=bnd_ H;(try dsimp only at H);obtain ⟨aq,A_50,H⟩:=bnd_ H;by_cases c14:aq.toList=a0.toList
       ·
        rw [if_pos c14] at H;have aO:(aq.toList == a0.toList)=true:=beq_iff_eq.mpr c14;have aP:(aq.toList != a0.toList)=false:=bne_eq_false_iff_eq.mpr c14;clear c14;obtain ⟨rfl,rfl,rfl,rfl⟩:=sj4_ H;exact impl_ReadDeed.z1
       ·
        rw [if_neg c14] at H;have aO:(aq.toList == a0.toList)=false:=beq_eq_false_iff_ne.mpr c14;have aP:(aq.toList != a0.toList)=true:=bne_iff_ne.mpr c14;obtain ⟨rfl,rfl,rfl,rfl⟩:=sj4_ H;exact impl_ReadDeed.z1
      ·
       rw [if_neg c12] at H;have ax:decide (2<(aa.length:Int))=false:=decide_eq_false c12;have ay:decide (2<aa.length)=false:=decide_eq_false (by omega);clear c12;obtain ⟨ar,A_50,H⟩:=bnd_ H;by_cases c15:ar.toList=a0.toList
       ·
        rw [if_pos c15] at H;have aG:(ar.toList == a0.toList)=true:=beq_iff_eq.mpr c15;have aH:(ar.toList != a0.toList)=false:=bne_eq_false_iff_eq.mpr c15;clear c15;obtain ⟨rfl,rfl,rfl,rfl⟩:=sj4_ H;exact impl_ReadDeed.z1
       ·
        rw [if_neg c15] at H;have aG:(ar.toList == a0.toList)=false:=beq_eq_false_iff_ne.mpr c15;have aH:(ar.toList != a0.toList)=true:=bne_iff_ne.mpr c15;obtain ⟨rfl,rfl,rfl,rfl⟩:=sj4_ H;exact impl_ReadDeed.z1
def impl_ReadJournal.l0:Nat→ByteArray→List (S41)→Int→Option ((List (S41))×Int)
 |0,_,_,_=>none
 |k+1,x0,x4,x5=>if 0≤x5 then (if x5≤(x0.size:Int) then ((strings_Cut.f (x0.extract (x5:Int).toNat x0.size) (⟨#[10]⟩:ByteArray)).bind fun aI=>((impl_ReadDeed.f k aI.1).bind fun aB=>(if aI.2.2=true then (if aB.2.2.2=true then (if x4.length<5864062014805 then (impl_ReadJournal.l0 k x0 (x4++[(⟨aB.1,aB.2.1,aB.2.2.1⟩:S41)]) (wrap64 (x5+(wrap64 ((aI.1.size:Int)+1))))) else (none)) else (some (x4,x5))) else (some (x4,x5))))) else (none)) else (none)
def impl_ReadJournal.f (k:Nat) (a0:ByteArray):Option ((List (S41))×Int):=impl_ReadJournal.l0 k a0 (([]:List (S41))) 0
theorem impl_ReadJournal.z0 {P_:Prop} (h_:P_:=by go_wp2_with (first|((with_reducible refine gc_ 21 ?_);refine ca_ (some 16) Tryz.func21 _ (strings_Cut.calls _ _ _ _ _ _ (GWb.below HG.out st.b) A_16.out) ?_;rintro e w_ ⟨rfl,hb⟩;refine ⟨_,rfl,?_⟩;replace hb:=hb.below;replace st:=st.ev hb;clear cl hb;have cl:=cl_ st)|((with_reducible refine gc_ 22 ?_);refine ca_ (some 22) Tryz.func22 _ (impl_ReadDeed.calls k1 _ _ _ _ _ _ (GWb.below HG.out st.b) A_22.out) ?_;rintro e w_ ⟨rfl,hb⟩;refine ⟨_,rfl,?_⟩;replace st:=st.ev hb;clear cl hb;have cl:=cl_ st)|((with_reducible refine gd_ 9 ?_);refine al_ st ?_;clear st cl;intro g9 w_ st;have cl:=cl_ st)|((with_reducible refine gs_ 9 ?_);refine so3_ st ?_;clear st cl;intro w_ st;have cl:=cl_ st)|((with_reducible refine gd_ 36 ?_);refine ap_ aJ ao (⟨aV,aW,aX⟩:S41) [.int .i64 aV,.int .i64 aW,.int .i64 aX] ((.agg #[(.int .i64 0),(.int .i64 0),(.int .i64 0)])) 24 st Tryz.underlying24 ?_ (hl:=by have:=bl.out;omega) (hp:=k41_mkM _ _ _ _);clear st cl;intro P36 q36 w_ st;have cl:=cl_ st));first|(go_roundg k1;(case measure=>have:=HK1.out;omega);(case rel=>exact ⟨((ao++[(⟨aV,aW,aX⟩:S41)])),(wrap64 (ae+(wrap64 ((bm.size:Int)+1)))),P36,q36,tx_,tx_,H',⟨by have:=HK1.out;omega⟩,st.en⟩))|(go_ret2;exact ⟨.slice aJ ao.length aM,tw_,gtl_ st,st.b⟩)):P_:=h_
theorem impl_ReadJournal.calls (k:Nat) (a0:ByteArray) (r1:List (S41)) (r2:Int) (w:World) (hG:GWb w) (h:impl_ReadJournal.f k a0=some (r1,r2)) :
  Calls Tryz.prog 5 #[.string a0] w fun e w'=>∃v0_:Value,e=.returned (.tuple #[v0_,.int .i64 r2])∧Kd.R k41 41 w' w.heap.size (fun _=>True) v0_ r1∧Below w.heap.size w w':=by
 have HG:=A_ hG;clear hG;have hu41:=Tryz.underlying41;have st:=ST.nil w;have s0:=st;have cl:=cl_ st;have H:=h;clear h;unfold impl_ReadJournal.f at H;go_enter Tryz.func5,Tryz.ntmps5;have H':=A_ H;clear H;go_wp2_with (first|((with_reducible refine gd_ 11 ?_);refine nwl_ k41 41 (([]:List (S41)):List (S41)) [] st ?_ (hrep:=by repeat (first|exact Reps.none _ _|refine Reps.c3 (k41_mkM _ _ _ _) ?_));clear st cl;intro B11_0 d11_0 w_ st;have cl:=cl_ st))
 go_loopg [4,5] k (fun kq v4 v5 w'=>∃(ao:List (S41)) (ae:Int) (aJ:Option Addr) (aM:Nat),v4=.slice aJ ao.length aM∧v5=.int .i64 ae∧Aside0 (impl_ReadJournal.l0 kq a0 ao ae=some (r1,r2))∧Aside0 (kq≤k)∧ST w [] [AR k41 41 w.heap.size (.slice aJ ao.length aM) ao] w')
 case atStart=>exact ⟨(([]:List (S41))),(0),B11_0,d11_0,tx_,tx_,H',⟨Nat.le_refl _⟩,st.en⟩
 case round =>
  clear H' st cl;obtain ⟨ao,ae,aJ,aM,rfl,rfl,HA,HK1,st⟩:=hrel;have cl:=cl_ st
  cases gk with
  |zero=>exact absurd HA.out (by simp [impl_ReadJournal.l0])
  |succ k1 =>
   have H:=HA.out;clear HA;simp only [impl_ReadJournal.l0] at H;replace H:=i0_ H;obtain ⟨c3,H⟩:=H;have bd:=eq_true c3;have bM:decide (0≤ae)=true:=decide_eq_true c3;clear c3;replace H:=i0_ H;obtain ⟨c4,H⟩:=H;have am:=eq_true c4;have bN:decide (ae≤(a0.size:Int))=true:=decide_eq_true c4;clear c4;obtain ⟨⟨bm,bO,bn⟩,A_16,H⟩:=bnd_ H;(try dsimp only at H);obtain ⟨⟨aV,aW,aX,bo⟩,A_22,H⟩:=bnd_ H;(try dsimp only at H);rcases bx_ bn with rfl|rfl
   ·
    replace H:=bt_ H;rcases bx_ bo with rfl|rfl
    ·
     replace H:=bt_ H;replace H:=il_ H;obtain ⟨bl,H⟩:=H;have H':=A_ H;clear H;exact impl_ReadJournal.z0
    ·
     replace H:=bf_ H;obtain ⟨rfl,rfl⟩:=sj2_ H;exact impl_ReadJournal.z0
   ·
    replace H:=bf_ H;obtain ⟨rfl,rfl⟩:=sj2_ H;exact impl_ReadJournal.z0
def spec_l1Cut.l0:Nat→ByteArray→Int→List ByteArray→Int→Int→Option (List ByteArray)
 |0,_,_,_,_,_=>none
 |k+1,x0,x1,x5,x6,x7=>if x7<(x0.size:Int) then (if 0≤x7 then (if (bt x0 x7)=x1 then (if 0≤x6 then (if x6≤x7 then (if x7≤(x0.size:Int) then (if x5.length<8796093022208 then (spec_l1Cut.l0 k x0 x1 (x5++[x0.extract (x6:Int).toNat (x7:Int).toNat]) (wrap64 (x7+1)) (wrap64 (x7+1))) else (none)) else (none)) else (none)) else (none)) else (spec_l1Cut.l0 k x0 x1 x5 x6 (wrap64 (x7+1)))) else (none)) else (if 0≤x6 then (if x6≤(x0.size:Int) then (if x5.length<8796093022208 then (some (x5++[x0.extract (x6:Int).toNat x0.size])) else (none)) else (none)) else (none))
def spec_l1Cut.f (k:Nat) (a0:ByteArray) (a1:Int):Option (List ByteArray):=spec_l1Cut.l0 k a0 a1 (([]:List ByteArray)) 0 0
theorem spec_l1Cut.z0 {P_:Prop} (h_:P_:=by go_wp2_with (first|((with_reducible refine gd_ 26 ?_);refine ap_ aC ae (a0.extract (af:Int).toNat (ac:Int).toNat) [.string (a0.extract (af:Int).toNat (ac:Int).toNat)] ((.string ⟨#[]⟩)) 16 st Tryz.underlying71 ?_ (hl:=by have:=bf.out;omega);clear st cl;intro P26 q26 w_ st;have cl:=cl_ st)|((with_reducible refine gd_ 34 ?_);refine ap_ aC ae (a0.extract (af:Int).toNat a0.size) [.string (a0.extract (af:Int).toNat a0.size)] ((.string ⟨#[]⟩)) 16 st Tryz.underlying71 ?_ (hl:=by have:=bg.out;omega);clear st cl;intro P34 q34 w_ st;have cl:=cl_ st));first|(go_roundg k1;(case measure=>have:=HK1.out;omega);(case rel=>exact ⟨((ae++[a0.extract (af:Int).toNat (ac:Int).toNat])),(wrap64 (ac+1)),(wrap64 (ac+1)),P26,q26,tx_,tx_,tx_,H',⟨by have:=HK1.out;omega⟩,st.en⟩))|(go_roundg k1;(case measure=>have:=HK1.out;omega);(case rel=>exact ⟨(ae),(af),(wrap64 (ac+1)),aC,aN,tx_,tx_,tx_,H',⟨by have:=HK1.out;omega⟩,st.en⟩))|(go_ret;exact ⟨.slice P34 (ae++[a0.extract (af:Int).toNat a0.size]).length q34,tw_,gtl_ st,st.b⟩)):P_:=h_
theorem spec_l1Cut.calls (k:Nat) (a0:ByteArray) (a1:Int) (r:List ByteArray) (w:World) (h:spec_l1Cut.f k a0 a1=some r) :
  Calls Tryz.prog 42 #[.string a0,.int .u8 a1] w fun e w'=>∃v0_:Value,e=.returned (v0_)∧Kd.R Kd.string 9 w' w.heap.size (fun _=>True) v0_ r∧Below w.heap.size w w':=by
 have st:=ST.nil w;have s0:=st;have cl:=cl_ st;have H:=h;clear h;unfold spec_l1Cut.f at H;go_enter Tryz.func42,Tryz.ntmps42;have H':=A_ H;clear H;go_wp2_with (first|((with_reducible refine gd_ 8 ?_);refine nwl_ Kd.string 9 (([]:List ByteArray):List ByteArray) [] st ?_;clear st cl;intro B8_0 d8_0 w_ st;have cl:=cl_ st))
 go_loopg [5,6,7] k (fun kq v5 v6 v7 w'=>∃(ae:List ByteArray) (af:Int) (ac:Int) (aC:Option Addr) (aN:Nat),v5=.slice aC ae.length aN∧v6=.int .i64 af∧v7=.int .i64 ac∧Aside0 (spec_l1Cut.l0 kq a0 a1 ae af ac=some r)∧Aside0 (kq≤k)∧ST w [] [AR Kd.string 9 w.heap.size (.slice aC ae.length aN) ae] w')
 case atStart=>exact ⟨(([]:List ByteArray)),(0),(0),B8_0,d8_0,tx_,tx_,tx_,H',⟨Nat.le_refl _⟩,st.en⟩
 case round =>
  clear H' st cl;obtain ⟨ae,af,ac,aC,aN,rfl,rfl,rfl,HA,HK1,st⟩:=hrel;have cl:=cl_ st
  cases gk with
  |zero=>exact absurd HA.out (by simp [spec_l1Cut.l0])
  |succ k1 =>
   have H:=HA.out;clear HA;simp only [spec_l1Cut.l0] at H;replace H:=it_ H;rcases H with ⟨am,H⟩|⟨am,H⟩
   ·
    replace H:=in_ H;obtain ⟨an,H⟩:=H;have y6a:(0≤(ac:Int))=True:=eq_true (by first|exact od_|omega);have y6b:((ac:Int)<(a0.size:Int))=True:=eq_true (by first|exact od_|omega);have y6x:=bt_at a0 ac;by_cases c7:(bt a0 ac)=a1
    ·
     rw [if_pos c7] at H;have aR:((bt a0 ac) == a1)=true:=beq_iff_eq.mpr c7;have aY:((bt a0 ac) != a1)=false:=bne_eq_false_iff_eq.mpr c7;clear c7;replace H:=i0_ H;obtain ⟨c8,H⟩:=H;have aZ:=eq_true c8;have a3:decide (0≤af)=true:=decide_eq_true c8;clear c8;replace H:=i0_ H;obtain ⟨c9,H⟩:=H;have bh:=eq_true c9;have bi:decide (af≤ac)=true:=decide_eq_true c9;clear c9;replace H:=i0_ H;obtain ⟨c10,H⟩:=H;have al:=eq_true c10;have aD:decide (ac≤(a0.size:Int))=true:=decide_eq_true c10;clear c10;replace H:=il_ H;obtain ⟨bf,H⟩:=H;have H':=A_ H;clear H;exact spec_l1Cut.z0
    ·
     rw [if_neg c7] at H;have aR:((bt a0 ac) == a1)=false:=beq_eq_false_iff_ne.mpr c7;have aY:((bt a0 ac) != a1)=true:=bne_iff_ne.mpr c7;have H':=A_ H;clear H;exact spec_l1Cut.z0
   ·
    replace H:=i0_ H;obtain ⟨c12,H⟩:=H;have ax:=eq_true c12;have ay:decide (0≤af)=true:=decide_eq_true c12;clear c12;replace H:=i0_ H;obtain ⟨c13,H⟩:=H;have aE:=eq_true c13;have aF:decide (af≤(a0.size:Int))=true:=decide_eq_true c13;clear c13;replace H:=il_ H;obtain ⟨bg,H⟩:=H;obtain rfl:=Option.some.inj H;exact spec_l1Cut.z0
end Go.Proofs.YtabknkhhlbanoaaGreatDoor.MFnReadJournal
