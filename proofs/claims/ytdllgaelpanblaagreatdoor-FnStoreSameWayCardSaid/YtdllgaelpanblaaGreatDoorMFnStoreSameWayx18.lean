/- Walks for FnStoreSameWay: a call returns what the plain function tells. Conditions: in each statement. -/
import Derived.Test.YtdllgaelpanblaaGreatDoorMFnStoreSameWayx17
namespace Go.Proofs.YtdllgaelpanblaaGreatDoor.MFnStoreSameWay
open Go.RowKit Go.Proofs.YtdllgaelpanblaaGreatDoorW.PrintWords Go.Proofs.YtdllgaelpanblaaGreatDoorW.PrintLast Go.Proofs.YtdllgaelpanblaaGreatDoorW.PrintMore
set_option linter.unusedVariables false
set_option linter.unusedSimpArgs false
set_option maxHeartbeats 8000000
set_option maxRecDepth 100000
def slices_Index_string_string.l0:Nat→List ByteArray→ByteArray→Int→Int→Option (Int)
 |0,_,_,_,_=>none
 |k+1,x0,x1,x7,x8=>if x8<x7 then (if 0≤x8 then (if x8<(x0.length:Int) then (if x1.toList=(rdOf ByteArray.empty x0 x8).toList then (some x8) else (slices_Index_string_string.l0 k x0 x1 x7 (wrap64 (x8+1)))) else (none)) else (none)) else (some (-1))
def slices_Index_string_string.f (k:Nat) (l0:List ByteArray) (a1:ByteArray):Option (Int):=slices_Index_string_string.l0 k l0 a1 (l0.length:Int) 0
theorem slices_Index_string_string.calls (k:Nat) (A0:Option Addr) (c0:Nat) (l0:List ByteArray) (a1:ByteArray) (r:Int) (w:World) (hr0:Kd.C Kd.string w A0 l0.length l0) (hc0:l0.length≤c0) (h:slices_Index_string_string.f k l0 a1=some r) :
  Calls Tryz.prog 78 #[.slice A0 l0.length c0,.string a1] w fun e w'=>e=.returned (.int .i64 r)∧Drawn0 w w':=by
 have HR0:=A_ hr0;have HC0:=A_ hc0;clear hr0 hc0;have H:=h;clear h;unfold slices_Index_string_string.f at H;have H':=A_ H;clear H;go_enter Tryz.func78,Tryz.ntmps78;go_wp2
 go_loopg [8] k (fun kq v8 w'=>∃(aa:Int),v8=.int .i64 aa∧Aside0 (slices_Index_string_string.l0 kq l0 a1 (l0.length:Int) aa=some r)∧Aside0 (kq≤k)∧Drawn0 w w')
 case atStart=>exact ⟨(0),tx_,H',⟨Nat.le_refl _⟩,dz_⟩
 case round =>
  clear H';obtain ⟨aa,rfl,HA,HK1,⟨m1,rfl⟩⟩:=hrel
  cases gk with
  |zero=>exact absurd HA.out (by simp [slices_Index_string_string.l0])
  |succ k1 =>
   have H:=HA.out;clear HA;simp only [slices_Index_string_string.l0] at H;replace H:=it_ H;rcases H with ⟨aI,H⟩|⟨aI,H⟩
   ·
    replace H:=in_ H;obtain ⟨aY,H⟩:=H;replace H:=in_ H;obtain ⟨aq,H⟩:=H;by_cases c6:a1.toList=(rdOf ByteArray.empty l0 aa).toList
    ·
     rw [if_pos c6] at H;have aZ:(a1.toList == (rdOf ByteArray.empty l0 aa).toList)=true:=beq_iff_eq.mpr c6;have bd:(a1.toList != (rdOf ByteArray.empty l0 aa).toList)=false:=bne_eq_false_iff_eq.mpr c6;clear c6;obtain rfl:=Option.some.inj H;obtain ⟨p877,q877,ad877,e877,aJ⟩:=a2_ (Kd.at_string HR0.out aa);cases e877;go_wp2;go_ret;exact ⟨tx_,dz_⟩
    ·
     rw [if_neg c6] at H;have aZ:(a1.toList == (rdOf ByteArray.empty l0 aa).toList)=false:=beq_eq_false_iff_ne.mpr c6;have bd:(a1.toList != (rdOf ByteArray.empty l0 aa).toList)=true:=bne_iff_ne.mpr c6;have H':=A_ H;clear H;obtain ⟨p877,q877,ad877,e877,aJ⟩:=a2_ (Kd.at_string HR0.out aa);cases e877;go_wp2
     go_roundg k1
     case measure=>have:=HK1.out;omega
     case rel=>exact ⟨(wrap64 (aa+1)),tx_,H',⟨by have:=HK1.out;omega⟩,dz_⟩
   ·
    obtain rfl:=Option.some.inj H;go_wp2;go_ret;exact ⟨tx_,dz_⟩
mutual
def impl_ReadDeed.j0:Nat→ByteArray→List ByteArray→Int→Bool→Option (Int×Int×Int×Bool)
 |0,_,_,_,_=>none
 |k+1,x0,x4,x5,x20=>if x20=true then (some (0,0,0,false)) else ((some (([0,1,2,3,4]:List Int):List Int)).bind fun aM=>(if 0≤x5 then (if x5<(aM.length:Int) then (if (x4.length:Int)>1 then (if 1<(x4.length:Int) then ((strconv_Atoi.f (rdOf ByteArray.empty x4 1)).bind fun a4=>(impl_ReadDeed.j1 k x0 x4 (rd aM x5) a4.1 0)) else (none)) else (impl_ReadDeed.j1 k x0 x4 (rd aM x5) 0 0)) else (none)) else (none)))
def impl_ReadDeed.j1:Nat→ByteArray→List ByteArray→Int→Int→Int→Option (Int×Int×Int×Bool)
 |0,_,_,_,_,_=>none
 |k+1,x0,x4,ah,ai,ax=>if (x4.length:Int)>2 then (if 2<(x4.length:Int) then ((strconv_Atoi.f (rdOf ByteArray.empty x4 2)).bind fun aL=>((impl_DeedText.f k ah ai aL.1).bind fun ar=>(if ar.toList=x0.toList then (some (ah,ai,aL.1,true)) else (some (0,0,0,false))))) else (none)) else ((impl_DeedText.f k ah ai ax).bind fun au=>(if au.toList=x0.toList then (some (ah,ai,ax,true)) else (some (0,0,0,false))))
end
def impl_ReadDeed.f (k:Nat) (a0:ByteArray):Option (Int×Int×Int×Bool):=(strings_Split.f a0 (⟨#[32]⟩:ByteArray)).bind fun ab=>(if 0<(ab.length:Int) then ((slices_Index_string_string.f k (([(⟨#[112,117,116]⟩:ByteArray),(⟨#[115,116,101,112]⟩:ByteArray),(⟨#[100,114,97,119]⟩:ByteArray),(⟨#[97,103,97,105,110]⟩:ByteArray),(⟨#[98,97,99,107]⟩:ByteArray)]:List ByteArray)) (rdOf ByteArray.empty ab 0)).bind fun af=>(if af<0 then (impl_ReadDeed.j0 k a0 ab af true) else (impl_ReadDeed.j0 k a0 ab af (decide ((ab.length:Int)>3))))) else (none))
theorem impl_ReadDeed.z0 {P_:Prop} (h_:P_:=by go_wp2_with (first|((with_reducible refine gd_ 32 ?_);obtain ⟨p_,q_,ad_,e_,x0⟩:=a2_ (Kd.at_string (gC_ st Kd.string B8_0 ab) 1);have ix_:=ix1_ Tryz.underlying95 e_ p_ q_ (c:=d8_0);clear e_;(try simp only [Addr.add,Int.reduceToNat,Nat.reduceMul,Nat.reduceEqDiff,↓reduceIte] at ix_ x0);go_step)|((with_reducible refine gc_ 74 ?_);refine ca_ (some 34) Tryz.func74 _ (strconv_Atoi.calls _ _ _ _ (GWb.below HG.out st.b) A_34.out) ?_;rintro e w_ ⟨N_,rfl,hb⟩;refine ⟨_,rfl,?_⟩;replace st:=st.ev hb;clear cl hb;have cl:=cl_ st)|((with_reducible refine gs_ 37 ?_);refine so1_ st ?_;clear st cl;intro w_ st;have cl:=cl_ st));first|(go_meet;(case rel=>exact ⟨_,(be),H',⟨by have:=HJ3.out;first|omega|exact Nat.le_refl _⟩,st.en⟩))|(go_meet;(case rel=>exact ⟨_,(0),H',⟨by have:=HJ3.out;first|omega|exact Nat.le_refl _⟩,st.en⟩))):P_:=h_
theorem impl_ReadDeed.z1 {P_:Prop} (h_:P_:=by go_wp2_with (first|((with_reducible refine gd_ 43 ?_);obtain ⟨p_,q_,ad_,e_,x0⟩:=a2_ (Kd.at_string (gC_ st Kd.string B8_0 ab) 2);have ix_:=ix1_ Tryz.underlying95 e_ p_ q_ (c:=d8_0);clear e_;(try simp only [Addr.add,Int.reduceToNat,Nat.reduceMul,Nat.reduceEqDiff,↓reduceIte] at ix_ x0);go_step)|((with_reducible refine gc_ 74 ?_);refine ca_ (some 45) Tryz.func74 _ (strconv_Atoi.calls _ _ _ _ (GWb.below HG.out st.b) A_45.out) ?_;rintro e w_ ⟨N_,rfl,hb⟩;refine ⟨_,rfl,?_⟩;replace st:=st.ev hb;clear cl hb;have cl:=cl_ st)|((with_reducible refine gs_ 48 ?_);refine so1_ st ?_;clear st cl;intro w_ st;have cl:=cl_ st)|((with_reducible refine gc_ 27 ?_);refine ca_ (some 50) Tryz.func27 _ (impl_DeedText.calls kj8 _ _ _ _ _ (GWb.below HG.out st.b) A_50.out) ?_;rintro e w_ ⟨rfl,hb⟩;refine ⟨_,rfl,?_⟩;replace st:=st.ev hb;clear cl hb;have cl:=cl_ st)|((with_reducible refine gs_ 2 ?_);refine so3_ st ?_;clear st cl;intro w_ st;have cl:=cl_ st));(refine bodyPost_ret (rct_ st Tryz.underlying42) rfl ?_;exact ⟨tw_,st.b⟩)):P_:=h_
theorem impl_ReadDeed.calls (k:Nat) (a0:ByteArray) (r1:Int) (r2:Int) (r3:Int) (r4:Bool) (w:World) (hG:GWb w) (h:impl_ReadDeed.f k a0=some (r1,r2,r3,r4)) :
  Calls Tryz.prog 55 #[.string a0] w fun e w'=>e=.returned (.tuple #[.agg #[.int .i64 r1,.int .i64 r2,.int .i64 r3],.bool r4])∧Below w.heap.size w w':=by
 have HG:=A_ hG;clear hG;have hu42:=Tryz.underlying42;have st:=ST.nil w;have s0:=st;have cl:=cl_ st;have H:=h;clear h;unfold impl_ReadDeed.f at H;go_enter Tryz.func55,Tryz.ntmps55;obtain ⟨ab,A_8,H⟩:=bnd_ H;replace H:=i0_ H;obtain ⟨c2,H⟩:=H;have bn:decide (0<(ab.length:Int))=true:=decide_eq_true c2;have bo:decide (0<ab.length)=true:=decide_eq_true (by omega);clear c2;obtain ⟨af,A_13,H⟩:=bnd_ H;have HC4:=A_ H;clear H
 go_upto_region 3 with (first|((with_reducible refine gd_ 2 ?_);refine al_ st ?_;clear st cl;intro g2 w_ st;have cl:=cl_ st)|((with_reducible refine gc_ 73 ?_);refine ca_ (some 8) Tryz.func73 _ (strings_Split.calls _ _ _ _ (GWb.below HG.out st.b) A_8.out) ?_;rintro e w_ ⟨v0,rfl,h0,hb⟩;refine ⟨_,rfl,?_⟩;obtain ⟨B8_0,d8_0,rfl⟩:=Kd.R_slice h0;replace st:=st.p1 hb (st.mr h0);clear cl hb h0;have cl:=cl_ st)|((with_reducible refine gd_ 9 ?_);refine nw_ Kd.string 9 (([(⟨#[112,117,116]⟩:ByteArray),(⟨#[115,116,101,112]⟩:ByteArray),(⟨#[100,114,97,119]⟩:ByteArray),(⟨#[97,103,97,105,110]⟩:ByteArray),(⟨#[98,97,99,107]⟩:ByteArray)]:List ByteArray):List ByteArray) [.string (⟨#[112,117,116]⟩:ByteArray),.string (⟨#[115,116,101,112]⟩:ByteArray),.string (⟨#[100,114,97,119]⟩:ByteArray),.string (⟨#[97,103,97,105,110]⟩:ByteArray),.string (⟨#[98,97,99,107]⟩:ByteArray)] st ?_;clear st cl;intro B9_0 d9_0 w_ st;have cl:=cl_ st)|((with_reducible refine gd_ 11 ?_);obtain ⟨p_,q_,ad_,e_,x0⟩:=a2_ (Kd.at_string (gC_ st Kd.string B8_0 ab) 0);have ix_:=ix1_ Tryz.underlying95 e_ p_ q_ (c:=d8_0);clear e_;(try simp only [Addr.add,Int.reduceToNat,Nat.reduceMul,Nat.reduceEqDiff,↓reduceIte] at ix_ x0);go_step)|((with_reducible refine gc_ 78 ?_);refine ca_ (some 13) Tryz.func78 _ (slices_Index_string_string.calls k B9_0 d9_0 _ _ _ _ (gt_ st) (gt_ st) A_13.out) ?_;rintro e w_ ⟨rfl,hb⟩;refine ⟨_,rfl,?_⟩;replace hb:=hb.below;replace st:=st.ev hb;clear cl hb;have cl:=cl_ st))
 (try simp only [Act.put,sa_,sb_,sc_])
 go_cut [20] (fun bp wc=>∃(kq:Nat) (ay:Bool),bp=.bool ay∧Aside0 (impl_ReadDeed.j0 kq a0 ab af ay=some (r1,r2,r3,r4))∧Aside0 (kq≤k)∧ST w [AR Kd.string 9 w.heap.size (.slice B8_0 ab.length d8_0) ab] [Bx g2 #[.int .i64 0,.int .i64 0,.int .i64 0] 42] wc)
 case first =>
  have H:=HC4.out;clear HC4;replace H:=it_ H;rcases H with ⟨aq,H⟩|⟨aq,H⟩
  ·
   (first|rw [aq]|(simp only [i64_w,i32_w];rw [aq])|skip);have H':=A_ H;clear H;go_wp2;go_meet
   case rel=>exact ⟨_,(true),tx_,H',⟨by first|omega|exact Nat.le_refl _⟩,st.en⟩
  ·
   (first|rw [aq]|(simp only [i64_w,i32_w];rw [aq])|skip);have H':=A_ H;clear H;go_wp2;go_meet
   case rel=>exact ⟨_,(decide ((ab.length:Int)>3)),tx_,H',⟨by first|omega|exact Nat.le_refl _⟩,st.en⟩
 case rest =>
  clear HC4 st cl;obtain ⟨kq,ay,rfl,HA,HJ3,st⟩:=hcut;have cl:=cl_ st
  cases kq with
  |zero=>exact absurd HA.out (by simp [impl_ReadDeed.j0])
  |succ kj3 =>
   have H:=HA.out;clear HA;simp only [impl_ReadDeed.j0] at H;rcases bx_ ay with rfl|rfl
   ·
    replace H:=bt_ H;obtain ⟨rfl,rfl,rfl,rfl⟩:=sj4_ H;go_wp2_with (first|((with_reducible refine gs_ 2 ?_);refine so3_ st ?_;clear st cl;intro w_ st;have cl:=cl_ st));refine bodyPost_ret (rct_ st Tryz.underlying42) rfl ?_;exact ⟨tw_,st.b⟩
   ·
    replace H:=bf_ H;replace H:=sm_ H;(try dsimp only at H);replace H:=in_ H;obtain ⟨aZ,H⟩:=H;replace H:=in_ H;obtain ⟨bq,H⟩:=H;have HC9:=A_ H;clear H
    go_upto_if 29 with (first|((with_reducible refine gd_ 22 ?_);refine nw_ (Kd.int .i64) 3 (([0,1,2,3,4]:List Int):List Int) [.int .i64 0,.int .i64 1,.int .i64 2,.int .i64 3,.int .i64 4] st ?_;clear st cl;intro B22_0 d22_0 w_ st;have cl:=cl_ st)|((with_reducible refine gd_ 24 ?_);obtain ⟨p_,q_,ad_,e_,x0⟩:=a2_ (Kd.at_int (gC_ st (Kd.int .i64) B22_0 (([0,1,2,3,4]:List Int))) af);have ix_:=ix1_ (n:=5) Tryz.underlying29 e_ p_ q_ (c:=d22_0);clear e_;go_step)|((with_reducible refine gd_ 6 ?_);refine al_ st ?_;clear st cl;intro g6 w_ st;have cl:=cl_ st)|((with_reducible refine gs_ 6 ?_);refine so3_ st ?_;clear st cl;intro w_ st;have cl:=cl_ st))
    (try simp only [Act.put,sa_,sb_,sc_])
    go_cut [] (fun wc=>∃(kq:Nat) (ag:Int),Aside0 (impl_ReadDeed.j1 kq a0 ab (rd (([0,1,2,3,4]:List Int)) af) ag 0=some (r1,r2,r3,r4))∧Aside0 (kq≤kj3)∧ST w [AR Kd.string 9 w.heap.size (.slice B8_0 ab.length d8_0) ab] [Bx g2 #[.int .i64 0,.int .i64 0,.int .i64 0] 42,Bx g6 #[.int .i64 (rd (([0,1,2,3,4]:List Int)) af),.int .i64 ag,.int .i64 0] 42] wc)
    case first =>
     have H:=HC9.out;clear HC9;by_cases c10:(ab.length:Int)>1
     ·
      rw [if_pos c10] at H;have ao:decide (1<(ab.length:Int))=true:=decide_eq_true c10;have a5:decide (1<ab.length)=true:=decide_eq_true (by omega);clear c10;(first|rw [ao]|(simp only [i64_w,i32_w];rw [ao])|skip);replace H:=i0_ H;obtain ⟨c11,H⟩:=H;have bj:decide (1<(ab.length:Int))=true:=decide_eq_true c11;have bk:decide (1<ab.length)=true:=decide_eq_true (by omega);clear c11;obtain ⟨⟨be,br⟩,A_34,H⟩:=bnd_ H;(try dsimp only at H);have H':=A_ H;clear H;exact impl_ReadDeed.z0
     ·
      rw [if_neg c10] at H;have ao:decide (1<(ab.length:Int))=false:=decide_eq_false c10;have a5:decide (1<ab.length)=false:=decide_eq_false (by omega);clear c10;(first|rw [ao]|(simp only [i64_w,i32_w];rw [ao])|skip);have H':=A_ H;clear H;exact impl_ReadDeed.z0
    case rest =>
     clear HC9 st cl;obtain ⟨kq,ag,HA,HJ8,st⟩:=hcut;have cl:=cl_ st
     cases kq with
     |zero=>exact absurd HA.out (by simp [impl_ReadDeed.j1])
     |succ kj8 =>
      have H:=HA.out;clear HA;simp only [impl_ReadDeed.j1] at H;by_cases c12:(ab.length:Int)>2
      ·
       rw [if_pos c12] at H;have a6:decide (2<(ab.length:Int))=true:=decide_eq_true c12;have a7:decide (2<ab.length)=true:=decide_eq_true (by omega);clear c12;replace H:=i0_ H;obtain ⟨c13,H⟩:=H;have bl:decide (2<(ab.length:Int))=true:=decide_eq_true c13;have bm:decide (2<ab.length)=true:=decide_eq_true (by omega);clear c13;obtain ⟨⟨bs,bu⟩,A_45,H⟩:=bnd_ H;(try dsimp only at H);obtain ⟨ar,A_50,H⟩:=bnd_ H;by_cases c14:ar.toList=a0.toList
       ·
        rw [if_pos c14] at H;have a8:(ar.toList == a0.toList)=true:=beq_iff_eq.mpr c14;have a9:(ar.toList != a0.toList)=false:=bne_eq_false_iff_eq.mpr c14;clear c14;obtain ⟨rfl,rfl,rfl,rfl⟩:=sj4_ H;exact impl_ReadDeed.z1
       ·
        rw [if_neg c14] at H;have a8:(ar.toList == a0.toList)=false:=beq_eq_false_iff_ne.mpr c14;have a9:(ar.toList != a0.toList)=true:=bne_iff_ne.mpr c14;obtain ⟨rfl,rfl,rfl,rfl⟩:=sj4_ H;exact impl_ReadDeed.z1
      ·
       rw [if_neg c12] at H;have a6:decide (2<(ab.length:Int))=false:=decide_eq_false c12;have a7:decide (2<ab.length)=false:=decide_eq_false (by omega);clear c12;obtain ⟨au,A_50,H⟩:=bnd_ H;by_cases c15:au.toList=a0.toList
       ·
        rw [if_pos c15] at H;have bb:(au.toList == a0.toList)=true:=beq_iff_eq.mpr c15;have bc:(au.toList != a0.toList)=false:=bne_eq_false_iff_eq.mpr c15;clear c15;obtain ⟨rfl,rfl,rfl,rfl⟩:=sj4_ H;exact impl_ReadDeed.z1
       ·
        rw [if_neg c15] at H;have bb:(au.toList == a0.toList)=false:=beq_eq_false_iff_ne.mpr c15;have bc:(au.toList != a0.toList)=true:=bne_iff_ne.mpr c15;obtain ⟨rfl,rfl,rfl,rfl⟩:=sj4_ H;exact impl_ReadDeed.z1
def impl_ReadJournal.l0:Nat→ByteArray→List (S42)→Int→Option ((List (S42))×Int)
 |0,_,_,_=>none
 |k+1,x0,x4,x5=>if 0≤x5 then (if x5≤(x0.size:Int) then ((strings_Cut.f (x0.extract (x5:Int).toNat x0.size) (⟨#[10]⟩:ByteArray)).bind fun aE=>((impl_ReadDeed.f k aE.1).bind fun az=>(if aE.2.2=true then (if az.2.2.2=true then (if x4.length<5864062014805 then (impl_ReadJournal.l0 k x0 (x4++[(⟨az.1,az.2.1,az.2.2.1⟩:S42)]) (wrap64 (x5+(wrap64 ((aE.1.size:Int)+1))))) else (none)) else (some (x4,x5))) else (some (x4,x5))))) else (none)) else (none)
def impl_ReadJournal.f (k:Nat) (a0:ByteArray):Option ((List (S42))×Int):=impl_ReadJournal.l0 k a0 (([]:List (S42))) 0
theorem impl_ReadJournal.z0 {P_:Prop} (h_:P_:=by go_wp2_with (first|((with_reducible refine gc_ 54 ?_);refine ca_ (some 16) Tryz.func54 _ (strings_Cut.calls _ _ _ _ _ _ (GWb.below HG.out st.b) A_16.out) ?_;rintro e w_ ⟨rfl,hb⟩;refine ⟨_,rfl,?_⟩;replace hb:=hb.below;replace st:=st.ev hb;clear cl hb;have cl:=cl_ st)|((with_reducible refine gc_ 55 ?_);refine ca_ (some 22) Tryz.func55 _ (impl_ReadDeed.calls k1 _ _ _ _ _ _ (GWb.below HG.out st.b) A_22.out) ?_;rintro e w_ ⟨rfl,hb⟩;refine ⟨_,rfl,?_⟩;replace st:=st.ev hb;clear cl hb;have cl:=cl_ st)|((with_reducible refine gd_ 9 ?_);refine al_ st ?_;clear st cl;intro g9 w_ st;have cl:=cl_ st)|((with_reducible refine gs_ 9 ?_);refine so3_ st ?_;clear st cl;intro w_ st;have cl:=cl_ st)|((with_reducible refine gd_ 36 ?_);refine ap_ aF aj (⟨aN,aO,aP⟩:S42) [.int .i64 aN,.int .i64 aO,.int .i64 aP] ((.agg #[(.int .i64 0),(.int .i64 0),(.int .i64 0)])) 24 st Tryz.underlying35 ?_ (hl:=by have:=bf.out;omega) (hp:=k42_mkM _ _ _ _);clear st cl;intro P36 q36 w_ st;have cl:=cl_ st));first|(go_roundg k1;(case measure=>have:=HK1.out;omega);(case rel=>exact ⟨((aj++[(⟨aN,aO,aP⟩:S42)])),(wrap64 (ap+(wrap64 ((bg.size:Int)+1)))),P36,q36,tx_,tx_,H',⟨by have:=HK1.out;omega⟩,st.en⟩))|(go_ret2;exact ⟨.slice aF aj.length aK,tw_,gtl_ st,st.b⟩)):P_:=h_
theorem impl_ReadJournal.calls (k:Nat) (a0:ByteArray) (r1:List (S42)) (r2:Int) (w:World) (hG:GWb w) (h:impl_ReadJournal.f k a0=some (r1,r2)) :
  Calls Tryz.prog 26 #[.string a0] w fun e w'=>∃v0_:Value,e=.returned (.tuple #[v0_,.int .i64 r2])∧Kd.R k42 42 w' w.heap.size (fun _=>True) v0_ r1∧Below w.heap.size w w':=by
 have HG:=A_ hG;clear hG;have hu42:=Tryz.underlying42;have st:=ST.nil w;have s0:=st;have cl:=cl_ st;have H:=h;clear h;unfold impl_ReadJournal.f at H;go_enter Tryz.func26,Tryz.ntmps26;have H':=A_ H;clear H;go_wp2_with (first|((with_reducible refine gd_ 11 ?_);refine nwl_ k42 42 (([]:List (S42)):List (S42)) [] st ?_ (hrep:=by repeat (first|exact Reps.none _ _|refine Reps.c3 (k42_mkM _ _ _ _) ?_));clear st cl;intro B11_0 d11_0 w_ st;have cl:=cl_ st))
 go_loopg [4,5] k (fun kq v4 v5 w'=>∃(aj:List (S42)) (ap:Int) (aF:Option Addr) (aK:Nat),v4=.slice aF aj.length aK∧v5=.int .i64 ap∧Aside0 (impl_ReadJournal.l0 kq a0 aj ap=some (r1,r2))∧Aside0 (kq≤k)∧ST w [] [AR k42 42 w.heap.size (.slice aF aj.length aK) aj] w')
 case atStart=>exact ⟨(([]:List (S42))),(0),B11_0,d11_0,tx_,tx_,H',⟨Nat.le_refl _⟩,st.en⟩
 case round =>
  clear H' st cl;obtain ⟨aj,ap,aF,aK,rfl,rfl,HA,HK1,st⟩:=hrel;have cl:=cl_ st
  cases gk with
  |zero=>exact absurd HA.out (by simp [impl_ReadJournal.l0])
  |succ k1 =>
   have H:=HA.out;clear HA;simp only [impl_ReadJournal.l0] at H;replace H:=i0_ H;obtain ⟨c3,H⟩:=H;have aI:=eq_true c3;have bv:decide (0≤ap)=true:=decide_eq_true c3;clear c3;replace H:=i0_ H;obtain ⟨c4,H⟩:=H;have aY:=eq_true c4;have bw:decide (ap≤(a0.size:Int))=true:=decide_eq_true c4;clear c4;obtain ⟨⟨bg,bx,bh⟩,A_16,H⟩:=bnd_ H;(try dsimp only at H);obtain ⟨⟨aN,aO,aP,bi⟩,A_22,H⟩:=bnd_ H;(try dsimp only at H);rcases bx_ bh with rfl|rfl
   ·
    replace H:=bt_ H;rcases bx_ bi with rfl|rfl
    ·
     replace H:=bt_ H;replace H:=il_ H;obtain ⟨bf,H⟩:=H;have H':=A_ H;clear H;exact impl_ReadJournal.z0
    ·
     replace H:=bf_ H;obtain ⟨rfl,rfl⟩:=sj2_ H;exact impl_ReadJournal.z0
   ·
    replace H:=bf_ H;obtain ⟨rfl,rfl⟩:=sj2_ H;exact impl_ReadJournal.z0
def impl_DeskOk.l0:Nat→List (S31)→Int→Int→List Int→Int→List Int→List (S31)→Option (Bool)
 |0,_,_,_,_,_,_,_=>none
 |k+1,x6,x7,x8,aA,aB,aC,aD=>if x8<x7 then (if 0≤x8 then (if x8<(x6.length:Int) then ((impl_PlaceOk.f k ((rd_T31 x6 x8).f0) ((rd_T31 x6 x8).f1) ((rd_T31 x6 x8).f2)).bind fun aQ=>(if aQ=true then (impl_DeskOk.l0 k x6 x7 (wrap64 (x8+1)) aA aB aC aD) else (some false))) else (none)) else (none)) else ((impl_PlaceOk.f k aA aB aC).bind fun aR=>(if aR=true then (some (decide ((aD.length:Int)≤8))) else (some false)))
def impl_DeskOk.f (k:Nat) (ad:List Int) (a0_1:Int) (ae:List Int) (ac:List (S31)):Option (Bool):=impl_DeskOk.l0 k ac (ac.length:Int) 0 ad a0_1 ae ac
theorem impl_DeskOk.z0 {P_:Prop} (h_:P_:=by go_wp2_with (first|((with_reducible refine gd_ 10 ?_);obtain ⟨p_,q_,ad_,aU,aV,aW,aX,e_,x0,x1,x2,l0_,C0_,l2_,C2_⟩:=a2_ (at_T31 (gC_ s0 k31 aG ac) aa);replace x0:=cb_ st x0;replace x1:=cb_ st x1;replace x2:=cb_ st x2;replace st:=st.c C0_ l0_;replace st:=st.c C2_ l2_;have ix_:=ix3_ Tryz.underlying32 e_ p_ q_ (c:=aH);clear e_;go_step)|((with_reducible refine gd_ 4 ?_);refine al_ st ?_;clear st cl;intro g4 w_ st;have cl:=cl_ st)|((with_reducible refine gs_ 4 ?_);refine so3_ st ?_;clear st cl;intro w_ st;have cl:=cl_ st)|((with_reducible refine gc_ 32 ?_);refine ca_ (some 13) Tryz.func32 _ (impl_PlaceOk.calls k1 aU aV _ _ aW aX _ _ _ (gt_ st) (gt_ st) (gt_ st) (gt_ st) A_13.out) ?_;rintro e w_ ⟨rfl,hb⟩;refine ⟨_,rfl,?_⟩;replace st:=st.ev hb;clear cl hb;have cl:=cl_ st)|((with_reducible refine gc_ 32 ?_);refine ca_ (some 18) Tryz.func32 _ (impl_PlaceOk.calls k1 ak al _ _ am an _ _ _ (gt_ st) (gt_ st) (gt_ st) (gt_ st) A_18.out) ?_;rintro e w_ ⟨rfl,hb⟩;refine ⟨_,rfl,?_⟩;replace st:=st.ev hb;clear cl hb;have cl:=cl_ st));first|(go_roundg k1;(case measure=>have:=HK1.out;omega);(case rel=>exact ⟨(wrap64 (aa+1)),tx_,H',⟨by have:=HK1.out;omega⟩,st.en⟩))|(go_ret;exact ⟨tw_,st.b⟩)):P_:=h_
theorem impl_DeskOk.calls (k:Nat) (ak:Option Addr) (al:Nat) (ad:List Int) (a0_1:Int) (am:Option Addr) (an:Nat) (ae:List Int) (aG:Option Addr) (aH:Nat) (ac:List (S31)) (r:Bool) (w:World) (hr0_0:Kd.C (Kd.int .i64) w ak ad.length ad) (hc0_0:ad.length≤al) (hr0_2:Kd.C (Kd.int .i64) w am ae.length ae) (hc0_2:ae.length≤an) (hr0_3:Kd.C k31 w aG ac.length ac) (hc0_3:ac.length≤aH) (h:impl_DeskOk.f k ad a0_1 ae ac=some r) :
  Calls Tryz.prog 28 #[.agg #[.slice ak ad.length al,.int .i64 a0_1,.slice am ae.length an,.slice aG ac.length aH]] w fun e w'=>e=.returned (.bool r)∧Below w.heap.size w w':=by
 have hu34:=Tryz.underlying34;have hu31:=Tryz.underlying31;have st:=(((ST.nil w).c hr0_0 hc0_0).c hr0_2 hc0_2).c hr0_3 hc0_3;have s0:=st;have cl:=cl_ st;have H:=h;clear h;unfold impl_DeskOk.f at H;go_enter Tryz.func28,Tryz.ntmps28;have H':=A_ H;clear H;go_wp2_with (first|((with_reducible refine gd_ 1 ?_);refine al_ st ?_;clear st cl;intro g1 w_ st;have cl:=cl_ st))
 go_loopg [8] k (fun kq v8 w'=>∃(aa:Int),v8=.int .i64 aa∧Aside0 (impl_DeskOk.l0 kq ac (ac.length:Int) aa ad a0_1 ae ac=some r)∧Aside0 (kq≤k)∧ST w [CA (Kd.int .i64) w ak ad al,CA (Kd.int .i64) w am ae an,CA k31 w aG ac aH] [Bx g1 #[.slice ak ad.length al,.int .i64 a0_1,.slice am ae.length an,.slice aG ac.length aH] 34] w')
 case atStart=>exact ⟨(0),tx_,H',⟨Nat.le_refl _⟩,st.en⟩
 case round =>
  clear H' st cl;obtain ⟨aa,rfl,HA,HK1,st⟩:=hrel;have cl:=cl_ st
  cases gk with
  |zero=>exact absurd HA.out (by simp [impl_DeskOk.l0])
  |succ k1 =>
   have H:=HA.out;clear HA;simp only [impl_DeskOk.l0] at H;replace H:=it_ H;rcases H with ⟨aI,H⟩|⟨aI,H⟩
   ·
    replace H:=in_ H;obtain ⟨aY,H⟩:=H;replace H:=in_ H;obtain ⟨aq,H⟩:=H;obtain ⟨aQ,A_13,H⟩:=bnd_ H;rcases bx_ aQ with rfl|rfl
    ·
     replace H:=bt_ H;have H':=A_ H;clear H;exact impl_DeskOk.z0
    ·
     replace H:=bf_ H;obtain rfl:=Option.some.inj H;exact impl_DeskOk.z0
   ·
    obtain ⟨aR,A_18,H⟩:=bnd_ H;rcases bx_ aR with rfl|rfl
    ·
     replace H:=bt_ H;obtain rfl:=Option.some.inj H;exact impl_DeskOk.z0
    ·
     replace H:=bf_ H;obtain rfl:=Option.some.inj H;exact impl_DeskOk.z0
def impl_copyPlace.f (ad:List Int) (a0_1:Int) (ae:List Int):Option (List Int×Int×List Int):=(slices_Clone_int_int.f ad).bind fun av=>((slices_Clone_int_int.f ae).bind fun aw=>(some (av,a0_1,aw)))
def impl_copyPlace.T1:Bool×List (List Nat×List Nat):=(true,[([],[]),([0],[0]),([1],[1]),([],[]),([3],[3]),([],[]),([5],[5]),([6,2],[6]),([2,4,7],[2,4,7]),([8,7,0,1,2,3,4,5,6,7,8],[8])])
def impl_copyPlace.B1:List Nat:=[0,1,3,0,8,0,32,103,255,511]
theorem impl_copyPlace.tab1:rtab .any (opsOf Tryz.f33 1)=impl_copyPlace.T1:=by kernel_rfl
theorem impl_copyPlace.bits1:waitsOk impl_copyPlace.T1.2 impl_copyPlace.B1=true:=by kernel_rfl
theorem impl_copyPlace.calls (ak:Option Addr) (al:Nat) (ad:List Int) (a0_1:Int) (am:Option Addr) (an:Nat) (ae:List Int) (r1:List Int) (r2:Int) (r3:List Int) (w:World) (hr0_0:Kd.C (Kd.int .i64) w ak ad.length ad) (hc0_0:ad.length≤al) (hr0_2:Kd.C (Kd.int .i64) w am ae.length ae) (hc0_2:ae.length≤an) (h:impl_copyPlace.f ad a0_1 ae=some (r1,r2,r3)) :
  Calls Tryz.prog 33 #[.agg #[.slice ak ad.length al,.int .i64 a0_1,.slice am ae.length an]] w fun e w'=>∃v0_ v2_:Value,e=.returned (.agg #[v0_,.int .i64 r2,v2_])∧Kd.R (Kd.int .i64) 3 w' w.heap.size (fun k_=>some k_≠(v2_:Value).ownBlock) v0_ r1∧Kd.R (Kd.int .i64) 3 w' w.heap.size (fun k_=>some k_≠(v0_:Value).ownBlock) v2_ r3∧Below w.heap.size w w':=by
 have hu31:=Tryz.underlying31;have st:=((ST.nil w).c hr0_0 hc0_0).c hr0_2 hc0_2;have s0:=st;have cl:=cl_ st;have H:=h;clear h;unfold impl_copyPlace.f at H;go_enter Tryz.func33,Tryz.ntmps33;obtain ⟨av,A_5,H⟩:=bnd_ H;obtain ⟨aw,A_10,H⟩:=bnd_ H;obtain ⟨rfl,rfl,rfl⟩:=sj3_ H;(try go_wp2_with (first|((with_reducible refine gd_ 1 ?_);refine al_ st ?_;clear st cl;intro g1 w_ st;have cl:=cl_ st)|((with_reducible refine gd_ 2 ?_);refine al_ st ?_;clear st cl;intro g2 w_ st;have cl:=cl_ st)));(all_goals (refine rg_ st [9] ?_;clear st cl;intro w_ st hs;have cl:=cl_ st;refine with_tabW impl_copyPlace.tab1 impl_copyPlace.bits1 (fun HT_ HW_=>?_);refine pv_ 0 ?_;refine pv_ 3 ?_;refine pv_ 5 ?_;refine tu_ 1 ?_;refine tu_ 4 ?_;refine tu_ 6 ?_;refine ov_ 2 (fun K hK=>?_);refine ca2_ (some 5) Tryz.func56 _ (slices_Clone_int_int.calls ak al _ _ _ (gt_ st) (gt_ st) A_5.out) ?_;rintro e w_ ⟨v0,rfl,h0,hb⟩;refine ⟨_,rfl,?_⟩;obtain ⟨B5_0,d5_0,rfl⟩:=Kd.R_slice h0;replace st:=st.box (A:=AR (Kd.int .i64) 3 w.heap.size (.slice B5_0 av.length d5_0) av) hb (st.mr h0);clear cl hb h0;have cl:=cl_ st;refine hK.out _ _ st.en (fun hs=>?_);clear hK K;refine nr_ 5 ?_;refine ov_ 7 (fun K hK=>?_);refine ca2_ (some 10) Tryz.func56 _ (slices_Clone_int_int.calls am an _ _ _ (gt_ st) (gt_ st) A_10.out) ?_;rintro e w_ ⟨v0,rfl,h0,hb⟩;refine ⟨_,rfl,?_⟩;obtain ⟨B10_0,d10_0,rfl⟩:=Kd.R_slice h0;replace st:=st.box (A:=AR (Kd.int .i64) 3 w.heap.size (.slice B10_0 aw.length d10_0) aw) hb (st.mr h0);clear cl hb h0;have cl:=cl_ st;refine hK.out _ _ st.en (fun hs=>?_);clear hK K;refine nr_ 10 ?_;refine pv_ 8 ?_;refine lv_ 9 (fun K hK=>?_);refine sp3_ st ?_;clear st cl;intro w_ st;have cl:=cl_ st;refine hK.out _ _ ?_;clear hK K;refine done_ (done_of HT_.out (by kernel_rfl)) ?_;all_goals (try go_wp2_with (first|((with_reducible refine gd_ 1 ?_);refine al_ st ?_;clear st cl;intro g1 w_ st;have cl:=cl_ st)|((with_reducible refine gd_ 2 ?_);refine al_ st ?_;clear st cl;intro g2 w_ st;have cl:=cl_ st)))));refine bodyPost_ret (rcc_ st Tryz.underlying31) rfl ?_;exact ⟨.slice B5_0 av.length d5_0,.slice B10_0 aw.length d10_0,tw_,(tap_ st B5_0 av B10_0 aw).1,(tap_ st B5_0 av B10_0 aw).2,st.b⟩
end Go.Proofs.YtdllgaelpanblaaGreatDoor.MFnStoreSameWay
