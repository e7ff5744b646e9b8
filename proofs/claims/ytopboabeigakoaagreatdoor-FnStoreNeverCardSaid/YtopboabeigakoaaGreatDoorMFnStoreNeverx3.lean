/- For the law FnStoreNever: walks of the functions that it reaches: each call returns what the plain function beside it tells. The conditions stand in each statement. -/
import Derived.Test.YtopboabeigakoaaGreatDoorV
import Derived.Test.YtopboabeigakoaaGreatDoorMFnStoreNeverx0
import Derived.Test.YtopboabeigakoaaGreatDoorMFnStoreNeverx2
namespace Go.Proofs.YtopboabeigakoaaGreatDoor.MFnStoreNever
open Go.RowKit Go.Proofs.YtopboabeigakoaaGreatDoorW.PrintWords Go.Proofs.YtopboabeigakoaaGreatDoorW.PrintLast Go.Proofs.YtopboabeigakoaaGreatDoorW.PrintMore
attribute [local go_sem] max2_int min2_int max_two min_two max_three min_three max_four min_four   -- for this text's walks alone
set_option linter.unusedVariables false
set_option linter.unusedSimpArgs false
set_option maxHeartbeats 8000000
set_option maxRecDepth 100000
mutual
def impl_ReadDeed.j0:Nat→ByteArray→List ByteArray→Int→Bool→Option (Int×Int×Int×Bool)
 |0,_,_,_,_=>none
 |k+1,x0,x4,x5,x20=>if x20=true then (some (0,0,0,false)) else ((some (([0,1,2,3,4]:List Int):List Int)).bind fun ag=>(if 0≤x5 then (if x5<(ag.length:Int) then (if (x4.length:Int)>1 then (if 1<(x4.length:Int) then ((strconv_Atoi.f (rdOf ByteArray.empty x4 1)).bind fun aD=>(impl_ReadDeed.j1 k x0 x4 (rd ag x5) aD.1 0)) else (none)) else (impl_ReadDeed.j1 k x0 x4 (rd ag x5) 0 0)) else (none)) else (none)))
def impl_ReadDeed.j1:Nat→ByteArray→List ByteArray→Int→Int→Int→Option (Int×Int×Int×Bool)
 |0,_,_,_,_,_=>none
 |k+1,x0,x4,ap,aq,aF=>if (x4.length:Int)>2 then (if 2<(x4.length:Int) then ((strconv_Atoi.f (rdOf ByteArray.empty x4 2)).bind fun bf=>((impl_DeedText.f k ap aq bf.1).bind fun aA=>(if aA.toList=x0.toList then (some (ap,aq,bf.1,true)) else (some (0,0,0,false))))) else (none)) else ((impl_DeedText.f k ap aq aF).bind fun aB=>(if aB.toList=x0.toList then (some (ap,aq,aF,true)) else (some (0,0,0,false))))
end
def impl_ReadDeed.f (k:Nat) (a0:ByteArray):Option (Int×Int×Int×Bool):=(strings_Split.f a0 (⟨#[32]⟩:ByteArray)).bind fun ac=>(if 0<(ac.length:Int) then ((slices_Index_string_string.f k (([(⟨#[112,117,116]⟩:ByteArray),(⟨#[115,116,101,112]⟩:ByteArray),(⟨#[100,114,97,119]⟩:ByteArray),(⟨#[97,103,97,105,110]⟩:ByteArray),(⟨#[98,97,99,107]⟩:ByteArray)]:List ByteArray)) (rdOf ByteArray.empty ac 0)).bind fun af=>(if af<0 then (impl_ReadDeed.j0 k a0 ac af true) else (impl_ReadDeed.j0 k a0 ac af (decide ((ac.length:Int)>3))))) else (none))
theorem impl_ReadDeed.calls (k:Nat) (a0:ByteArray) (r1:Int) (r2:Int) (r3:Int) (r4:Bool) (w:World) (hG:GWb w) (h:impl_ReadDeed.f k a0=some (r1,r2,r3,r4)) :
  Calls Tryz.prog 53 #[.string a0] w fun e w'=>e=.returned (.tuple #[.agg #[.int .i64 r1,.int .i64 r2,.int .i64 r3],.bool r4])∧Below w.heap.size w w':=by
 have HG:=A_ hG;clear hG;have hu43:=Tryz.underlying43;have HB:=A_ (Below.refl w.heap.size w);have H:((strings_Split.f a0 (⟨#[32]⟩:ByteArray)).bind fun ac=>(if 0<(ac.length:Int) then ((slices_Index_string_string.f k (([(⟨#[112,117,116]⟩:ByteArray),(⟨#[115,116,101,112]⟩:ByteArray),(⟨#[100,114,97,119]⟩:ByteArray),(⟨#[97,103,97,105,110]⟩:ByteArray),(⟨#[98,97,99,107]⟩:ByteArray)]:List ByteArray)) (rdOf ByteArray.empty ac 0)).bind fun af=>(if af<0 then (impl_ReadDeed.j0 k a0 ac af true) else (impl_ReadDeed.j0 k a0 ac af (decide ((ac.length:Int)>3))))) else (none)))=some (r1,r2,r3,r4):=h;clear h;obtain ⟨ac,A2,H⟩:=bnd_ H;(try dsimp only at H);obtain ⟨bj,aK⟩:∃y_:List ByteArray,y_=(([(⟨#[112,117,116]⟩:ByteArray),(⟨#[115,116,101,112]⟩:ByteArray),(⟨#[100,114,97,119]⟩:ByteArray),(⟨#[97,103,97,105,110]⟩:ByteArray),(⟨#[98,97,99,107]⟩:ByteArray)]:List ByteArray)):=⟨_,rfl⟩
 replace H:(if 0<(ac.length:Int) then ((slices_Index_string_string.f k bj (rdOf ByteArray.empty ac 0)).bind fun af=>(if af<0 then (impl_ReadDeed.j0 k a0 ac af true) else (impl_ReadDeed.j0 k a0 ac af (decide ((ac.length:Int)>3))))) else (none))=some (r1,r2,r3,r4):=yq_ aK H;have bg:=A_ aK;clear aK;replace H:=i0_ H;obtain ⟨c3,H⟩:=H;have aJ:decide (0<(ac.length:Int))=true:=decide_eq_true c3;have bk:decide (0<ac.length)=true:=decide_eq_true (by omega);clear c3;obtain ⟨af,A4,H⟩:=bnd_ H;(try dsimp only at H);have HC5:=A_ H;clear H;go_enter Tryz.func53,Tryz.ntmps53
 go_upto_region 3 with (first|((with_reducible refine gate_dst (N:=2) rfl ?_);(try (refine gate_guard (by rfl) ?_;dsimp only));refine be_ 2 #[.int .i64 0,.int .i64 0,.int .i64 0] 43 ?_;intro au hg w6 ab hb;have cZ:=gx_ HB hg;have c8:=gx_ HB hg;replace HB:=bs_ HB hb;clear hb hg)|((with_reducible refine gate_callee (f:=70) rfl ?_);refine gl_ (some 8) Tryz.func70 #[.string a0,.string (⟨#[32]⟩:ByteArray)] ?_;(with_reducible refine (strings_Split.calls a0 (⟨#[32]⟩:ByteArray) ac _ ?s1 A2.out).mono ?_);(case s1=>exact GWb.below HG.out (tb_ HB.out));rintro e w7 ⟨dt,rfl,ho0,hb⟩;refine ⟨_,rfl,?_⟩;have av:=rx_ ho0 HB;replace ab:=bb_ ab hb;replace HB:=bs_ HB hb;(try clear hb ho0))|((with_reducible refine gate_dst (N:=9) rfl ?_);(try (refine gate_guard (by rfl) ?_;dsimp only));refine Kd.R_lit Kd.string _ 9 ?hg (N:=9) ?hd (xs:=([(⟨#[112,117,116]⟩:ByteArray),(⟨#[115,116,101,112]⟩:ByteArray),(⟨#[100,114,97,119]⟩:ByteArray),(⟨#[97,103,97,105,110]⟩:ByteArray),(⟨#[98,97,99,107]⟩:ByteArray)]:List ByteArray)) (inner:=[.string (⟨#[112,117,116]⟩:ByteArray),.string (⟨#[115,116,101,112]⟩:ByteArray),.string (⟨#[100,114,97,119]⟩:ByteArray),.string (⟨#[97,103,97,105,110]⟩:ByteArray),.string (⟨#[98,97,99,107]⟩:ByteArray)]) (ok:=fun _=>True) (okp:=fun _=>True) ?hr ?hp (fun _ hk=>hk) trivial (Below.refl _ _) (Nat.le_refl _) (by simp) ?_;(case hd=>rfl);(case hg=>rfl);(case hr=>first|(go_simp;done)|(go_simp;rfl));(case hp=>exact (Reps.one (show Kd.M Kd.string _ _ _ (⟨#[112,117,116]⟩:ByteArray) [.string (⟨#[112,117,116]⟩:ByteArray)] from rfl) (Reps.one (show Kd.M Kd.string _ _ _ (⟨#[115,116,101,112]⟩:ByteArray) [.string (⟨#[115,116,101,112]⟩:ByteArray)] from rfl) (Reps.one (show Kd.M Kd.string _ _ _ (⟨#[100,114,97,119]⟩:ByteArray) [.string (⟨#[100,114,97,119]⟩:ByteArray)] from rfl) (Reps.one (show Kd.M Kd.string _ _ _ (⟨#[97,103,97,105,110]⟩:ByteArray) [.string (⟨#[97,103,97,105,110]⟩:ByteArray)] from rfl) (Reps.one (show Kd.M Kd.string _ _ _ (⟨#[98,97,99,107]⟩:ByteArray) [.string (⟨#[98,97,99,107]⟩:ByteArray)] from rfl) (Reps.none _ _)))))));intro du w8 ho9 hb hg_ hnew_;clear hg_ hnew_;(first|rw [←bg.out] at ho9|(simp only [Int.reduceToNat] at ho9;rw [←bg.out] at ho9));have aL:=rx_ (nR_ ho9 (Kd.R_lt (rR_ av.out))) HB;replace av:=A_ (Kd.R_elder' (rR_ av.out) (Kd.R_base ho9) hb);replace ab:=bb_ ab hb;replace HB:=bs_ HB hb;clear hb ho9;obtain ⟨dv,br,cL⟩:=Kd.R_slice av.out;subst cL;have p122:0≤(0:Int):=(by omega);have q122:0<(ac.length:Int):=od_;obtain ⟨ad122,e122,ar⟩:=Kd.at_string (Kd.R_reads' av.out).2.2 0 p122 q122;cases e122;have da:(0<ac.length)=True:=eq_true (by omega);(try rw [show ((0:Int)).toNat=0 from rfl] at ar);(try rw [Addr.add_zero'] at ar);replace p122:=eq_true p122;replace q122:=eq_true q122;obtain ⟨cM,cN,cO⟩:=Kd.R_slice aL.out;subst cO)|((with_reducible refine gate_callee (f:=91) rfl ?_);refine gl_ (some 13) Tryz.func91 #[.slice cM bj.length cN,.string (rdOf ByteArray.empty ac 0)] ?_;(with_reducible refine (slices_Index_string_string.calls k _ _ bj (rdOf ByteArray.empty ac 0) af _ ?s1 ?s2 A4.out).mono ?_);(case s1=>exact rc_ aL);(case s2=>exact (ll_ aL));rintro e w' ⟨rfl,⟨nd,rfl⟩⟩;refine ⟨_,rfl,?_⟩))
 (try simp only [Act.put,sa_,sb_,sc_])
 go_cut [20] (fun dw wc=>∃(kq:Nat) (aG:Bool),dw=.bool aG∧Aside0 (impl_ReadDeed.j0 kq a0 ac af aG=some (r1,r2,r3,r4))∧Aside0 (kq≤k)∧Aside0 (Kd.R Kd.string 9 wc w.heap.size (fun _=>True) (.slice (some ad122) ac.length br) ac)∧Aside0 (wc.heap[au]?=some (.cells #[.int .i64 0,.int .i64 0,.int .i64 0] 43 (0,0)))∧Aside0 (Below w.heap.size w wc))
 case first =>
  have H:=HC5.out;clear HC5;replace H:=it_ H;rcases H with ⟨aw,H⟩|⟨aw,H⟩
  ·
   (first|rw [aw]|(simp only [i64_w,i32_w];rw [aw])|skip);have H':=A_ H;clear H;go_wp2;go_meet
   case rel=>exact ⟨_,(true),tx_,H',⟨by first|omega|exact Nat.le_refl _⟩,⟨by refine qR_ ?_;exact Kd.R_mono av.out (fun _ hk=>trivial)⟩,⟨tk_ ab.out⟩,⟨(tb_ HB.out)⟩⟩
  ·
   (first|rw [aw]|(simp only [i64_w,i32_w];rw [aw])|skip);have H':=A_ H;clear H;go_wp2;go_meet
   case rel=>exact ⟨_,(decide ((ac.length:Int)>3)),tx_,H',⟨by first|omega|exact Nat.le_refl _⟩,⟨by refine qR_ ?_;exact Kd.R_mono av.out (fun _ hk=>trivial)⟩,⟨tk_ ab.out⟩,⟨(tb_ HB.out)⟩⟩
 case rest =>
  clear HC5;(try clear c3);(try clear aJ);(try clear bk);(try clear ar);(try clear p122);(try clear q122);obtain ⟨kq,aG,rfl,HA,HJ4,ai,ab,HB⟩:=hcut
  cases kq with
  |zero=>exact absurd HA.out (by simp [impl_ReadDeed.j0])
  |succ kj4 =>
   have H:=HA.out;clear HA;simp only [impl_ReadDeed.j0] at H;by_cases c13:aG=true
   ·
    subst c13;replace H:(some (0,0,0,false))=some (r1,r2,r3,r4):=by rw [if_pos rfl] at H;exact H
    obtain ⟨rfl,rfl,rfl,rfl⟩:=sj4_ H;obtain ⟨aP,aQ,aR,aU,aV,aW⟩:=cf3_ ab;go_wp2;refine bodyPost_ret (results_ct rfl _ _ au 43 #[.int .i64 0,.int .i64 0,.int .i64 0] (0,0) _ rfl (ps_ ab.out) Tryz.underlying43 rfl (by kernel_rfl)) rfl ?_;exact ⟨tw_,(tb_ HB.out)⟩
   ·
    replace c13:=Bool.eq_false_iff.mpr c13;subst c13;replace H:((some (([0,1,2,3,4]:List Int):List Int)).bind fun ag=>(if 0≤af then (if af<(ag.length:Int) then (if (ac.length:Int)>1 then (if 1<(ac.length:Int) then ((strconv_Atoi.f (rdOf ByteArray.empty ac 1)).bind fun aD=>(impl_ReadDeed.j1 kj4 a0 ac (rd ag af) aD.1 0)) else (none)) else (impl_ReadDeed.j1 kj4 a0 ac (rd ag af) 0 0)) else (none)) else (none)))=some (r1,r2,r3,r4):=by rw [if_neg (show ¬(false=true) by decide)] at H;exact H
    obtain ⟨ag,aM⟩:∃y_:List Int,y_=(([0,1,2,3,4]:List Int)):=⟨_,rfl⟩
    replace H:(if 0≤af then (if af<(ag.length:Int) then (if (ac.length:Int)>1 then (if 1<(ac.length:Int) then ((strconv_Atoi.f (rdOf ByteArray.empty ac 1)).bind fun aD=>(impl_ReadDeed.j1 kj4 a0 ac (rd ag af) aD.1 0)) else (none)) else (impl_ReadDeed.j1 kj4 a0 ac (rd ag af) 0 0)) else (none)) else (none))=some (r1,r2,r3,r4):=yq_ aM H;have bh:=A_ aM;clear aM;replace H:=in_ H;obtain ⟨bs,H⟩:=H;replace H:=in_ H;obtain ⟨bu,H⟩:=H;have HC17:=A_ H;clear H
    go_upto_if 29 with (first|((with_reducible refine gate_dst (N:=22) rfl ?_);(try (refine gate_guard (by rfl) ?_;dsimp only));refine Kd.R_lit (Kd.int .i64) _ 3 ?hg (N:=22) ?hd (xs:=([0,1,2,3,4]:List Int)) (inner:=[.int .i64 0,.int .i64 1,.int .i64 2,.int .i64 3,.int .i64 4]) (ok:=fun _=>True) (okp:=fun _=>True) ?hr ?hp (fun _ hk=>hk) trivial (Below.refl _ _) (Nat.le_refl _) (by simp) ?_;(case hd=>rfl);(case hg=>rfl);(case hr=>first|(go_simp;done)|(go_simp;rfl));(case hp=>exact (Reps.one (show Kd.M (Kd.int .i64) _ _ _ 0 [.int .i64 0] from rfl) (Reps.one (show Kd.M (Kd.int .i64) _ _ _ 1 [.int .i64 1] from rfl) (Reps.one (show Kd.M (Kd.int .i64) _ _ _ 2 [.int .i64 2] from rfl) (Reps.one (show Kd.M (Kd.int .i64) _ _ _ 3 [.int .i64 3] from rfl) (Reps.one (show Kd.M (Kd.int .i64) _ _ _ 4 [.int .i64 4] from rfl) (Reps.none _ _)))))));intro dy dD ho19 hb hg_ hnew_;clear hg_ hnew_;(first|rw [←bh.out] at ho19|(simp only [Int.reduceToNat] at ho19;rw [←bh.out] at ho19));replace ai:=rb_ ai hb;have ay:=rx_ ho19 HB;replace ab:=bb_ ab hb;replace HB:=bs_ HB hb;clear hb ho19;obtain ⟨dz,dA,cQ⟩:=Kd.R_slice ay.out;subst cQ;obtain ⟨p127,q127,ad127,e127,aX⟩:=a2_ (Kd.at_int (Kd.R_reads' ay.out).2.2 af);cases e127)|((with_reducible refine gate_dst (N:=6) rfl ?_);(try (refine gate_guard (by rfl) ?_;dsimp only));refine be_ 6 #[.int .i64 0,.int .i64 0,.int .i64 0] 43 ?_;intro ah hg dE aa hb;replace ai:=rb_ ai hb;replace ay:=rb_ ay hb;have db:=gx_ HB hg;have dc:=gx_ HB hg;replace HB:=bs_ HB hb;have al:=nl_ ab hg;have am:=ng_ ab hg;replace ab:=bb_ ab hb;clear hb hg;have dd:=am.out;have de:=al.out;obtain ⟨aY,aZ,a2,a3,a4,a5⟩:=cf3_ aa))
    (try simp only [Act.put,sa_,sb_,sc_])
    go_cut [] (fun wc=>∃(kq:Nat) (ae:Int),Aside0 (impl_ReadDeed.j1 kq a0 ac (rd ag af) ae 0=some (r1,r2,r3,r4))∧Aside0 (kq≤kj4)∧Aside0 (Kd.R Kd.string 9 wc w.heap.size (fun _=>True) (.slice (some ad122) ac.length br) ac)∧Aside0 (wc.heap[au]?=some (.cells #[.int .i64 0,.int .i64 0,.int .i64 0] 43 (0,0)))∧Aside0 (wc.heap[ah]?=some (.cells #[.int .i64 (rd ag af),.int .i64 ae,.int .i64 0] 43 (0,0)))∧Aside0 (Below w.heap.size w wc))
    case first =>
     have H:=HC17.out;clear HC17;by_cases c24:(ac.length:Int)>1
     ·
      rw [if_pos c24] at H;have az:decide (1<(ac.length:Int))=true:=decide_eq_true c24;have bi:decide (1<ac.length)=true:=decide_eq_true (by omega);clear c24;(first|rw [az]|(simp only [i64_w,i32_w];rw [az])|skip);replace H:=i0_ H;obtain ⟨c25,H⟩:=H;have bv:decide (1<(ac.length:Int))=true:=decide_eq_true c25;have bw:decide (1<ac.length)=true:=decide_eq_true (by omega);clear c25;obtain ⟨⟨bl,cR⟩,A26,H⟩:=bnd_ H;(try dsimp only at H);have H':=A_ H;clear H;have p129:0≤(1:Int):=(by omega)
      have q129:1<(ac.length:Int):=od_;obtain ⟨ad129,e129,ak⟩:=Kd.at_string (Kd.R_reads' ai.out).2.2 1 p129 q129;obtain rfl:ad122=ad129:=(by injection e129)
      (try simp only [show (1:Int).toNat=1 from rfl,Nat.reduceMul,Nat.reduceEqDiff,Go.Addr.add,↓reduceIte] at ak);have df:(1<ac.length)=True:=eq_true (by omega);(try rw [show ((1:Int)).toNat=1 from rfl] at ak);have hn129_0:ad122.block≠ah:=Kd.own_blk (Kd.R_ne ai.out aa.out (by decide));have hn129_1:ad122.block≠ah:=Kd.own_blk (Kd.R_ne ai.out aa.out (by decide));have hn129_2:ad122.block≠ah:=Kd.own_blk (Kd.R_ne ai.out aa.out (by decide));replace ak:=(cell_far (p:=⟨ah,0,none⟩) (by first|(rw [add_block];exact hn129_0)|(show (Addr.add _ _).block≠_;rw [add_block];exact hn129_0)|exact hn129_0) (.int .i64 (rd ag af))).trans ak;replace ak:=(cell_far (p:=⟨ah,1,none⟩) (by first|(rw [add_block];exact hn129_1)|(show (Addr.add _ _).block≠_;rw [add_block];exact hn129_1)|exact hn129_1) (.int .i64 0)).trans ak;replace ak:=(cell_far (p:=⟨ah,2,none⟩) (by first|(rw [add_block];exact hn129_2)|(show (Addr.add _ _).block≠_;rw [add_block];exact hn129_2)|exact hn129_2) (.int .i64 0)).trans ak;clear hn129_0 hn129_1 hn129_2;replace p129:=eq_true p129;replace q129:=eq_true q129;go_wp2_with (first|((with_reducible refine gate_callee (f:=71) rfl ?_);refine gl_ (some 34) Tryz.func71 #[.string (rdOf ByteArray.empty ac 1)] ?_;(with_reducible refine (strconv_Atoi.calls (rdOf ByteArray.empty ac 1) bl cR _ ?s1 A26.out).mono ?_);(case s1=>exact GWb.below HG.out (tb_ HB.out));rintro e dF ⟨N_,rfl,hb⟩;refine ⟨_,rfl,?_⟩;replace ai:=A_ (Kd.R_below (wR_ ai aa) hb);replace ay:=A_ (Kd.R_below (wR_ ay aa) hb);replace ab:=bb_ ab hb;replace aa:=bp_ #[.int .i64 (rd ag af),.int .i64 0,.int .i64 0] aa hb;replace HB:=bs_ HB hb;(try clear hb);(try simp only [errW_none,errW_some,Option.map_none,Option.map_some]);have dg:=am.out;have dh:=al.out;obtain ⟨a6,a7,a8,a9,bb,bc⟩:=cf3_ aa));go_meet
      case rel=>exact ⟨_,(bl),H',⟨by have:=HJ4.out;first|omega|exact Nat.le_refl _⟩,⟨Kd.R_mono (xR_ ai aa) (fun _ hk=>trivial)⟩,⟨tk_ ab.out⟩,⟨by refine bq_ ?_;refine blk_put (cs:=#[.int .i64 (rd ag af),.int .i64 0,.int .i64 0]) ?_ 1 _ rfl;exact tk_ aa.out⟩,⟨(tb_ HB.out)⟩⟩
     ·
      rw [if_neg c24] at H;have az:decide (1<(ac.length:Int))=false:=decide_eq_false c24;have bi:decide (1<ac.length)=false:=decide_eq_false (by omega);clear c24;(first|rw [az]|(simp only [i64_w,i32_w];rw [az])|skip);have H':=A_ H;clear H;go_wp2;go_meet
      case rel=>exact ⟨_,(0),H',⟨by have:=HJ4.out;first|omega|exact Nat.le_refl _⟩,⟨Kd.R_mono (xR_ ai aa) (fun _ hk=>trivial)⟩,⟨tk_ ab.out⟩,⟨by refine bq_ ?_;refine blk_put (cs:=#[.int .i64 (rd ag af),.int .i64 0,.int .i64 0]) ?_ 2 _ rfl;refine bq_ ?_;refine blk_put (cs:=#[.int .i64 (rd ag af),.int .i64 0,.int .i64 0]) ?_ 1 _ rfl;refine bq_ ?_;refine blk_put (cs:=#[.int .i64 0,.int .i64 0,.int .i64 0]) ?_ 0 _ rfl;exact tk_ aa.out⟩,⟨(tb_ HB.out)⟩⟩
    case rest =>
     clear HC17;(try clear c3);(try clear aJ);(try clear bk);(try clear c13);(try clear c15);(try clear bs);(try clear c16);(try clear bu);(try clear aY);(try clear aZ);(try clear a2);(try clear a3);(try clear a4);(try clear a5);(try clear ar);(try clear aX);(try clear p122);(try clear p127);(try clear q122);(try clear q127);obtain ⟨kq,ae,HA,HJ16,ai,ab,aa,HB⟩:=hcut
     cases kq with
     |zero=>exact absurd HA.out (by simp [impl_ReadDeed.j1])
     |succ kj16 =>
      have H:=HA.out;clear HA;simp only [impl_ReadDeed.j1] at H;by_cases c30:(ac.length:Int)>2
      ·
       rw [if_pos c30] at H;have bx:decide (2<(ac.length:Int))=true:=decide_eq_true c30;have bz:decide (2<ac.length)=true:=decide_eq_true (by omega);clear c30;replace H:=i0_ H;obtain ⟨c31,H⟩:=H;have di:decide (2<(ac.length:Int))=true:=decide_eq_true c31;have dj:decide (2<ac.length)=true:=decide_eq_true (by omega);clear c31;obtain ⟨⟨ax,bB⟩,A32,H⟩:=bnd_ H;(try dsimp only at H);obtain ⟨aA,A33,H⟩:=bnd_ H;(try dsimp only at H);by_cases c34:aA.toList=a0.toList
       ·
        rw [if_pos c34] at H;have bC:(aA.toList == a0.toList)=true:=beq_iff_eq.mpr c34;have bD:(aA.toList != a0.toList)=false:=bne_eq_false_iff_eq.mpr c34;clear c34;obtain ⟨rfl,rfl,rfl,rfl⟩:=sj4_ H;have p132:0≤(2:Int):=(by omega)
        have q132:2<(ac.length:Int):=od_;obtain ⟨ad132,e132,ao⟩:=Kd.at_string (Kd.R_reads' ai.out).2.2 2 p132 q132;obtain rfl:ad122=ad132:=(by injection e132)
        (try simp only [show (2:Int).toNat=2 from rfl,Nat.reduceMul,Nat.reduceEqDiff,Go.Addr.add,↓reduceIte] at ao);have bE:(2<ac.length)=True:=eq_true (by omega);(try rw [show ((2:Int)).toNat=2 from rfl] at ao);replace p132:=eq_true p132;replace q132:=eq_true q132;go_wp2_with (first|((with_reducible refine gate_callee (f:=71) rfl ?_);refine gl_ (some 45) Tryz.func71 #[.string (rdOf ByteArray.empty ac 2)] ?_;(with_reducible refine (strconv_Atoi.calls (rdOf ByteArray.empty ac 2) ax bB _ ?s1 A32.out).mono ?_);(case s1=>exact GWb.below HG.out (tb_ HB.out));rintro e dG ⟨N_,rfl,hb⟩;refine ⟨_,rfl,?_⟩;replace ai:=rb_ ai hb;replace ab:=bb_ ab hb;replace aa:=bb_ aa hb;replace HB:=bs_ HB hb;(try clear hb);(try simp only [errW_none,errW_some,Option.map_none,Option.map_some]);have dk:=am.out;have dl:=al.out;obtain ⟨bJ,bK,bL,bM,bN,bO⟩:=cf3_ aa)|((with_reducible refine gate_callee (f:=55) rfl ?_);refine gl_ (some 50) Tryz.func55 #[.agg #[.int .i64 (rd ag af),.int .i64 ae,.int .i64 ax]] ?_;(with_reducible refine (impl_DeedText.calls kj16 (rd ag af) ae ax aA _ ?s1 A33.out).mono ?_);(case s1=>exact GWb.below HG.out (tb_ HB.out));rintro e dH ⟨rfl,hb⟩;refine ⟨_,rfl,?_⟩;replace ai:=A_ (Kd.R_below (wR_ ai aa) hb);replace ab:=bb_ ab hb;replace aa:=bp_ #[.int .i64 (rd ag af),.int .i64 ae,.int .i64 ax] aa hb;replace HB:=bs_ HB hb;(try clear hb);obtain ⟨bP,bQ,bR,bS,bU,bV⟩:=cf3_ aa;obtain ⟨bW,bX,bZ,b0,b1,b2⟩:=cf3_ ab));refine bodyPost_ret (results_ct rfl _ _ au 43 #[.int .i64 (rd ag af),.int .i64 ae,.int .i64 ax] (0,0) _ rfl (ps_ ab.out) Tryz.underlying43 rfl (by kernel_rfl)) rfl ?_;exact ⟨tw_,(tb_ HB.out)⟩
       ·
        rw [if_neg c34] at H;have bC:(aA.toList == a0.toList)=false:=beq_eq_false_iff_ne.mpr c34;have bD:(aA.toList != a0.toList)=true:=bne_iff_ne.mpr c34;obtain ⟨rfl,rfl,rfl,rfl⟩:=sj4_ H;have p132:0≤(2:Int):=(by omega)
        have q132:2<(ac.length:Int):=od_;obtain ⟨ad132,e132,ao⟩:=Kd.at_string (Kd.R_reads' ai.out).2.2 2 p132 q132;obtain rfl:ad122=ad132:=(by injection e132)
        (try simp only [show (2:Int).toNat=2 from rfl,Nat.reduceMul,Nat.reduceEqDiff,Go.Addr.add,↓reduceIte] at ao);have bE:(2<ac.length)=True:=eq_true (by omega);(try rw [show ((2:Int)).toNat=2 from rfl] at ao);replace p132:=eq_true p132;replace q132:=eq_true q132;go_wp2_with (first|((with_reducible refine gate_callee (f:=71) rfl ?_);refine gl_ (some 45) Tryz.func71 #[.string (rdOf ByteArray.empty ac 2)] ?_;(with_reducible refine (strconv_Atoi.calls (rdOf ByteArray.empty ac 2) ax bB _ ?s1 A32.out).mono ?_);(case s1=>exact GWb.below HG.out (tb_ HB.out));rintro e dI ⟨N_,rfl,hb⟩;refine ⟨_,rfl,?_⟩;replace ai:=rb_ ai hb;replace ab:=bb_ ab hb;replace aa:=bb_ aa hb;replace HB:=bs_ HB hb;(try clear hb);(try simp only [errW_none,errW_some,Option.map_none,Option.map_some]);have dm:=am.out;have dn:=al.out;obtain ⟨b3,b4,b5,b6,b7,b8⟩:=cf3_ aa)|((with_reducible refine gate_callee (f:=55) rfl ?_);refine gl_ (some 50) Tryz.func55 #[.agg #[.int .i64 (rd ag af),.int .i64 ae,.int .i64 ax]] ?_;(with_reducible refine (impl_DeedText.calls kj16 (rd ag af) ae ax aA _ ?s1 A33.out).mono ?_);(case s1=>exact GWb.below HG.out (tb_ HB.out));rintro e dJ ⟨rfl,hb⟩;refine ⟨_,rfl,?_⟩;replace ai:=A_ (Kd.R_below (wR_ ai aa) hb);replace ab:=bb_ ab hb;replace aa:=bp_ #[.int .i64 (rd ag af),.int .i64 ae,.int .i64 ax] aa hb;replace HB:=bs_ HB hb;(try clear hb);obtain ⟨b9,ca,cb,cc,cd,ce⟩:=cf3_ ab));refine bodyPost_ret (results_ct rfl _ _ au 43 #[.int .i64 0,.int .i64 0,.int .i64 0] (0,0) _ rfl (ps_ ab.out) Tryz.underlying43 rfl (by kernel_rfl)) rfl ?_;exact ⟨tw_,(tb_ HB.out)⟩
      ·
       rw [if_neg c30] at H;have bx:decide (2<(ac.length:Int))=false:=decide_eq_false c30;have bz:decide (2<ac.length)=false:=decide_eq_false (by omega);clear c30;obtain ⟨aB,A46,H⟩:=bnd_ H;(try dsimp only at H);by_cases c47:aB.toList=a0.toList
       ·
        rw [if_pos c47] at H;have bF:(aB.toList == a0.toList)=true:=beq_iff_eq.mpr c47;have bG:(aB.toList != a0.toList)=false:=bne_eq_false_iff_eq.mpr c47;clear c47;obtain ⟨rfl,rfl,rfl,rfl⟩:=sj4_ H;have dp:=am.out;have dq:=al.out;obtain ⟨cf,cg,ch,ci,cj,ck⟩:=cf3_ aa;go_wp2_with (first|((with_reducible refine gate_callee (f:=55) rfl ?_);refine gl_ (some 50) Tryz.func55 #[.agg #[.int .i64 (rd ag af),.int .i64 ae,.int .i64 0]] ?_;(with_reducible refine (impl_DeedText.calls kj16 (rd ag af) ae 0 aB _ ?s1 A46.out).mono ?_);(case s1=>exact GWb.below HG.out (tb_ HB.out));rintro e dK ⟨rfl,hb⟩;refine ⟨_,rfl,?_⟩;replace ai:=rb_ ai hb;replace ab:=bb_ ab hb;replace aa:=bb_ aa hb;replace HB:=bs_ HB hb;(try clear hb);obtain ⟨cm,cn,co,cp,cq,cr⟩:=cf3_ aa;obtain ⟨ct,cu,cv,cw,cx,cy⟩:=cf3_ ab));refine bodyPost_ret (results_ct rfl _ _ au 43 #[.int .i64 (rd ag af),.int .i64 ae,.int .i64 0] (0,0) _ rfl (ps_ ab.out) Tryz.underlying43 rfl (by kernel_rfl)) rfl ?_;exact ⟨tw_,(tb_ HB.out)⟩
       ·
        rw [if_neg c47] at H;have bF:(aB.toList == a0.toList)=false:=beq_eq_false_iff_ne.mpr c47;have bG:(aB.toList != a0.toList)=true:=bne_iff_ne.mpr c47;obtain ⟨rfl,rfl,rfl,rfl⟩:=sj4_ H;have dr:=am.out;have ds:=al.out;obtain ⟨cz,cA,cB,cC,cD,cE⟩:=cf3_ aa;go_wp2_with (first|((with_reducible refine gate_callee (f:=55) rfl ?_);refine gl_ (some 50) Tryz.func55 #[.agg #[.int .i64 (rd ag af),.int .i64 ae,.int .i64 0]] ?_;(with_reducible refine (impl_DeedText.calls kj16 (rd ag af) ae 0 aB _ ?s1 A46.out).mono ?_);(case s1=>exact GWb.below HG.out (tb_ HB.out));rintro e dL ⟨rfl,hb⟩;refine ⟨_,rfl,?_⟩;replace ai:=rb_ ai hb;replace ab:=bb_ ab hb;replace aa:=bb_ aa hb;replace HB:=bs_ HB hb;(try clear hb);obtain ⟨cF,cG,cH,cI,cJ,cK⟩:=cf3_ ab));refine bodyPost_ret (results_ct rfl _ _ au 43 #[.int .i64 0,.int .i64 0,.int .i64 0] (0,0) _ rfl (ps_ ab.out) Tryz.underlying43 rfl (by kernel_rfl)) rfl ?_;exact ⟨tw_,(tb_ HB.out)⟩
def impl_ReadJournal.l0:Nat→ByteArray→List (S43)→Int→Option ((List (S43))×Int)
 |0,_,_,_=>none
 |k+1,x0,x4,x5=>if 0≤x5 then (if x5≤(x0.size:Int) then ((strings_Cut.f (x0.extract (x5:Int).toNat x0.size) (⟨#[10]⟩:ByteArray)).bind fun aN=>((impl_ReadDeed.f k aN.1).bind fun aH=>(if aN.2.2=true then (if aH.2.2.2=true then (if x4.length<5864062014805 then (impl_ReadJournal.l0 k x0 (x4++[(⟨aH.1,aH.2.1,aH.2.2.1⟩:S43)]) (wrap64 (x5+(wrap64 ((aN.1.size:Int)+1))))) else (none)) else (some (x4,x5))) else (some (x4,x5))))) else (none)) else (none)
def impl_ReadJournal.f (k:Nat) (a0:ByteArray):Option ((List (S43))×Int):=impl_ReadJournal.l0 k a0 (([]:List (S43))) 0
theorem impl_ReadJournal.z0 {P_:Prop} (h_:P_:=by go_wp2_with (first|((with_reducible refine gate_callee (f:=52) rfl ?_);refine ca_ (some 16) Tryz.func52 _ (strings_Cut.calls _ _ _ _ _ _ (GWb.below HG.out st.b) A_16.out) ?_;rintro e w_ ⟨rfl,hb⟩;refine ⟨_,rfl,?_⟩;replace hb:=hb.below;replace st:=st.ev hb;clear cl hb;have cl:=cl_ st)|((with_reducible refine gate_callee (f:=53) rfl ?_);refine ca_ (some 22) Tryz.func53 _ (impl_ReadDeed.calls k1 _ _ _ _ _ _ (GWb.below HG.out st.b) A_22.out) ?_;rintro e w_ ⟨rfl,hb⟩;refine ⟨_,rfl,?_⟩;replace st:=st.ev hb;clear cl hb;have cl:=cl_ st)|((with_reducible refine gate_dst (N:=9) rfl ?_);refine al_ st ?_;clear st cl;intro g9 w_ st;have cl:=cl_ st)|((with_reducible refine gate_store (p:=9) rfl ?_);refine so3_ st ?_;clear st cl;intro w_ st;have cl:=cl_ st)|((with_reducible refine gate_dst (N:=36) rfl ?_);refine ap_ aO aC (⟨bm,bn,bo⟩:S43) [.int .i64 bm,.int .i64 bn,.int .i64 bo] ((.agg #[(.int .i64 0),(.int .i64 0),(.int .i64 0)])) 24 st Tryz.underlying30 ?_ (hl:=by have:=cS.out;omega) (hp:=k43_mkM _ _ _ _);clear st cl;intro P36 q36 w_ st;have cl:=cl_ st));first|(go_roundg k1;(case measure=>have:=HK1.out;omega);(case rel=>exact ⟨((aC++[(⟨bm,bn,bo⟩:S43)])),(wrap64 (aE+(wrap64 ((cT.size:Int)+1)))),P36,q36,tx_,tx_,H',⟨by have:=HK1.out;omega⟩,st.en⟩))|(go_ret2;exact ⟨.slice aO aC.length bd,tw_,gtl_ st,st.b⟩)):P_:=h_
theorem impl_ReadJournal.calls (k:Nat) (a0:ByteArray) (r1:List (S43)) (r2:Int) (w:World) (hG:GWb w) (h:impl_ReadJournal.f k a0=some (r1,r2)) :
  Calls Tryz.prog 17 #[.string a0] w fun e w'=>∃v0_:Value,e=.returned (.tuple #[v0_,.int .i64 r2])∧Kd.R k43 43 w' w.heap.size (fun _=>True) v0_ r1∧Below w.heap.size w w':=by
 have HG:=A_ hG;clear hG;have hu43:=Tryz.underlying43;have st:=ST.nil w;have s0:=st;have cl:=cl_ st;have H:=h;clear h;unfold impl_ReadJournal.f at H;go_enter Tryz.func17,Tryz.ntmps17;have H':=A_ H;clear H;go_wp2_with (first|((with_reducible refine gate_dst (N:=11) rfl ?_);refine nwl_ k43 43 (([]:List (S43)):List (S43)) [] st ?_ (hrep:=by repeat (first|exact Reps.none _ _|refine Reps.c3 (k43_mkM _ _ _ _) ?_));clear st cl;intro B11_0 d11_0 w_ st;have cl:=cl_ st))
 go_loopg [4,5] k (fun kq v4 v5 w'=>∃(aC:List (S43)) (aE:Int) (aO:Option Addr) (bd:Nat),v4=.slice aO aC.length bd∧v5=.int .i64 aE∧Aside0 (impl_ReadJournal.l0 kq a0 aC aE=some (r1,r2))∧Aside0 (kq≤k)∧ST w [] [AR k43 43 w.heap.size (.slice aO aC.length bd) aC] w')
 case atStart=>exact ⟨(([]:List (S43))),(0),B11_0,d11_0,tx_,tx_,H',⟨Nat.le_refl _⟩,st.en⟩
 case round =>
  clear H' st cl;obtain ⟨aC,aE,aO,bd,rfl,rfl,HA,HK1,st⟩:=hrel;have cl:=cl_ st
  cases gk with
  |zero=>exact absurd HA.out (by simp [impl_ReadJournal.l0])
  |succ k1 =>
   have H:=HA.out;clear HA;simp only [impl_ReadJournal.l0] at H;replace H:=i0_ H;obtain ⟨c3,H⟩:=H;have aJ:=eq_true c3;have bk:decide (0≤aE)=true:=decide_eq_true c3;clear c3;replace H:=i0_ H;obtain ⟨c4,H⟩:=H;have bH:=eq_true c4;have dB:decide (aE≤(a0.size:Int))=true:=decide_eq_true c4;clear c4;obtain ⟨⟨cT,dC,cU⟩,A_16,H⟩:=bnd_ H;(try dsimp only at H);obtain ⟨⟨bm,bn,bo,cV⟩,A_22,H⟩:=bnd_ H;(try dsimp only at H);rcases bx_ cU with rfl|rfl
   ·
    replace H:=bt_ H;rcases bx_ cV with rfl|rfl
    ·
     replace H:=bt_ H;replace H:=il_ H;obtain ⟨cS,H⟩:=H;have H':=A_ H;clear H;exact impl_ReadJournal.z0
    ·
     replace H:=bf_ H;obtain ⟨rfl,rfl⟩:=sj2_ H;exact impl_ReadJournal.z0
   ·
    replace H:=bf_ H;obtain ⟨rfl,rfl⟩:=sj2_ H;exact impl_ReadJournal.z0
def impl_StartOk.l0:Nat→List Int→List Int→Int→Int→Option (Bool)
 |0,_,_,_,_=>none
 |k+1,x0,x5,x6,x7=>if x7<x6 then (if 0≤x7 then (if x7<(x5.length:Int) then (if (rd x5 x7)>10 then (some false) else (impl_StartOk.l0 k x0 x5 x6 (wrap64 (x7+1)))) else (none)) else (none)) else ((impl_UrnOk.f k x0).bind fun bp=>(some bp))
def impl_StartOk.f (k:Nat) (l0:List Int):Option (Bool):=impl_StartOk.l0 k l0 l0 (l0.length:Int) 0
theorem impl_StartOk.calls (k:Nat) (A0:Option Addr) (c0:Nat) (l0:List Int) (r:Bool) (w:World) (hr0:Kd.C (Kd.int .i64) w A0 l0.length l0) (hc0:l0.length≤c0) (h:impl_StartOk.f k l0=some r) :
  Calls Tryz.prog 101 #[.slice A0 l0.length c0] w fun e w'=>e=.returned (.bool r)∧Drawn0 w w':=by
 have HR0:=A_ hr0;have HC0:=A_ hc0;clear hr0 hc0;have H:(impl_StartOk.l0 k l0 l0 (l0.length:Int) 0)=some r:=h;clear h;have H':=A_ H;clear H;go_enter Tryz.func101,Tryz.ntmps101;go_wp2
 go_loopg [7] k (fun kq v7 w'=>∃(an:Int),v7=.int .i64 an∧Aside0 (impl_StartOk.l0 kq l0 l0 (l0.length:Int) an=some r)∧Aside0 (kq≤k)∧Drawn0 w w')
 case atStart=>exact ⟨(0),tx_,H',⟨Nat.le_refl _⟩,dz_⟩
 case round =>
  clear H';obtain ⟨an,rfl,HA,HK1,⟨m1,rfl⟩⟩:=hrel
  cases gk with
  |zero=>exact absurd HA.out (by simp [impl_StartOk.l0])
  |succ k1 =>
   have H:=HA.out;clear HA;simp only [impl_StartOk.l0] at H;replace H:=it_ H;rcases H with ⟨cW,H⟩|⟨cW,H⟩
   ·
    replace H:=in_ H;obtain ⟨aJ,H⟩:=H;replace H:=in_ H;obtain ⟨bH,H⟩:=H;replace H:=ig_ H;rcases H with ⟨bI,H⟩|⟨bI,H⟩
    ·
     obtain rfl:=Option.some.inj H;obtain ⟨p151,q151,ad151,e151,be⟩:=a2_ (Kd.at_int HR0.out an);cases e151;go_wp2;go_ret;exact ⟨tx_,dz_⟩
    ·
     have H':=A_ H;clear H;obtain ⟨p151,q151,ad151,e151,be⟩:=a2_ (Kd.at_int HR0.out an);cases e151;go_wp2
     go_roundg k1
     case measure=>have:=HK1.out;omega
     case rel=>exact ⟨(wrap64 (an+1)),tx_,H',⟨by have:=HK1.out;omega⟩,dz_⟩
   ·
    obtain ⟨bp,A6,H⟩:=bnd_ H;(try dsimp only at H);obtain rfl:=Option.some.inj H;go_wp2_with (first|((with_reducible refine gate_callee (f:=51) rfl ?_);refine gl_ (some 15) Tryz.func51 #[.slice A0 l0.length c0] ?_;(with_reducible refine (impl_UrnOk.calls k1 _ _ l0 bp _ ?s1 ?s2 A6.out).mono ?_);(case s1=>exact td_);(case s2=>exact HC0.out);rintro e w' ⟨rfl,⟨nd,rfl⟩⟩;refine ⟨_,rfl,?_⟩));go_ret;exact ⟨tx_,dz_⟩
def impl_WordOk.l0:Nat→Int→List Int→List Int→Int→Int→Option (Bool)
 |0,_,_,_,_,_=>none
 |k+1,x0,x1,x7,x8,x9=>if x9<x8 then (if 0≤x9 then (if x9<(x7.length:Int) then (if (rd x7 x9)<0 then (some false) else (if (rd x7 x9)≥x0 then (some false) else (impl_WordOk.l0 k x0 x1 x7 x8 (wrap64 (x9+1))))) else (none)) else (none)) else ((impl_coloursOk.f x0).bind fun bq=>(if bq=true then (some (decide ((x1.length:Int)≤6))) else (some false)))
def impl_WordOk.f (k:Nat) (a0:Int) (l1:List Int):Option (Bool):=impl_WordOk.l0 k a0 l1 l1 (l1.length:Int) 0
theorem impl_WordOk.calls (k:Nat) (a0:Int) (A1:Option Addr) (c1:Nat) (l1:List Int) (r:Bool) (w:World) (hr1:Kd.C (Kd.int .i64) w A1 l1.length l1) (hc1:l1.length≤c1) (h:impl_WordOk.f k a0 l1=some r) :
  Calls Tryz.prog 102 #[.int .i64 a0,.slice A1 l1.length c1] w fun e w'=>e=.returned (.bool r)∧Drawn0 w w':=by
 have HR1:=A_ hr1;have HC1:=A_ hc1;clear hr1 hc1;have H:(impl_WordOk.l0 k a0 l1 l1 (l1.length:Int) 0)=some r:=h;clear h;have H':=A_ H;clear H;go_enter Tryz.func102,Tryz.ntmps102;go_wp2
 go_loopg [9] k (fun kq v9 w'=>∃(aj:Int),v9=.int .i64 aj∧Aside0 (impl_WordOk.l0 kq a0 l1 l1 (l1.length:Int) aj=some r)∧Aside0 (kq≤k)∧Drawn0 w w')
 case atStart=>exact ⟨(0),tx_,H',⟨Nat.le_refl _⟩,dz_⟩
 case round =>
  clear H';obtain ⟨aj,rfl,HA,HK1,⟨m1,rfl⟩⟩:=hrel
  cases gk with
  |zero=>exact absurd HA.out (by simp [impl_WordOk.l0])
  |succ k1 =>
   have H:=HA.out;clear HA;simp only [impl_WordOk.l0] at H;replace H:=it_ H;rcases H with ⟨aJ,H⟩|⟨aJ,H⟩
   ·
    replace H:=in_ H;obtain ⟨bH,H⟩:=H;replace H:=in_ H;obtain ⟨bI,H⟩:=H;replace H:=it_ H;rcases H with ⟨cX,H⟩|⟨cX,H⟩
    ·
     obtain rfl:=Option.some.inj H;obtain ⟨p153,q153,ad153,e153,aI⟩:=a2_ (Kd.at_int HR1.out aj);cases e153;go_wp2;go_ret;exact ⟨tx_,dz_⟩
    ·
     replace H:=ih_ H;rcases H with ⟨cY,H⟩|⟨cY,H⟩
     ·
      obtain rfl:=Option.some.inj H;obtain ⟨p153,q153,ad153,e153,aI⟩:=a2_ (Kd.at_int HR1.out aj);cases e153;go_wp2;go_ret;exact ⟨tx_,dz_⟩
     ·
      have H':=A_ H;clear H;obtain ⟨p153,q153,ad153,e153,aI⟩:=a2_ (Kd.at_int HR1.out aj);cases e153;go_wp2
      go_roundg k1
      case measure=>have:=HK1.out;omega
      case rel=>exact ⟨(wrap64 (aj+1)),tx_,H',⟨by have:=HK1.out;omega⟩,dz_⟩
   ·
    obtain ⟨bq,A8,H⟩:=bnd_ H;(try dsimp only at H);by_cases c9:bq=true
    ·
     subst c9;replace H:(some (decide ((l1.length:Int)≤6)))=some r:=by rw [if_pos rfl] at H;exact H
     obtain rfl:=Option.some.inj H;go_wp2_with (first|((with_reducible refine gate_callee (f:=89) rfl ?_);refine gl_ (some 22) Tryz.func89 #[.int .i64 a0] ?_;(with_reducible refine (impl_coloursOk.calls a0 true _ A8.out).mono ?_);rintro e w' ⟨rfl,⟨nd,rfl⟩⟩;refine ⟨_,rfl,?_⟩));go_ret;exact ⟨tx_,dz_⟩
    ·
     replace c9:=Bool.eq_false_iff.mpr c9;subst c9;replace H:(some false)=some r:=by rw [if_neg (show ¬(false=true) by decide)] at H;exact H
     obtain rfl:=Option.some.inj H;go_wp2_with (first|((with_reducible refine gate_callee (f:=89) rfl ?_);refine gl_ (some 22) Tryz.func89 #[.int .i64 a0] ?_;(with_reducible refine (impl_coloursOk.calls a0 false _ A8.out).mono ?_);rintro e w' ⟨rfl,⟨nd,rfl⟩⟩;refine ⟨_,rfl,?_⟩));go_ret;exact ⟨tx_,dz_⟩
def slices_Clone_int_int.f (l0:List Int):Option (List Int):=if l0.length*8≤140737488355328 then some l0 else none
theorem slices_Clone_int_int.calls (A0:Option Addr) (c0:Nat) (l0:List Int) (r:List Int) (w:World) (hr0:Kd.C (Kd.int .i64) w A0 l0.length l0) (hc0:l0.length≤c0) (h:slices_Clone_int_int.f l0=some r) :
  Calls Tryz.prog 100 #[.slice A0 l0.length c0] w fun e w'=>∃v0_:Value,e=.returned (v0_)∧Kd.R (Kd.int .i64) 3 w' w.heap.size (fun _=>True) v0_ r∧Below w.heap.size w w':=by
 unfold slices_Clone_int_int.f at h;by_cases hl:l0.length*8≤140737488355328
 ·
  rw [if_pos hl] at h;obtain rfl:=Option.some.inj h;rcases Nat.eq_zero_or_pos l0.length with h0|h0
  ·
   obtain rfl:l0=[]:=List.eq_nil_of_length_eq_zero h0
   cases A0 with
   |none=>exact (Sh.Tryz.slices_Clone_int_nil 0 c0 w).mono fun e w' ⟨he,hw⟩=>⟨.slice none 0 0,he,Kd.R_nil _ _ _ _ _,hw ▸ Below.refl _ _⟩
   |some ad=>exact (Sh.Tryz.slices_Clone_int_zero ad c0 w).mono fun e w' ⟨v,he,ho,_,hb⟩=>⟨v,he,Kd.R_of_own (xs:=[]) ho (fun _ _=>trivial),hb⟩
  ·
   obtain ⟨ad,rfl,hc⟩:=hr0.2.2 h0
   have hcell:∀j,j<l0.length→w.cell? (ad.add j)=some (.int .i64 (l0.getD j 0)):=by
    intro j hj;obtain ⟨c,hc1,hc2,hc3⟩:=hc j _ (List.getElem?_eq_getElem hj);have e1:c=[.int .i64 l0[j]]:=hc2;have:=hc3 0 _ (by rw [e1];rfl);rw [List.getD_eq_getElem?_getD,List.getElem?_eq_getElem hj];simpa [Kd.int,Kd.scalar] using this
   have hs:=hcell 0 h0
   have hsp:ad.spot=none:=by
    cases hq:ad.spot with
    |none=>rfl
    |some q=>simp [World.cell?,Addr.add,hq] at hs;split at hs<;>simp at hs
   obtain ⟨b,o,sp⟩:=ad;simp only at hsp;subst hsp;refine (Sh.Tryz.slices_Clone_int b o l0.length c0 l0 w (Nat.le_refl _) hl (fun j hj=>by have:=hcell j hj;unfold Addr.add at this;split at this<;>simp_all)).mono fun e w' ⟨v,he,ho,_,hb⟩=>⟨v,he,Kd.R_of_own (by rw [List.take_length] at ho;exact ho) (fun _ _=>trivial),hb⟩
 ·
  rw [if_neg hl] at h;exact absurd h (by simp)
end Go.Proofs.YtopboabeigakoaaGreatDoor.MFnStoreNever
