/- Walks for FnStoreSameWay: a call returns what the plain function tells. Conditions: in each statement. -/
import Derived.Test.YtdllgaelpanblaaGreatDoorMFnStoreSameWayx1
import Derived.Test.YtdllgaelpanblaaGreatDoorMFnStoreSameWayx6
namespace Go.Proofs.YtdllgaelpanblaaGreatDoor.MFnStoreSameWay
open Go.RowKit Go.Proofs.YtdllgaelpanblaaGreatDoorW.PrintWords Go.Proofs.YtdllgaelpanblaaGreatDoorW.PrintLast Go.Proofs.YtdllgaelpanblaaGreatDoorW.PrintMore
set_option linter.unusedVariables false
set_option linter.unusedSimpArgs false
set_option maxHeartbeats 8000000
set_option maxRecDepth 100000
attribute [local go_sem high] eqA42
def spec_DeedText.j0:Nat→Bool→Int→Int→Int→Option (ByteArray)
 |0,_,_,_,_=>none
 |k+1,x12,ag,ah,ai=>if x12=true then (some (⟨#[]⟩:ByteArray)) else (if (ag == 0)=true then ((spec_l15Step.f k ah).bind fun af=>(if 4+af.size≤9223372036854775807 then (if ((⟨#[112,117,116,32]⟩:ByteArray)++af).size+1≤9223372036854775807 then ((spec_l15Step.f k ai).bind fun aB=>(if (((⟨#[112,117,116,32]⟩:ByteArray)++af)++(⟨#[32]⟩:ByteArray)).size+aB.size≤9223372036854775807 then (some ((((⟨#[112,117,116,32]⟩:ByteArray)++af)++(⟨#[32]⟩:ByteArray))++aB)) else (none))) else (none)) else (none))) else (if (ag == 1 && (ai == 0))=true then ((spec_l15Step.f k ah).bind fun aL=>(if 5+aL.size≤9223372036854775807 then (some ((⟨#[115,116,101,112,32]⟩:ByteArray)++aL)) else (none))) else (if (ag == 2 && (ai == 0))=true then ((spec_l15Step.f k ah).bind fun aM=>(if 5+aM.size≤9223372036854775807 then (some ((⟨#[100,114,97,119,32]⟩:ByteArray)++aM)) else (none))) else (if (ag == 3 && (ah == 0 && (ai == 0)))=true then (some (⟨#[97,103,97,105,110]⟩:ByteArray)) else (if (ag == 4 && (ah == 0 && (ai == 0)))=true then (some (⟨#[98,97,99,107]⟩:ByteArray)) else (some (⟨#[]⟩:ByteArray)))))))
def spec_DeedText.f (k:Nat) (a0_0:Int) (a0_1:Int) (a0_2:Int):Option (ByteArray):=(spec_l1In.f a0_1 (-99) 99).bind fun aZ=>(if aZ=true then ((spec_l1In.f a0_2 (-99) 99).bind fun a4=>(spec_DeedText.j0 k (!a4) a0_0 a0_1 a0_2)) else (spec_DeedText.j0 k true a0_0 a0_1 a0_2))
def spec_DeedText.T5:Bool×List (List Nat×List Nat):=(true,[([],[]),([0],[0]),([1],[1]),([2],[2]),([3],[3]),([],[]),([5],[5]),([6,2],[6]),([4,7],[4,7]),([8,7,0,1,2,3,4,5,6,7,8],[8])])
def spec_DeedText.B5:List Nat:=[0,1,3,7,15,0,32,103,255,511]
theorem spec_DeedText.tab5:rtab .any (opsOf Tryz.f65 5)=spec_DeedText.T5:=by kernel_rfl
theorem spec_DeedText.bits5:waitsOk spec_DeedText.T5.2 spec_DeedText.B5=true:=by kernel_rfl
theorem spec_DeedText.z0 {P_:Prop} (h_:P_:=by go_wp2_with (first|((with_reducible refine gc_ 45 ?_);refine ca_ (some 5) Tryz.func45 _ (spec_l1In.calls _ _ _ _ _ A_5.out) ?_;rintro e w_ ⟨rfl,hb⟩;refine ⟨_,rfl,?_⟩;replace hb:=hb.below;replace st:=st.ev hb;clear cl hb;have cl:=cl_ st)|((with_reducible refine gc_ 45 ?_);refine gate_guard (by rfl) ?_;dsimp only;refine ca_ (some 10) Tryz.func45 _ (spec_l1In.calls _ _ _ _ _ A_10.out) ?_;rintro e w_ ⟨rfl,hb⟩;refine ⟨_,rfl,?_⟩;replace hb:=hb.below;replace st:=st.ev hb;clear cl hb;have cl:=cl_ st));first|(go_meet;(case rel=>exact ⟨_,(!a4),tx_,H',⟨by first|omega|exact Nat.le_refl _⟩,st.en⟩))|(go_meet;(case rel=>exact ⟨_,(true),tx_,H',⟨by first|omega|exact Nat.le_refl _⟩,st.en⟩))):P_:=h_
theorem spec_DeedText.z1 {P_:Prop} (h_:P_:=by (try go_wp2_with (first|((with_reducible refine gc_ 84 ?_);refine ca_ (some 37) Tryz.func84 _ (spec_l15Step.calls kj2 _ _ _ A_37.out) ?_;rintro e w_ ⟨rfl,hb⟩;refine ⟨_,rfl,?_⟩;replace st:=st.ev hb;clear cl hb;have cl:=cl_ st)|((with_reducible refine gc_ 84 ?_);refine ca_ (some 46) Tryz.func84 _ (spec_l15Step.calls kj2 _ _ _ A_46.out) ?_;rintro e w_ ⟨rfl,hb⟩;refine ⟨_,rfl,?_⟩;replace st:=st.ev hb;clear cl hb;have cl:=cl_ st)));(all_goals (try (refine rg_ st [] ?_;clear st cl;intro w_ st hs;have cl:=cl_ st;refine with_tabW spec_DeedText.tab5 spec_DeedText.bits5 (fun HT_ HW_=>?_);refine pv_ 0 ?_;refine pv_ 5 ?_;refine tu_ 1 ?_;refine tu_ 6 ?_;refine ov_ 2 (fun K hK=>?_);refine ca2_ (some 23) Tryz.func84 _ (spec_l15Step.calls kj2 _ _ _ A_23.out) ?_;rintro e w_ ⟨rfl,hb⟩;refine ⟨_,rfl,?_⟩;replace st:=st.ev hb;clear cl hb;have cl:=cl_ st;refine hK.out _ _ st.en (fun hs=>?_);clear hK K;refine nr_ 23 ?_;refine pv_ 3 ?_;refine pv_ 4 ?_;refine ov_ 7 (fun K hK=>?_);refine ca2_ (some 28) Tryz.func84 _ (spec_l15Step.calls kj2 _ _ _ A_28.out) ?_;rintro e w_ ⟨rfl,hb⟩;refine ⟨_,rfl,?_⟩;replace st:=st.ev hb;clear cl hb;have cl:=cl_ st;refine hK.out _ _ st.en (fun hs=>?_);clear hK K;refine nr_ 28 ?_;refine pv_ 8 ?_;refine pv_ 9 ?_;refine done_ (done_of HT_.out (by kernel_rfl)) ?_;all_goals (try go_wp2_with (first|((with_reducible refine gc_ 84 ?_);refine ca_ (some 37) Tryz.func84 _ (spec_l15Step.calls kj2 _ _ _ A_37.out) ?_;rintro e w_ ⟨rfl,hb⟩;refine ⟨_,rfl,?_⟩;replace st:=st.ev hb;clear cl hb;have cl:=cl_ st)|((with_reducible refine gc_ 84 ?_);refine ca_ (some 46) Tryz.func84 _ (spec_l15Step.calls kj2 _ _ _ A_46.out) ?_;rintro e w_ ⟨rfl,hb⟩;refine ⟨_,rfl,?_⟩;replace st:=st.ev hb;clear cl hb;have cl:=cl_ st))))));(go_ret;exact ⟨tw_,st.b⟩)):P_:=h_
theorem spec_DeedText.calls (k:Nat) (a0_0:Int) (a0_1:Int) (a0_2:Int) (r:ByteArray) (w:World) (h:spec_DeedText.f k a0_0 a0_1 a0_2=some r) :
  Calls Tryz.prog 65 #[.agg #[.int .i64 a0_0,.int .i64 a0_1,.int .i64 a0_2]] w fun e w'=>e=.returned (.string r)∧Below w.heap.size w w':=by
 have hu42:=Tryz.underlying42;have st:=ST.nil w;have s0:=st;have cl:=cl_ st;have H:=h;clear h;unfold spec_DeedText.f at H;go_enter Tryz.func65,Tryz.ntmps65;have HC3:=A_ H;clear H
 go_upto_region 1 with (first|((with_reducible refine gd_ 1 ?_);refine al_ st ?_;clear st cl;intro g1 w_ st;have cl:=cl_ st))
 (try simp only [Act.put,sa_,sb_,sc_])
 go_cut [12] (fun b0 wc=>∃(kq:Nat) (aG:Bool),b0=.bool aG∧Aside0 (spec_DeedText.j0 kq aG a0_0 a0_1 a0_2=some r)∧Aside0 (kq≤k)∧ST w [] [Bx g1 #[.int .i64 a0_0,.int .i64 a0_1,.int .i64 a0_2] 42] wc)
 case first =>
  have H:=HC3.out;clear HC3;obtain ⟨aZ,A_5,H⟩:=bnd_ H;rcases bx_ aZ with rfl|rfl
  ·
   replace H:=bt_ H;obtain ⟨a4,A_10,H⟩:=bnd_ H;have H':=A_ H;clear H;exact spec_DeedText.z0
  ·
   replace H:=bf_ H;have H':=A_ H;clear H;exact spec_DeedText.z0
 case rest =>
  clear HC3 st cl;obtain ⟨kq,aG,rfl,HA,HJ2,st⟩:=hcut;have cl:=cl_ st
  cases kq with
  |zero=>exact absurd HA.out (by simp [spec_DeedText.j0])
  |succ kj2 =>
   have H:=HA.out;clear HA;simp only [spec_DeedText.j0] at H;rcases bx_ aG with rfl|rfl
   ·
    replace H:=bt_ H;obtain rfl:=Option.some.inj H;exact spec_DeedText.z1
   ·
    replace H:=bf_ H;by_cases c4:(a0_0 == 0)=true
    ·
     rw [if_pos c4] at H;have ax:(a0_0 == 0)=true:=c4;(try (have a5:decide (a0_0=0)=true:=by simpa using c4));(try (have bK:(a0_0 == 0)=true:=by simpa using c4));clear c4;obtain ⟨af,A_23,H⟩:=bnd_ H;replace H:=i0_ H;obtain ⟨c5,H⟩:=H;have bL:=eq_true c5;have bM:decide (4+af.size≤9223372036854775807)=true:=decide_eq_true c5;(try have b1:(9223372036854775807<4+af.size)=False:=eq_false (Nat.not_lt.2 c5));replace H:=i0_ H;obtain ⟨c6,H⟩:=H;have bj:=eq_true c6;have bk:decide (((⟨#[112,117,116,32]⟩:ByteArray)++af).size+1≤9223372036854775807)=true:=decide_eq_true c6;(try have b2:(9223372036854775807<((⟨#[112,117,116,32]⟩:ByteArray)++af).size+1)=False:=eq_false (Nat.not_lt.2 c6));(try have b3:(9223372036854775807<4+af.size+1)=False:=eq_false (by have h:=c6;simp only [ByteArray.size_append] at h;simp only [ByteArray.size] at h ⊢;simp at h ⊢;omega));obtain ⟨aB,A_28,H⟩:=bnd_ H;replace H:=i0_ H;obtain ⟨c7,H⟩:=H;have bN:=eq_true c7;have bO:decide ((((⟨#[112,117,116,32]⟩:ByteArray)++af)++(⟨#[32]⟩:ByteArray)).size+aB.size≤9223372036854775807)=true:=decide_eq_true c7;(try have b4:(9223372036854775807<(((⟨#[112,117,116,32]⟩:ByteArray)++af)++(⟨#[32]⟩:ByteArray)).size+aB.size)=False:=eq_false (Nat.not_lt.2 c7));(try have b5:(9223372036854775807<4+af.size+1+aB.size)=False:=eq_false (by have h:=c7;simp only [ByteArray.size_append] at h;simp only [ByteArray.size] at h ⊢;simp at h ⊢;omega));obtain rfl:=Option.some.inj H;exact spec_DeedText.z1
    ·
     rw [if_neg c4] at H;have ax:(a0_0 == 0)=false:=by simpa using c4
     (try (have a5:decide (a0_0=0)=false:=by simpa using c4));(try (have bK:(a0_0 == 0)=false:=by simpa using c4));(try (have b6:¬(a0_0=0):=by simpa using c4));clear c4;by_cases c8:(a0_0 == 1 && (a0_2 == 0))=true
     ·
      rw [if_pos c8] at H;have bl:(a0_0 == 1 && (a0_2 == 0))=true:=c8;(try (have bm:decide (a0_0=1 && (a0_2 == 0))=true:=by simpa using c8));(try (have bP:(a0_0 == 1 && (a0_2 == 0))=true:=by simpa using c8));clear c8;obtain ⟨aL,A_37,H⟩:=bnd_ H;replace H:=i0_ H;obtain ⟨c9,H⟩:=H;have aC:=eq_true c9;have a6:decide (5+aL.size≤9223372036854775807)=true:=decide_eq_true c9;(try have b7:(9223372036854775807<5+aL.size)=False:=eq_false (Nat.not_lt.2 c9));obtain rfl:=Option.some.inj H;exact spec_DeedText.z1
     ·
      rw [if_neg c8] at H;have bl:(a0_0 == 1 && (a0_2 == 0))=false:=by simpa using c8
      (try (have bm:decide (a0_0=1 && (a0_2 == 0))=false:=by simpa using c8));(try (have bP:(a0_0 == 1 && (a0_2 == 0))=false:=by simpa using c8));(try (have b8:¬(a0_0=1 && (a0_2 == 0)):=by simpa using c8));clear c8;by_cases c10:(a0_0 == 2 && (a0_2 == 0))=true
      ·
       rw [if_pos c10] at H;have aX:(a0_0 == 2 && (a0_2 == 0))=true:=c10;(try (have aY:decide (a0_0=2 && (a0_2 == 0))=true:=by simpa using c10));(try (have bn:(a0_0 == 2 && (a0_2 == 0))=true:=by simpa using c10));clear c10;obtain ⟨aM,A_46,H⟩:=bnd_ H;replace H:=i0_ H;obtain ⟨c11,H⟩:=H;have bo:=eq_true c11;have bp:decide (5+aM.size≤9223372036854775807)=true:=decide_eq_true c11;(try have bU:(9223372036854775807<5+aM.size)=False:=eq_false (Nat.not_lt.2 c11));obtain rfl:=Option.some.inj H;exact spec_DeedText.z1
      ·
       rw [if_neg c10] at H;have aX:(a0_0 == 2 && (a0_2 == 0))=false:=by simpa using c10
       (try (have aY:decide (a0_0=2 && (a0_2 == 0))=false:=by simpa using c10));(try (have bn:(a0_0 == 2 && (a0_2 == 0))=false:=by simpa using c10));(try (have bV:¬(a0_0=2 && (a0_2 == 0)):=by simpa using c10));clear c10;by_cases c12:(a0_0 == 3 && (a0_1 == 0 && (a0_2 == 0)))=true
       ·
        rw [if_pos c12] at H;have bq:(a0_0 == 3 && (a0_1 == 0 && (a0_2 == 0)))=true:=c12;(try (have br:decide (a0_0=3 && (a0_1 == 0 && (a0_2 == 0)))=true:=by simpa using c12));(try (have bs:(a0_0 == 3 && (a0_1 == 0 && (a0_2 == 0)))=true:=by simpa using c12));clear c12;obtain rfl:=Option.some.inj H;exact spec_DeedText.z1
       ·
        rw [if_neg c12] at H;have bq:(a0_0 == 3 && (a0_1 == 0 && (a0_2 == 0)))=false:=by simpa using c12
        (try (have br:decide (a0_0=3 && (a0_1 == 0 && (a0_2 == 0)))=false:=by simpa using c12));(try (have bs:(a0_0 == 3 && (a0_1 == 0 && (a0_2 == 0)))=false:=by simpa using c12));(try (have bW:¬(a0_0=3 && (a0_1 == 0 && (a0_2 == 0))):=by simpa using c12));clear c12;by_cases c13:(a0_0 == 4 && (a0_1 == 0 && (a0_2 == 0)))=true
        ·
         rw [if_pos c13] at H;have bu:(a0_0 == 4 && (a0_1 == 0 && (a0_2 == 0)))=true:=c13;(try (have bv:decide (a0_0=4 && (a0_1 == 0 && (a0_2 == 0)))=true:=by simpa using c13));(try (have bw:(a0_0 == 4 && (a0_1 == 0 && (a0_2 == 0)))=true:=by simpa using c13));clear c13;obtain rfl:=Option.some.inj H;exact spec_DeedText.z1
        ·
         rw [if_neg c13] at H;have bu:(a0_0 == 4 && (a0_1 == 0 && (a0_2 == 0)))=false:=by simpa using c13
         (try (have bv:decide (a0_0=4 && (a0_1 == 0 && (a0_2 == 0)))=false:=by simpa using c13));(try (have bw:(a0_0 == 4 && (a0_1 == 0 && (a0_2 == 0)))=false:=by simpa using c13));(try (have bX:¬(a0_0=4 && (a0_1 == 0 && (a0_2 == 0))):=by simpa using c13));clear c13;obtain rfl:=Option.some.inj H;exact spec_DeedText.z1
mutual
def spec_ReadDeed.j0:Nat→ByteArray→List ByteArray→List (S42)→Option (Int×Int×Int×Bool)
 |0,_,_,_=>none
 |k+1,x0,x4,x5=>if (x4.length:Int)=3 then (if 1<(x4.length:Int) then ((spec_l15Signed.f k (rdOf ByteArray.empty x4 1)).bind fun aD=>(if 2<(x4.length:Int) then ((spec_l15Signed.f k (rdOf ByteArray.empty x4 2)).bind fun aE=>(if x5.length<5864062014805 then (spec_ReadDeed.j1 k x0 (x5++[(⟨0,aD,aE⟩:S42)])) else (none))) else (none))) else (none)) else (spec_ReadDeed.j1 k x0 x5)
def spec_ReadDeed.j1:Nat→ByteArray→List (S42)→Option (Int×Int×Int×Bool)
 |0,_,_=>none
 |k+1,x0,x5=>spec_ReadDeed.l0 k x0 x5 0
def spec_ReadDeed.l0:Nat→ByteArray→List (S42)→Int→Option (Int×Int×Int×Bool)
 |0,_,_,_=>none
 |k+1,x0,x5,x7=>if x7<(x5.length:Int) then (if x0.toList=([]:List UInt8) then (spec_ReadDeed.l0 k x0 x5 (wrap64 (x7+1))) else (if 0≤x7 then ((spec_DeedText.f k ((rd_T42 x5 x7).f0) ((rd_T42 x5 x7).f1) ((rd_T42 x5 x7).f2)).bind fun aF=>(if aF.toList=x0.toList then (some ((rd_T42 x5 x7).f0,(rd_T42 x5 x7).f1,(rd_T42 x5 x7).f2,true)) else (spec_ReadDeed.l0 k x0 x5 (wrap64 (x7+1))))) else (none))) else (some (0,0,0,false))
end
def spec_ReadDeed.f (k:Nat) (a0:ByteArray):Option (Int×Int×Int×Bool):=(spec_l1Cut.f k a0 32).bind fun aa=>((some (([(⟨3,0,0⟩:S42),(⟨4,0,0⟩:S42)]:List (S42)):List (S42))).bind fun a7=>(if (aa.length:Int)=2 then (if 1<(aa.length:Int) then ((spec_l15Signed.f k (rdOf ByteArray.empty aa 1)).bind fun ak=>((some (([(⟨1,ak,0⟩:S42),(⟨2,ak,0⟩:S42)]:List (S42)):List (S42))).bind fun bx=>(if a7.length+bx.length<5864062014805 then (spec_ReadDeed.j0 k a0 aa (a7++bx)) else (none)))) else (none)) else (spec_ReadDeed.j0 k a0 aa a7)))
def spec_ReadDeed.T7:Bool×List (List Nat×List Nat):=(true,[([],[]),([],[]),([1],[1]),([2],[2]),([3],[3]),([],[]),([5],[5]),([6],[6]),([7,4],[7]),([4,8],[4,8]),([9],[9]),([0,10,8],[0,10]),([11,11,0,1,2,3,4,5,6,7,8,9,10,11],[0,11])])
def spec_ReadDeed.B7:List Nat:=[0,0,2,6,14,0,32,96,254,510,1022,2047,4095]
theorem spec_ReadDeed.tab7:rtab .any (opsOf Tryz.f46 7)=spec_ReadDeed.T7:=by kernel_rfl
theorem spec_ReadDeed.bits7:waitsOk spec_ReadDeed.T7.2 spec_ReadDeed.B7=true:=by kernel_rfl
theorem spec_ReadDeed.z0 {P_:Prop} (h_:P_:=by go_wp2_with (first|((with_reducible refine gd_ 17 ?_);(try clear ix_);obtain ⟨p_,q_,ad_,e_,x0⟩:=a2_ (Kd.at_string (gC_ st Kd.string B9_0 aa) 1);have ix_:=ix1_ Tryz.underlying95 e_ p_ q_ (c:=d9_0);clear e_;(try simp only [Addr.add,Int.reduceToNat,Nat.reduceMul,Nat.reduceEqDiff,↓reduceIte] at ix_ x0);go_step)|((with_reducible refine gc_ 67 ?_);refine ca_ (some 19) Tryz.func67 _ (spec_l15Signed.calls k _ _ _ A_19.out) ?_;rintro e w_ ⟨rfl,hb⟩;refine ⟨_,rfl,?_⟩;replace hb:=hb.below;replace st:=st.ev hb;clear cl hb;have cl:=cl_ st)|((with_reducible refine gd_ 25 ?_);refine nw_ k42 42 (([(⟨1,ak,0⟩:S42),(⟨2,ak,0⟩:S42)]:List (S42)):List (S42)) [.int .i64 1,.int .i64 ak,.int .i64 0,.int .i64 2,.int .i64 ak,.int .i64 0] st ?_ (hrep:=by repeat (first|exact Reps.none _ _|refine Reps.c3 (k42_mkM _ _ _ _) ?_));clear st cl;intro B25_0 d25_0 w_ st;have cl:=cl_ st)|((with_reducible refine gd_ 26 ?_);refine apr_ B12_0 (([(⟨3,0,0⟩:S42),(⟨4,0,0⟩:S42)]:List (S42))) (([(⟨1,ak,0⟩:S42),(⟨2,ak,0⟩:S42)]:List (S42))) B25_0 d25_0 ((.agg #[(.int .i64 0),(.int .i64 0),(.int .i64 0)])) 24 st Tryz.underlying35 (gt_ st) ?_ (hl:=by have:=bQ.out;omega) (hKM:=fun x _ h=>k42_open h ▸ k42_mkM _ _ _ x);clear st cl;intro P26 q26 w_ st;have cl:=cl_ st));first|(go_meet;(case rel=>exact ⟨_,(((([(⟨3,0,0⟩:S42),(⟨4,0,0⟩:S42)]:List (S42)))++(([(⟨1,ak,0⟩:S42),(⟨2,ak,0⟩:S42)]:List (S42))))),P26,q26,tx_,H',⟨by first|omega|exact Nat.le_refl _⟩,st.en⟩))|(go_meet;(case rel=>exact ⟨_,((([(⟨3,0,0⟩:S42),(⟨4,0,0⟩:S42)]:List (S42)))),B12_0,d12_0,tx_,H',⟨by first|omega|exact Nat.le_refl _⟩,st.en⟩))):P_:=h_
theorem spec_ReadDeed.z1 {P_:Prop} (h_:P_:=by go_wp2_with (first|((with_reducible refine gd_ 53 ?_);(try clear ix_);obtain ⟨p_,q_,ad_,e_,x0,x1,x2⟩:=a2_ (at_T42 (gC_ st k42 aN al) ap);have ix_:=ix3_ Tryz.underlying35 e_ p_ q_ (c:=aO);clear e_;go_step)|((with_reducible refine gc_ 65 ?_);refine gate_guard (by rfl) ?_;dsimp only;refine ca_ (some 55) Tryz.func65 _ (spec_DeedText.calls k3 _ _ _ _ _ A_55.out) ?_;rintro e w_ ⟨rfl,hb⟩;refine ⟨_,rfl,?_⟩;replace st:=st.ev hb;clear cl hb;have cl:=cl_ st)|((with_reducible refine gd_ 61 ?_);(try clear ix_);obtain ⟨p_,q_,ad_,e_,x0,x1,x2⟩:=a2_ (at_T42 (gC_ st k42 aN al) ap);have ix_:=ix3_ Tryz.underlying35 e_ p_ q_ (c:=aO);clear e_;go_step)|((with_reducible refine gs_ 2 ?_);refine so3_ st ?_;clear st cl;intro w_ st;have cl:=cl_ st));first|(go_roundg k3;(case measure=>have:=HJ2.out;have:=HJ7.out;have:=HK3.out;omega);(case rel=>exact ⟨(wrap64 (ap+1)),(am),(an),(ao),tx_,H',⟨by have:=HJ2.out;have:=HJ7.out;have:=HK3.out;omega⟩,st.en⟩))|(refine bodyPost_ret (rct_ st Tryz.underlying42) rfl ?_;exact ⟨tw_,st.b⟩)):P_:=h_
theorem spec_ReadDeed.calls (k:Nat) (a0:ByteArray) (r1:Int) (r2:Int) (r3:Int) (r4:Bool) (w:World) (h:spec_ReadDeed.f k a0=some (r1,r2,r3,r4)) :
  Calls Tryz.prog 46 #[.string a0] w fun e w'=>e=.returned (.tuple #[.agg #[.int .i64 r1,.int .i64 r2,.int .i64 r3],.bool r4])∧Below w.heap.size w w':=by
 have hu42:=Tryz.underlying42;have st:=ST.nil w;have s0:=st;have cl:=cl_ st;have H:=h;clear h;unfold spec_ReadDeed.f at H;go_enter Tryz.func46,Tryz.ntmps46;obtain ⟨aa,A_9,H⟩:=bnd_ H;replace H:=sm_ H;(try dsimp only at H);have HC3:=A_ H;clear H
 go_upto_if 15 with (first|((with_reducible refine gd_ 2 ?_);refine al_ st ?_;clear st cl;intro g2 w_ st;have cl:=cl_ st)|((with_reducible refine gc_ 66 ?_);refine ca_ (some 9) Tryz.func66 _ (spec_l1Cut.calls k _ _ _ _ A_9.out) ?_;rintro e w_ ⟨v0,rfl,h0,hb⟩;refine ⟨_,rfl,?_⟩;obtain ⟨B9_0,d9_0,rfl⟩:=Kd.R_slice h0;replace st:=st.p1 hb (st.mr h0);clear cl hb h0;have cl:=cl_ st)|((with_reducible refine gd_ 12 ?_);refine nwl_ k42 42 (([(⟨3,0,0⟩:S42),(⟨4,0,0⟩:S42)]:List (S42)):List (S42)) [.int .i64 3,.int .i64 0,.int .i64 0,.int .i64 4,.int .i64 0,.int .i64 0] st ?_ (hrep:=by repeat (first|exact Reps.none _ _|refine Reps.c3 (k42_mkM _ _ _ _) ?_));clear st cl;intro B12_0 d12_0 w_ st;have cl:=cl_ st))
 (try simp only [Act.put,sa_,sb_,sc_])
 go_cut [5] (fun v5 wc=>∃(kq:Nat) (aq:List (S42)) (aP:Option Addr) (aW:Nat),v5=.slice aP aq.length aW∧Aside0 (spec_ReadDeed.j0 kq a0 aa aq=some (r1,r2,r3,r4))∧Aside0 (kq≤k)∧ST w [AR Kd.string 9 w.heap.size (.slice B9_0 aa.length d9_0) aa] [AR k42 42 w.heap.size (.slice aP aq.length aW) aq,Bx g2 #[.int .i64 0,.int .i64 0,.int .i64 0] 42] wc)
 case first =>
  have H:=HC3.out;clear HC3;by_cases c4:(aa.length:Int)=2
  ·
   rw [if_pos c4] at H;have ax:((aa.length:Int) == 2)=true:=beq_iff_eq.mpr c4;have a5:((aa.length:Int) != 2)=false:=bne_eq_false_iff_eq.mpr c4;clear c4;(first|rw [ax]|(simp only [i64_w,i32_w];rw [ax])|skip);replace H:=i0_ H;obtain ⟨c5,H⟩:=H;have bL:decide (1<(aa.length:Int))=true:=decide_eq_true c5;have bM:decide (1<aa.length)=true:=decide_eq_true (by omega);clear c5;obtain ⟨ak,A_19,H⟩:=bnd_ H;replace H:=sm_ H;(try dsimp only at H);replace H:=il_ H;obtain ⟨bQ,H⟩:=H;have H':=A_ H;clear H;exact spec_ReadDeed.z0
  ·
   rw [if_neg c4] at H;have ax:((aa.length:Int) == 2)=false:=beq_eq_false_iff_ne.mpr c4;have a5:((aa.length:Int) != 2)=true:=bne_iff_ne.mpr c4;(first|rw [ax]|(simp only [i64_w,i32_w];rw [ax])|skip);have H':=A_ H;clear H;exact spec_ReadDeed.z0
 case rest =>
  clear HC3 st cl;obtain ⟨kq,aq,aP,aW,rfl,HA,HJ2,st⟩:=hcut;have cl:=cl_ st
  cases kq with
  |zero=>exact absurd HA.out (by simp [spec_ReadDeed.j0])
  |succ kj2 =>
   have H:=HA.out;clear HA;simp only [spec_ReadDeed.j0] at H;have HC8:=A_ H;clear H
   go_upto_if 29 with (fail)
   go_cut [5] (fun v5 wc=>∃(kq:Nat) (al:List (S42)) (aN:Option Addr) (aO:Nat),v5=.slice aN al.length aO∧Aside0 (spec_ReadDeed.j1 kq a0 al=some (r1,r2,r3,r4))∧Aside0 (kq≤kj2)∧ST w [AR k42 42 w.heap.size (.slice aN al.length aO) al] [Bx g2 #[.int .i64 0,.int .i64 0,.int .i64 0] 42] wc)
   case first =>
    have H:=HC8.out;clear HC8;by_cases c9:(aa.length:Int)=3
    ·
     rw [if_pos c9] at H;have aC:((aa.length:Int) == 3)=true:=beq_iff_eq.mpr c9;have a6:((aa.length:Int) != 3)=false:=bne_eq_false_iff_eq.mpr c9;clear c9;(first|rw [aC]|(simp only [i64_w,i32_w];rw [aC])|skip);replace H:=i0_ H;obtain ⟨c10,H⟩:=H;have aX:decide (1<(aa.length:Int))=true:=decide_eq_true c10;have aY:decide (1<aa.length)=true:=decide_eq_true (by omega);clear c10;obtain ⟨aD,A_34,H⟩:=bnd_ H;replace H:=i0_ H;obtain ⟨c11,H⟩:=H;have bo:decide (2<(aa.length:Int))=true:=decide_eq_true c11;have bp:decide (2<aa.length)=true:=decide_eq_true (by omega);clear c11;obtain ⟨aE,A_38,H⟩:=bnd_ H;replace H:=il_ H;obtain ⟨bz,H⟩:=H;have H':=A_ H;clear H;(try go_wp2);(all_goals ((try clear ix_);obtain ⟨p_,q_,ad_324,e_324,x0⟩:=a2_ (Kd.at_string (gC_ st Kd.string B9_0 aa) 1);have ix324:=ix1_ Tryz.underlying95 e_324 p_ q_ (c:=d9_0);(try simp only [Addr.add,Int.reduceToNat,Nat.reduceMul,Nat.reduceEqDiff,↓reduceIte] at ix324);replace e_324:=A_ e_324;clear x0;obtain ⟨p_,q_,ad_326,e_326,x0⟩:=a2_ (Kd.at_string (gC_ st Kd.string B9_0 aa) 2);have ix326:=ix1_ Tryz.underlying95 e_326 p_ q_ (c:=d9_0);(try simp only [Addr.add,Int.reduceToNat,Nat.reduceMul,Nat.reduceEqDiff,↓reduceIte] at ix326);replace e_326:=A_ e_326;clear x0;refine rg_ st [] ?_;clear st cl;intro w_ st hs;have cl:=cl_ st;refine with_tabW spec_ReadDeed.tab7 spec_ReadDeed.bits7 (fun HT_ HW_=>?_);refine pv_ 0 ?_;refine pv_ 1 ?_;refine pv_ 2 ?_;refine pv_ 5 ?_;refine pv_ 6 ?_;refine tu_ 3 ?_ (hy:=by intro w' s_;have cl:=cl_ s_;obtain ⟨_,_,_,e_,x0⟩:=a2_ (Kd.at_string (gC_ s_ Kd.string B9_0 aa) 1);rw [cq_ e_324.out e_] at x0;(try simp only [Addr.add,Int.reduceToNat,Nat.reduceMul,Nat.reduceEqDiff,↓reduceIte] at x0);clear e_;go_simp;first|with_reducible rfl|(rw [if_neg (by omega)];done));refine tu_ 7 ?_ (hy:=by intro w' s_;have cl:=cl_ s_;obtain ⟨_,_,_,e_,x0⟩:=a2_ (Kd.at_string (gC_ s_ Kd.string B9_0 aa) 2);rw [cq_ e_326.out e_] at x0;(try simp only [Addr.add,Int.reduceToNat,Nat.reduceMul,Nat.reduceEqDiff,↓reduceIte] at x0);clear e_;go_simp;first|with_reducible rfl|(rw [if_neg (by omega)];done));refine ov_ 4 (fun K hK=>?_);refine ca2_ (some 34) Tryz.func67 _ (spec_l15Signed.calls kj2 _ _ _ A_34.out) ?_;rintro e w_ ⟨rfl,hb⟩;refine ⟨_,rfl,?_⟩;replace hb:=hb.below;replace st:=st.ev hb;clear cl hb;have cl:=cl_ st;refine hK.out _ _ st.en (fun hs=>?_);clear hK K;refine nr_ 34 ?_;refine ov_ 8 (fun K hK=>?_);refine ca2_ (some 38) Tryz.func67 _ (spec_l15Signed.calls kj2 _ _ _ A_38.out) ?_;rintro e w_ ⟨rfl,hb⟩;refine ⟨_,rfl,?_⟩;replace hb:=hb.below;replace st:=st.ev hb;clear cl hb;have cl:=cl_ st;refine hK.out _ _ st.en (fun hs=>?_);clear hK K;refine nr_ 38 ?_;refine pv_ 9 ?_;refine ov_ 10 (fun K hK=>?_);refine bs2_ st [.int .i64 0,.int .i64 aD,.int .i64 aE] 42 ?_;refine hK.out _ _ (st.ev (la_ (Below.refl _ _) _)).en (fun hs=>?_);clear hK K;refine nr_ 40 ?_;refine ov_ 11 (fun K hK=>?_);refine ap2_ aP aq (⟨0,aD,aE⟩:S42) [.int .i64 0,.int .i64 aD,.int .i64 aE] ((.agg #[(.int .i64 0),(.int .i64 0),(.int .i64 0)])) 24 st Tryz.underlying35 ?_ (hl:=by have:=bz.out;omega) (hp:=k42_mkM _ _ _ _);clear st cl;intro P41 q41 w_ st;have cl:=cl_ st;refine hK.out _ _ st.en (fun hs=>?_);clear hK K;refine nr_ 41 ?_;refine pv_ 12 ?_;refine done_ (done_of HT_.out (by kernel_rfl)) ?_;clear ix324 ix326;all_goals (try go_wp2)));go_meet
     case rel=>exact ⟨_,((aq++[(⟨0,aD,aE⟩:S42)])),P41,q41,tx_,H',⟨by have:=HJ2.out;first|omega|exact Nat.le_refl _⟩,(st.lp P41 (aq++[(⟨0,aD,aE⟩:S42)])).en⟩
    ·
     rw [if_neg c9] at H;have aC:((aa.length:Int) == 3)=false:=beq_eq_false_iff_ne.mpr c9;have a6:((aa.length:Int) != 3)=true:=bne_iff_ne.mpr c9;(first|rw [aC]|(simp only [i64_w,i32_w];rw [aC])|skip);have H':=A_ H;clear H;go_wp2;go_meet
     case rel=>exact ⟨_,(aq),aP,aW,tx_,H',⟨by have:=HJ2.out;first|omega|exact Nat.le_refl _⟩,(st.lp aP aq).en⟩
   case rest =>
    clear HC8 st cl;obtain ⟨kq,al,aN,aO,rfl,HA,HJ7,st⟩:=hcut;have cl:=cl_ st
    cases kq with
    |zero=>exact absurd HA.out (by simp [spec_ReadDeed.j1])
    |succ kj7 =>
     have H:=HA.out;clear HA;simp only [spec_ReadDeed.j1] at H;have H':=A_ H;clear H;go_wp2
     go_loopg [7] kj7 (fun kq v7 w'=>∃(ap:Int) (am:Int) (an:Int) (ao:Int),v7=.int .i64 ap∧Aside0 (spec_ReadDeed.l0 kq a0 al ap=some (r1,r2,r3,r4))∧Aside0 (kq≤kj7)∧ST w [AR k42 42 w.heap.size (.slice aN al.length aO) al] [Bx g2 #[.int .i64 am,.int .i64 an,.int .i64 ao] 42] w')
     case atStart=>exact ⟨(0),(0),(0),(0),tx_,H',⟨Nat.le_refl _⟩,st.en⟩
     case round =>
      clear H' st cl;obtain ⟨ap,am,an,ao,rfl,HA,HK3,st⟩:=hrel;have cl:=cl_ st
      cases gk with
      |zero=>exact absurd HA.out (by simp [spec_ReadDeed.l0])
      |succ k3 =>
       have H:=HA.out;clear HA;simp only [spec_ReadDeed.l0] at H;replace H:=it_ H;rcases H with ⟨bB,H⟩|⟨bB,H⟩
       ·
        by_cases c15:a0.toList=([]:List UInt8)
        ·
         rw [if_pos c15] at H;have bC:(a0.toList == ([]:List UInt8))=true:=beq_iff_eq.mpr c15;have bD:(a0.toList != ([]:List UInt8))=false:=bne_eq_false_iff_eq.mpr c15;clear c15;have H':=A_ H;clear H;exact spec_ReadDeed.z1
        ·
         rw [if_neg c15] at H;have bC:(a0.toList == ([]:List UInt8))=false:=beq_eq_false_iff_ne.mpr c15;have bD:(a0.toList != ([]:List UInt8))=true:=bne_iff_ne.mpr c15;replace H:=in_ H;obtain ⟨bZ,H⟩:=H;obtain ⟨aF,A_55,H⟩:=bnd_ H;by_cases c17:aF.toList=a0.toList
         ·
          rw [if_pos c17] at H;have bE:(aF.toList == a0.toList)=true:=beq_iff_eq.mpr c17;have bF:(aF.toList != a0.toList)=false:=bne_eq_false_iff_eq.mpr c17;clear c17;obtain ⟨rfl,rfl,rfl,rfl⟩:=sj4_ H;exact spec_ReadDeed.z1
         ·
          rw [if_neg c17] at H;have bE:(aF.toList == a0.toList)=false:=beq_eq_false_iff_ne.mpr c17;have bF:(aF.toList != a0.toList)=true:=bne_iff_ne.mpr c17;have H':=A_ H;clear H;exact spec_ReadDeed.z1
       ·
        obtain ⟨rfl,rfl,rfl,rfl⟩:=sj4_ H;exact spec_ReadDeed.z1
def spec_ReadJournal.l0:Nat→ByteArray→List (S42)→Int→Int→Option ((List (S42))×Int)
 |0,_,_,_,_=>none
 |k+1,x0,x4,x5,x6=>if x6<(x0.size:Int) then (if 0≤x6 then (if (bt x0 x6)=10 then (if 0≤x5 then (if x5≤x6 then (if x6≤(x0.size:Int) then ((spec_ReadDeed.f k (x0.extract (x5:Int).toNat (x6:Int).toNat)).bind fun aH=>(if aH.2.2.2=true then (if x4.length<5864062014805 then (spec_ReadJournal.l0 k x0 (x4++[(⟨aH.1,aH.2.1,aH.2.2.1⟩:S42)]) (wrap64 (x6+1)) (wrap64 (x6+1))) else (none)) else (some (x4,x5)))) else (none)) else (none)) else (none)) else (spec_ReadJournal.l0 k x0 x4 x5 (wrap64 (x6+1)))) else (none)) else (some (x4,x5))
def spec_ReadJournal.f (k:Nat) (a0:ByteArray):Option ((List (S42))×Int):=spec_ReadJournal.l0 k a0 (([]:List (S42))) 0 0
theorem spec_ReadJournal.z0 {P_:Prop} (h_:P_:=by go_wp2_with (first|((with_reducible refine gc_ 46 ?_);refine ca_ (some 25) Tryz.func46 _ (spec_ReadDeed.calls k1 _ _ _ _ _ _ A_25.out) ?_;rintro e w_ ⟨rfl,hb⟩;refine ⟨_,rfl,?_⟩;replace st:=st.ev hb;clear cl hb;have cl:=cl_ st)|((with_reducible refine gd_ 7 ?_);refine al_ st ?_;clear st cl;intro g7 w_ st;have cl:=cl_ st)|((with_reducible refine gs_ 7 ?_);refine so3_ st ?_;clear st cl;intro w_ st;have cl:=cl_ st)|((with_reducible refine gd_ 35 ?_);refine ap_ aQ ar (⟨a8,a9,bb⟩:S42) [.int .i64 a8,.int .i64 a9,.int .i64 bb] ((.agg #[(.int .i64 0),(.int .i64 0),(.int .i64 0)])) 24 st Tryz.underlying35 ?_ (hl:=by have:=bG.out;omega) (hp:=k42_mkM _ _ _ _);clear st cl;intro P35 q35 w_ st;have cl:=cl_ st));first|(go_roundg k1;(case measure=>have:=HK1.out;omega);(case rel=>exact ⟨((ar++[(⟨a8,a9,bb⟩:S42)])),(wrap64 (ad+1)),(wrap64 (ad+1)),P35,q35,tx_,tx_,tx_,H',⟨by have:=HK1.out;omega⟩,st.en⟩))|(go_ret2;exact ⟨.slice aQ ar.length aR,tw_,gtl_ st,st.b⟩)|(go_roundg k1;(case measure=>have:=HK1.out;omega);(case rel=>exact ⟨(ar),(aA),(wrap64 (ad+1)),aQ,aR,tx_,tx_,tx_,H',⟨by have:=HK1.out;omega⟩,st.en⟩))):P_:=h_
theorem spec_ReadJournal.calls (k:Nat) (a0:ByteArray) (r1:List (S42)) (r2:Int) (w:World) (h:spec_ReadJournal.f k a0=some (r1,r2)) :
  Calls Tryz.prog 18 #[.string a0] w fun e w'=>∃v0_:Value,e=.returned (.tuple #[v0_,.int .i64 r2])∧Kd.R k42 42 w' w.heap.size (fun _=>True) v0_ r1∧Below w.heap.size w w':=by
 have hu42:=Tryz.underlying42;have st:=ST.nil w;have s0:=st;have cl:=cl_ st;have H:=h;clear h;unfold spec_ReadJournal.f at H;go_enter Tryz.func18,Tryz.ntmps18;have H':=A_ H;clear H;go_wp2_with (first|((with_reducible refine gd_ 9 ?_);refine nwl_ k42 42 (([]:List (S42)):List (S42)) [] st ?_ (hrep:=by repeat (first|exact Reps.none _ _|refine Reps.c3 (k42_mkM _ _ _ _) ?_));clear st cl;intro B9_0 d9_0 w_ st;have cl:=cl_ st))
 go_loopg [4,5,6] k (fun kq v4 v5 v6 w'=>∃(ar:List (S42)) (aA:Int) (ad:Int) (aQ:Option Addr) (aR:Nat),v4=.slice aQ ar.length aR∧v5=.int .i64 aA∧v6=.int .i64 ad∧Aside0 (spec_ReadJournal.l0 kq a0 ar aA ad=some (r1,r2))∧Aside0 (kq≤k)∧ST w [] [AR k42 42 w.heap.size (.slice aQ ar.length aR) ar] w')
 case atStart=>exact ⟨(([]:List (S42))),(0),(0),B9_0,d9_0,tx_,tx_,tx_,H',⟨Nat.le_refl _⟩,st.en⟩
 case round =>
  clear H' st cl;obtain ⟨ar,aA,ad,aQ,aR,rfl,rfl,rfl,HA,HK1,st⟩:=hrel;have cl:=cl_ st
  cases gk with
  |zero=>exact absurd HA.out (by simp [spec_ReadJournal.l0])
  |succ k1 =>
   have H:=HA.out;clear HA;simp only [spec_ReadJournal.l0] at H;replace H:=it_ H;rcases H with ⟨bc,H⟩|⟨bc,H⟩
   ·
    replace H:=in_ H;obtain ⟨ax,H⟩:=H;have y5a:(0≤(ad:Int))=True:=eq_true (by first|exact od_|omega);have y5b:((ad:Int)<(a0.size:Int))=True:=eq_true (by first|exact od_|omega);have y5x:=bt_at a0 ad;by_cases c6:(bt a0 ad)=10
    ·
     rw [if_pos c6] at H;have bj:((bt a0 ad) == 10)=true:=beq_iff_eq.mpr c6;have bk:((bt a0 ad) != 10)=false:=bne_eq_false_iff_eq.mpr c6;clear c6;replace H:=i0_ H;obtain ⟨c7,H⟩:=H;have bN:=eq_true c7;have bO:decide (0≤aA)=true:=decide_eq_true c7;clear c7;replace H:=i0_ H;obtain ⟨c8,H⟩:=H;have bl:=eq_true c8;have bm:decide (aA≤ad)=true:=decide_eq_true c8;clear c8;replace H:=i0_ H;obtain ⟨c9,H⟩:=H;have aC:=eq_true c9;have a6:decide (ad≤(a0.size:Int))=true:=decide_eq_true c9;clear c9;obtain ⟨⟨a8,a9,bb,bR⟩,A_25,H⟩:=bnd_ H;(try dsimp only at H);rcases bx_ bR with rfl|rfl
     ·
      replace H:=bt_ H;replace H:=il_ H;obtain ⟨bG,H⟩:=H;have H':=A_ H;clear H;exact spec_ReadJournal.z0
     ·
      replace H:=bf_ H;obtain ⟨rfl,rfl⟩:=sj2_ H;exact spec_ReadJournal.z0
    ·
     rw [if_neg c6] at H;have bj:((bt a0 ad) == 10)=false:=beq_eq_false_iff_ne.mpr c6;have bk:((bt a0 ad) != 10)=true:=bne_iff_ne.mpr c6;have H':=A_ H;clear H;exact spec_ReadJournal.z0
   ·
    obtain ⟨rfl,rfl⟩:=sj2_ H;exact spec_ReadJournal.z0
def spec_DeskOk.l0:Nat→Int→List Int→Int→List Int→List (S31)→Option (Bool)
 |0,_,_,_,_,_=>none
 |k+1,x3,aI,aJ,aK,ae=>if x3<(ae.length:Int) then (if 0≤x3 then ((spec_PlaceOk.f k ((rd_T31 ae x3).f0) ((rd_T31 ae x3).f1) ((rd_T31 ae x3).f2)).bind fun bd=>(if bd=true then (spec_DeskOk.l0 k (wrap64 (x3+1)) aI aJ aK ae) else (some false))) else (none)) else ((spec_PlaceOk.f k aI aJ aK).bind fun be=>(if be=true then (some (decide ((ae.length:Int)≤8))) else (some false)))
def spec_DeskOk.f (k:Nat) (ab:List Int) (a0_1:Int) (ac:List Int) (aj:List (S31)):Option (Bool):=spec_DeskOk.l0 k 0 ab a0_1 ac aj
theorem spec_DeskOk.z0 {P_:Prop} (h_:P_:=by go_wp2_with (first|((with_reducible refine gd_ 14 ?_);obtain ⟨p_,q_,ad_,bf,bg,bh,bi,e_,x0,x1,x2,l0_,C0_,l2_,C2_⟩:=a2_ (at_T31 (gC_ s0 k31 aU aj) au);replace x0:=cb_ st x0;replace x1:=cb_ st x1;replace x2:=cb_ st x2;replace st:=st.c C0_ l0_;replace st:=st.c C2_ l2_;have ix_:=ix3_ Tryz.underlying32 e_ p_ q_ (c:=aV);clear e_;go_step)|((with_reducible refine gc_ 61 ?_);refine ca_ (some 16) Tryz.func61 _ (spec_PlaceOk.calls k1 bf bg _ _ bh bi _ _ _ (gt_ st) (gt_ st) (gt_ st) (gt_ st) A_16.out) ?_;rintro e w_ ⟨rfl,hb⟩;refine ⟨_,rfl,?_⟩;replace st:=st.ev hb;clear cl hb;have cl:=cl_ st)|((with_reducible refine gc_ 61 ?_);refine ca_ (some 20) Tryz.func61 _ (spec_PlaceOk.calls k1 av aw _ _ ay az _ _ _ (gt_ st) (gt_ st) (gt_ st) (gt_ st) A_20.out) ?_;rintro e w_ ⟨rfl,hb⟩;refine ⟨_,rfl,?_⟩;replace st:=st.ev hb;clear cl hb;have cl:=cl_ st));first|(go_roundg k1;(case measure=>have:=HK1.out;omega);(case rel=>exact ⟨(wrap64 (au+1)),tx_,H',⟨by have:=HK1.out;omega⟩,st.en⟩))|(go_ret;exact ⟨tw_,st.b⟩)):P_:=h_
theorem spec_DeskOk.calls (k:Nat) (av:Option Addr) (aw:Nat) (ab:List Int) (a0_1:Int) (ay:Option Addr) (az:Nat) (ac:List Int) (aU:Option Addr) (aV:Nat) (aj:List (S31)) (r:Bool) (w:World) (hr0_0:Kd.C (Kd.int .i64) w av ab.length ab) (hc0_0:ab.length≤aw) (hr0_2:Kd.C (Kd.int .i64) w ay ac.length ac) (hc0_2:ac.length≤az) (hr0_3:Kd.C k31 w aU aj.length aj) (hc0_3:aj.length≤aV) (h:spec_DeskOk.f k ab a0_1 ac aj=some r) :
  Calls Tryz.prog 70 #[.agg #[.slice av ab.length aw,.int .i64 a0_1,.slice ay ac.length az,.slice aU aj.length aV]] w fun e w'=>e=.returned (.bool r)∧Below w.heap.size w w':=by
 have hu34:=Tryz.underlying34;have hu31:=Tryz.underlying31;have st:=(((ST.nil w).c hr0_0 hc0_0).c hr0_2 hc0_2).c hr0_3 hc0_3;have s0:=st;have cl:=cl_ st;have H:=h;clear h;unfold spec_DeskOk.f at H;go_enter Tryz.func70,Tryz.ntmps70;have H':=A_ H;clear H;go_wp2_with (first|((with_reducible refine gd_ 1 ?_);refine al_ st ?_;clear st cl;intro g1 w_ st;have cl:=cl_ st))
 go_loopg [3] k (fun kq v3 w'=>∃(au:Int),v3=.int .i64 au∧Aside0 (spec_DeskOk.l0 kq au ab a0_1 ac aj=some r)∧Aside0 (kq≤k)∧ST w [CA (Kd.int .i64) w av ab aw,CA (Kd.int .i64) w ay ac az,CA k31 w aU aj aV] [Bx g1 #[.slice av ab.length aw,.int .i64 a0_1,.slice ay ac.length az,.slice aU aj.length aV] 34] w')
 case atStart=>exact ⟨(0),tx_,H',⟨Nat.le_refl _⟩,st.en⟩
 case round =>
  clear H' st cl;obtain ⟨au,rfl,HA,HK1,st⟩:=hrel;have cl:=cl_ st
  cases gk with
  |zero=>exact absurd HA.out (by simp [spec_DeskOk.l0])
  |succ k1 =>
   have H:=HA.out;clear HA;simp only [spec_DeskOk.l0] at H;replace H:=it_ H;rcases H with ⟨bc,H⟩|⟨bc,H⟩
   ·
    replace H:=in_ H;obtain ⟨ax,H⟩:=H;obtain ⟨bd,A_16,H⟩:=bnd_ H;rcases bx_ bd with rfl|rfl
    ·
     replace H:=bt_ H;have H':=A_ H;clear H;exact spec_DeskOk.z0
    ·
     replace H:=bf_ H;obtain rfl:=Option.some.inj H;exact spec_DeskOk.z0
   ·
    obtain ⟨be,A_20,H⟩:=bnd_ H;rcases bx_ be with rfl|rfl
    ·
     replace H:=bt_ H;obtain rfl:=Option.some.inj H;exact spec_DeskOk.z0
    ·
     replace H:=bf_ H;obtain rfl:=Option.some.inj H;exact spec_DeskOk.z0
def spec_l15Place.f (ab:List Int) (a0_1:Int) (ac:List Int):Option (List Int×Int×List Int):=(some (([]:List Int):List Int)).bind fun bH=>(if bH.length+ab.length<17592186044416 then ((some (([]:List Int):List Int)).bind fun bI=>(if bI.length+ac.length<17592186044416 then (some ((bH++ab),a0_1,(bI++ac))) else (none))) else (none))
def spec_l15Place.T1:Bool×List (List Nat×List Nat):=(true,[([],[]),([],[]),([1],[1]),([0,2],[0,2]),([],[]),([4],[4]),([],[]),([],[]),([7],[7]),([6,8,3],[6,8]),([3,5,9],[3,5,9]),([10,9,0,1,2,3,4,5,6,7,8,9,10],[10])])
def spec_l15Place.B1:List Nat:=[0,0,2,7,0,16,0,0,128,463,1023,2047]
theorem spec_l15Place.tab1:rtab .any (opsOf Tryz.f69 1)=spec_l15Place.T1:=by kernel_rfl
theorem spec_l15Place.bits1:waitsOk spec_l15Place.T1.2 spec_l15Place.B1=true:=by kernel_rfl
theorem spec_l15Place.n0 {P_:Prop} (h_:P_:=by refine ov_ 9 (fun K hK=>?_);refine apr02_ B9_0 ac ay az ((.int .i64 0)) 8 st Tryz.underlying29 (gt_ st) ?_ (hl:=by have:=bS.out;simp only [List.length_nil] at this;omega);clear st cl;intro P12 q12 w_ st;have cl:=cl_ st;refine hK.out _ _ st.en (fun hs=>?_);clear hK K;refine nr_ 12 ?_;refine pv_ 10 ?_;refine lv_ 11 (fun K hK=>?_);refine sp3_ st ?_;clear st cl;intro w_ st;have cl:=cl_ st;refine hK.out _ _ ?_;clear hK K;refine done_ (done_of HT_.out (by kernel_rfl)) ?_;(try go_wp2_with (first|((with_reducible refine gd_ 1 ?_);refine al_ st ?_;clear st cl;intro g1 w_ st;have cl:=cl_ st)|((with_reducible refine gd_ 2 ?_);refine al_ st ?_;clear st cl;intro g2 w_ st;have cl:=cl_ st)));(refine bodyPost_ret (rcc_ st Tryz.underlying31) rfl ?_;exact ⟨.slice P6 ab.length q6,.slice P12 ac.length q12,tw_,(tap_ st P6 ab P12 ac).1,(tap_ st P6 ab P12 ac).2,st.b⟩)):P_:=h_
theorem spec_l15Place.n1 {P_:Prop} (h_:P_:=by refine ov_ 3 (fun K hK=>?_);refine apr02_ B3_0 ab av aw ((.int .i64 0)) 8 st Tryz.underlying29 (gt_ st) ?_ (hl:=by have:=bJ.out;simp only [List.length_nil] at this;omega);clear st cl;intro P6 q6 w_ st;have cl:=cl_ st;refine hK.out _ _ st.en (fun hs=>?_);clear hK K;refine nr_ 6 ?_;exact spec_l15Place.n0):P_:=h_
theorem spec_l15Place.calls (av:Option Addr) (aw:Nat) (ab:List Int) (a0_1:Int) (ay:Option Addr) (az:Nat) (ac:List Int) (r1:List Int) (r2:Int) (r3:List Int) (w:World) (hr0_0:Kd.C (Kd.int .i64) w av ab.length ab) (hc0_0:ab.length≤aw) (hr0_2:Kd.C (Kd.int .i64) w ay ac.length ac) (hc0_2:ac.length≤az) (h:spec_l15Place.f ab a0_1 ac=some (r1,r2,r3)) :
  Calls Tryz.prog 69 #[.agg #[.slice av ab.length aw,.int .i64 a0_1,.slice ay ac.length az]] w fun e w'=>∃v0_ v2_:Value,e=.returned (.agg #[v0_,.int .i64 r2,v2_])∧Kd.R (Kd.int .i64) 3 w' w.heap.size (fun k_=>some k_≠(v2_:Value).ownBlock) v0_ r1∧Kd.R (Kd.int .i64) 3 w' w.heap.size (fun k_=>some k_≠(v0_:Value).ownBlock) v2_ r3∧Below w.heap.size w w':=by
 have hu31:=Tryz.underlying31;have st:=((ST.nil w).c hr0_0 hc0_0).c hr0_2 hc0_2;have s0:=st;have cl:=cl_ st;have H:=h;clear h;unfold spec_l15Place.f at H;go_enter Tryz.func69,Tryz.ntmps69;replace H:=sm_ H;(try dsimp only at H);replace H:=il_ H;obtain ⟨bJ,H⟩:=H;(try simp only [List.nil_append] at H);replace H:=sm_ H;(try dsimp only at H);replace H:=il_ H;obtain ⟨bS,H⟩:=H;(try simp only [List.nil_append] at H);obtain ⟨rfl,rfl,rfl⟩:=sj3_ H;(try go_wp2_with (first|((with_reducible refine gd_ 1 ?_);refine al_ st ?_;clear st cl;intro g1 w_ st;have cl:=cl_ st)|((with_reducible refine gd_ 2 ?_);refine al_ st ?_;clear st cl;intro g2 w_ st;have cl:=cl_ st)));(refine rg_ st [11] ?_;clear st cl;intro w_ st hs;have cl:=cl_ st;refine with_tabW spec_l15Place.tab1 spec_l15Place.bits1 (fun HT_ HW_=>?_);refine pv_ 1 ?_;refine pv_ 4 ?_;refine pv_ 7 ?_;refine tu_ 2 ?_;refine tu_ 5 ?_;refine tu_ 8 ?_;refine wv_ 0 6 (fun K hK=>?_) (fun K hK=>?_);refine nwl2_ (Kd.int .i64) 3 (([]:List Int):List Int) [] st ?_;clear st cl;intro B3_0 d3_0 w_ st;have cl:=cl_ st;refine hK.out _ _ st.en (fun hs=>?_);clear hK K;refine nr_ 3 ?_;refine wv_ 3 6 (fun K hK=>?_) (fun K hK=>?_);refine apr02_ B3_0 ab av aw ((.int .i64 0)) 8 st Tryz.underlying29 (gt_ st) ?_ (hl:=by have:=bJ.out;simp only [List.length_nil] at this;omega);clear st cl;intro P6 q6 w_ st;have cl:=cl_ st;refine hK.out _ _ st.en (fun hs=>?_);clear hK K;refine nr_ 6 ?_;refine ov_ 6 (fun K hK=>?_);refine nwl2_ (Kd.int .i64) 3 (([]:List Int):List Int) [] st ?_;clear st cl;intro B9_0 d9_0 w_ st;have cl:=cl_ st;refine hK.out _ _ st.en (fun hs=>?_);clear hK K;refine nr_ 9 ?_;exact spec_l15Place.n0;refine nwl2_ (Kd.int .i64) 3 (([]:List Int):List Int) [] st ?_;clear st cl;intro B9_0 d9_0 w_ st;have cl:=cl_ st;refine hK.out _ _ st.en (fun hs=>?_);clear hK K;refine nr_ 9 ?_;exact spec_l15Place.n1;refine nwl2_ (Kd.int .i64) 3 (([]:List Int):List Int) [] st ?_;clear st cl;intro B9_0 d9_0 w_ st;have cl:=cl_ st;refine hK.out _ _ st.en (fun hs=>?_);clear hK K;refine nr_ 9 ?_;refine ov_ 0 (fun K hK=>?_);refine nwl2_ (Kd.int .i64) 3 (([]:List Int):List Int) [] st ?_;clear st cl;intro B3_0 d3_0 w_ st;have cl:=cl_ st;refine hK.out _ _ st.en (fun hs=>?_);clear hK K;refine nr_ 3 ?_;exact spec_l15Place.n1)
end Go.Proofs.YtdllgaelpanblaaGreatDoor.MFnStoreSameWay
