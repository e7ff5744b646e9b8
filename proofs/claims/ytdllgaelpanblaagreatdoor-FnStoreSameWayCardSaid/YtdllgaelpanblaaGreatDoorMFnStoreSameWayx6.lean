/- Walks for FnStoreSameWay: a call returns what the plain function tells. Conditions: in each statement. -/
import Derived.Test.YtdllgaelpanblaaGreatDoorMFnStoreSameWayx5
namespace Go.Proofs.YtdllgaelpanblaaGreatDoor.MFnStoreSameWay
open Go.RowKit Go.Proofs.YtdllgaelpanblaaGreatDoorW.PrintWords Go.Proofs.YtdllgaelpanblaaGreatDoorW.PrintLast Go.Proofs.YtdllgaelpanblaaGreatDoorW.PrintMore
set_option linter.unusedVariables false
set_option linter.unusedSimpArgs false
set_option maxHeartbeats 8000000
set_option maxRecDepth 100000
mutual
def spec_l1Digits.j0:Nat→ByteArray→Bool→Option (Int)
 |0,_,_=>none
 |k+1,x0,x18=>if x18=true then (some (-1)) else (spec_l1Digits.l0 k x0 0 0)
def spec_l1Digits.l0:Nat→ByteArray→Int→Int→Option (Int)
 |0,_,_,_=>none
 |k+1,x0,x3,x4=>if x4<(x0.size:Int) then (if 0≤x4 then (if (bt x0 x4)<48 then (some (-1)) else (if (bt x0 x4)>57 then (some (-1)) else (spec_l1Digits.l0 k x0 (wrap64 ((wrap64 (10*x3))+(((bt x0 x4) - 48) % 256))) (wrap64 (x4+1))))) else (none)) else (some x3)
end
def spec_l1Digits.f (k:Nat) (a0:ByteArray):Option (Int):=(spec_l1In.f (a0.size:Int) 1 6).bind fun aB=>(if aB=true then (if (a0.size:Int)>1 then (if 0<(a0.size:Int) then (spec_l1Digits.j0 k a0 ((bt a0 0) == 48)) else (none)) else (spec_l1Digits.j0 k a0 false)) else (spec_l1Digits.j0 k a0 true))
theorem spec_l1Digits.mono_l:∀k,(∀y0 y1,LeO (spec_l1Digits.j0 k y0 y1) (spec_l1Digits.j0 (k+1) y0 y1))∧(∀y0 y1 y2,LeO (spec_l1Digits.l0 k y0 y1 y2) (spec_l1Digits.l0 (k+1) y0 y1 y2))
 |0=>⟨fun _ _ r h=>by simp [spec_l1Digits.j0] at h,fun _ _ _ r h=>by simp [spec_l1Digits.l0] at h⟩
 |k+1=>by
  obtain ⟨ih0,ih1⟩:=spec_l1Digits.mono_l k
  refine ⟨?_,?_⟩
  ·
   intro y0 y1
   unfold spec_l1Digits.j0
   repeat' (with_reducible first|exact ih0 _ _|exact ih1 _ _ _|exact mr_|exact mn_|refine mi_ ?_ ?_|refine mb_ ?_ (fun _=>?_))
  ·
   intro y0 y1 y2
   unfold spec_l1Digits.l0
   repeat' (with_reducible first|exact ih0 _ _|exact ih1 _ _ _|exact mr_|exact mn_|refine mi_ ?_ ?_|refine mb_ ?_ (fun _=>?_))
theorem spec_l1Digits.mono:∀a0 k,LeO (spec_l1Digits.f k a0) (spec_l1Digits.f (k+1) a0):=by
 intro a0 k;obtain ⟨ih0,ih1⟩:=spec_l1Digits.mono_l k;unfold spec_l1Digits.f;repeat' (with_reducible first|exact ih0 _ _|exact ih1 _ _ _|exact mr_|exact mn_|refine mi_ ?_ ?_|refine mb_ ?_ (fun _=>?_))
theorem spec_l1Digits.calls (k:Nat) (a0:ByteArray) (r:Int) (w:World) (h:spec_l1Digits.f k a0=some r) :
  Calls Tryz.prog 68 #[.string a0] w fun e w'=>e=.returned (.int .i64 r)∧Drawn0 w w':=by
 have H:=h;clear h;unfold spec_l1Digits.f at H;have HC2:=A_ H;clear H;go_enter Tryz.func68,Tryz.ntmps68
 go_upto_region 1 with (fail)
 go_cut [18] (fun bf wc=>∃(kq:Nat) (aw:Bool),bf=.bool aw∧Aside0 (spec_l1Digits.j0 kq a0 aw=some r)∧Aside0 (kq≤k)∧Drawn0 w wc)
 case first =>
  have H:=HC2.out;clear HC2;obtain ⟨aB,A3,H⟩:=bnd_ H;(try dsimp only at H);by_cases c4:aB=true
  ·
   subst c4;replace H:=bt_ H
   by_cases c5:(a0.size:Int)>1
   ·
    rw [if_pos c5] at H;have ap:decide (1<(a0.size:Int))=true:=decide_eq_true c5;have aJ:decide (1<a0.size)=true:=decide_eq_true (by omega);clear c5;(first|rw [ap]|(simp only [i64_w,i32_w];rw [ap])|skip);replace H:=i0_ H;obtain ⟨c6,H⟩:=H;have aq:decide (0<(a0.size:Int))=true:=decide_eq_true c6;have aC:decide (0<a0.size)=true:=decide_eq_true (by omega);clear c6;have H':=A_ H;clear H;go_wp2_with (first|((with_reducible refine gc_ 45 ?_);refine gl_ (some 7) Tryz.func45 #[.int .i64 (a0.size:Int),.int .i64 1,.int .i64 6] ?_;(with_reducible refine (spec_l1In.calls (a0.size:Int) 1 6 true _ A3.out).mono ?_);rintro e w' ⟨rfl,⟨nd,rfl⟩⟩;refine ⟨_,rfl,?_⟩;have p7:0≤(0:Int):=(by omega);have q7:0<a0.size:=(by have:(0:Int)<(a0.size:Int):=od_;omega);have hx7:∀h:0<a0.size,((a0[0]'h).toNat:Int)=bt a0 0:=bt_at a0 0;clear p7;have bc:(0<(a0.size:Int))=True:=eq_true (od_);replace q7:=eq_true q7));go_meet
    case rel=>exact ⟨_,(((bt a0 0) == 48)),tx_,H',⟨by first|omega|exact Nat.le_refl _⟩,dz_⟩
   ·
    rw [if_neg c5] at H;have ap:decide (1<(a0.size:Int))=false:=decide_eq_false c5;have aJ:decide (1<a0.size)=false:=decide_eq_false (by omega);clear c5;(first|rw [ap]|(simp only [i64_w,i32_w];rw [ap])|skip);have H':=A_ H;clear H;go_wp2_with (first|((with_reducible refine gc_ 45 ?_);refine gl_ (some 7) Tryz.func45 #[.int .i64 (a0.size:Int),.int .i64 1,.int .i64 6] ?_;(with_reducible refine (spec_l1In.calls (a0.size:Int) 1 6 true _ A3.out).mono ?_);rintro e w' ⟨rfl,⟨nd,rfl⟩⟩;refine ⟨_,rfl,?_⟩));go_meet
    case rel=>exact ⟨_,(false),tx_,H',⟨by first|omega|exact Nat.le_refl _⟩,dz_⟩
  ·
   replace c4:=Bool.eq_false_iff.mpr c4;subst c4;replace H:=bf_ H
   have H':=A_ H;clear H;go_wp2_with (first|((with_reducible refine gc_ 45 ?_);refine gl_ (some 7) Tryz.func45 #[.int .i64 (a0.size:Int),.int .i64 1,.int .i64 6] ?_;(with_reducible refine (spec_l1In.calls (a0.size:Int) 1 6 false _ A3.out).mono ?_);rintro e w' ⟨rfl,⟨nd,rfl⟩⟩;refine ⟨_,rfl,?_⟩));go_meet
   case rel=>exact ⟨_,(true),tx_,H',⟨by first|omega|exact Nat.le_refl _⟩,dz_⟩
 case rest =>
  clear HC2;obtain ⟨kq,aw,rfl,HA,HJ1,⟨mc1,rfl⟩⟩:=hcut
  cases kq with
  |zero=>exact absurd HA.out (by simp [spec_l1Digits.j0])
  |succ kj1 =>
   have H:=HA.out;clear HA;simp only [spec_l1Digits.j0] at H;by_cases c8:aw=true
   ·
    subst c8;replace H:=bt_ H
    obtain rfl:=Option.some.inj H;go_wp2;go_ret;exact ⟨tx_,dz_⟩
   ·
    replace c8:=Bool.eq_false_iff.mpr c8;subst c8;replace H:=bf_ H
    have H':=A_ H;clear H;go_wp2
    go_loopg [3,4] kj1 (fun kq v3 v4 w'=>∃(aH:Int) (ae:Int),v3=.int .i64 aH∧v4=.int .i64 ae∧Aside0 (spec_l1Digits.l0 kq a0 aH ae=some r)∧Aside0 (kq≤kj1)∧Drawn0 w w')
    case atStart=>exact ⟨(0),(0),tx_,tx_,H',⟨Nat.le_refl _⟩,dz_⟩
    case round =>
     clear H';(try clear c8);obtain ⟨aH,ae,rfl,rfl,HA,HK2,⟨m2,rfl⟩⟩:=hrel
     cases gk with
     |zero=>exact absurd HA.out (by simp [spec_l1Digits.l0])
     |succ k2 =>
      have H:=HA.out;clear HA;simp only [spec_l1Digits.l0] at H;replace H:=it_ H;rcases H with ⟨a7,H⟩|⟨a7,H⟩
      ·
       replace H:=in_ H;obtain ⟨aI,H⟩:=H;replace H:=it_ H;rcases H with ⟨aD,H⟩|⟨aD,H⟩
       ·
        obtain rfl:=Option.some.inj H;have p11:0≤(ae:Int):=od_;have q11:ae<(a0.size:Int):=od_;have hx11:=bt_at a0 ae;replace p11:=eq_true p11;replace q11:=eq_true q11;go_wp2;go_ret;exact ⟨tx_,dz_⟩
       ·
        replace H:=ig_ H;rcases H with ⟨aE,H⟩|⟨aE,H⟩
        ·
         obtain rfl:=Option.some.inj H;have p11:0≤(ae:Int):=od_;have q11:ae<(a0.size:Int):=od_;have hx11:=bt_at a0 ae;replace p11:=eq_true p11;replace q11:=eq_true q11;have p13:0≤(ae:Int):=od_;have q13:ae<(a0.size:Int):=od_;have hx13:=bt_at a0 ae;replace p13:=eq_true p13;replace q13:=eq_true q13;go_wp2;go_ret;exact ⟨tx_,dz_⟩
        ·
         have H':=A_ H;clear H;have p11:0≤(ae:Int):=od_;have q11:ae<(a0.size:Int):=od_;have hx11:=bt_at a0 ae;replace p11:=eq_true p11;replace q11:=eq_true q11;have p13:0≤(ae:Int):=od_;have q13:ae<(a0.size:Int):=od_;have hx13:=bt_at a0 ae;replace p13:=eq_true p13;replace q13:=eq_true q13;have p15:0≤(ae:Int):=od_;have q15:ae<(a0.size:Int):=od_;have hx15:=bt_at a0 ae;replace p15:=eq_true p15;replace q15:=eq_true q15;go_wp2
         go_roundg k2
         case measure=>have:=HJ1.out;have:=HK2.out;omega
         case rel=>exact ⟨(wrap64 ((wrap64 (10*aH))+(((bt a0 ae) - 48) % 256))),(wrap64 (ae+1)),tx_,tx_,H',⟨by have:=HJ1.out;have:=HK2.out;omega⟩,dz_⟩
      ·
       obtain rfl:=Option.some.inj H;go_wp2;go_ret;exact ⟨tx_,dz_⟩
def spec_l15Signed.j0:Nat→ByteArray→Bool→Option (Int)
 |0,_,_=>none
 |k+1,x0,x17=>if x17=true then (if 1≤(x0.size:Int) then ((spec_l1Digits.f k (x0.extract 1 x0.size)).bind fun aF=>(some (wrap64 (-aF)))) else (none)) else ((spec_l1Digits.f k x0).bind fun am=>(if am<0 then (some (-100)) else (some am)))
def spec_l15Signed.f (k:Nat) (a0:ByteArray):Option (Int):=if (a0.size:Int)>1 then (if 0<(a0.size:Int) then (if (bt a0 0)=45 then (if 1≤(a0.size:Int) then ((spec_l1Digits.f k (a0.extract 1 a0.size)).bind fun ay=>(spec_l15Signed.j0 k a0 (decide (ay>0)))) else (none)) else (spec_l15Signed.j0 k a0 false)) else (none)) else (spec_l15Signed.j0 k a0 false)
theorem spec_l15Signed.mono_l:∀k,(∀y0 y1,LeO (spec_l15Signed.j0 k y0 y1) (spec_l15Signed.j0 (k+1) y0 y1))
 |0=>fun _ _ r h=>by simp [spec_l15Signed.j0] at h
 |k+1=>by
  have ih0:=spec_l15Signed.mono_l k
  ·
   intro y0 y1
   unfold spec_l15Signed.j0
   repeat' (with_reducible first|exact ih0 _ _|exact spec_l1Digits.mono _ _|exact mr_|exact mn_|refine mi_ ?_ ?_|refine mb_ ?_ (fun _=>?_))
theorem spec_l15Signed.mono:∀a0 k,LeO (spec_l15Signed.f k a0) (spec_l15Signed.f (k+1) a0):=by
 intro a0 k;have ih0:=spec_l15Signed.mono_l k;unfold spec_l15Signed.f;repeat' (with_reducible first|exact ih0 _ _|exact spec_l1Digits.mono _ _|exact mr_|exact mn_|refine mi_ ?_ ?_|refine mb_ ?_ (fun _=>?_))
theorem spec_l15Signed.calls (k:Nat) (a0:ByteArray) (r:Int) (w:World) (h:spec_l15Signed.f k a0=some r) :
  Calls Tryz.prog 67 #[.string a0] w fun e w'=>e=.returned (.int .i64 r)∧Drawn0 w w':=by
 have H:=h;clear h;unfold spec_l15Signed.f at H;have HC2:=A_ H;clear H;go_enter Tryz.func67,Tryz.ntmps67
 go_upto_region 1 with (fail)
 go_cut [17] (fun bg wc=>∃(kq:Nat) (ax:Bool),bg=.bool ax∧Aside0 (spec_l15Signed.j0 kq a0 ax=some r)∧Aside0 (kq≤k)∧Drawn0 w wc)
 case first =>
  have H:=HC2.out;clear HC2;by_cases c3:(a0.size:Int)>1
  ·
   rw [if_pos c3] at H;have ar:decide (1<(a0.size:Int))=true:=decide_eq_true c3;have aK:decide (1<a0.size)=true:=decide_eq_true (by omega);clear c3;(first|rw [ar]|(simp only [i64_w,i32_w];rw [ar])|skip);replace H:=i0_ H;obtain ⟨c4,H⟩:=H;have aN:decide (0<(a0.size:Int))=true:=decide_eq_true c4;have aO:decide (0<a0.size)=true:=decide_eq_true (by omega);clear c4;by_cases c6:(bt a0 0)=45
   ·
    rw [if_pos c6] at H;have aq:((bt a0 0) == 45)=true:=beq_iff_eq.mpr c6;have aC:((bt a0 0) != 45)=false:=bne_eq_false_iff_eq.mpr c6;clear c6;replace H:=i0_ H;obtain ⟨c7,H⟩:=H;have aP:=eq_true c7;have a8:decide (1≤(a0.size:Int))=true:=decide_eq_true c7;clear c7;obtain ⟨ay,A8,H⟩:=bnd_ H;(try dsimp only at H);have H':=A_ H;clear H;have p5:0≤(0:Int):=(by omega)
    have q5:0<a0.size:=(by have:(0:Int)<(a0.size:Int):=od_;omega)
    have hx5:∀h:0<a0.size,((a0[0]'h).toNat:Int)=bt a0 0:=bt_at a0 0;clear p5;have bd:(0<(a0.size:Int))=True:=eq_true (od_);replace q5:=eq_true q5;go_wp2_with (first|(go_at_call 68;(with_reducible refine (spec_l1Digits.calls k (a0.extract 1 a0.size) ay _ A8.out).mono ?_);rintro e w' ⟨rfl,⟨nd,rfl⟩⟩));go_meet
    case rel=>exact ⟨_,(decide (ay>0)),tx_,H',⟨by first|omega|exact Nat.le_refl _⟩,dz_⟩
   ·
    rw [if_neg c6] at H;have aq:((bt a0 0) == 45)=false:=beq_eq_false_iff_ne.mpr c6;have aC:((bt a0 0) != 45)=true:=bne_iff_ne.mpr c6;have H':=A_ H;clear H;have p5:0≤(0:Int):=(by omega)
    have q5:0<a0.size:=(by have:(0:Int)<(a0.size:Int):=od_;omega)
    have hx5:∀h:0<a0.size,((a0[0]'h).toNat:Int)=bt a0 0:=bt_at a0 0;clear p5;have bd:(0<(a0.size:Int))=True:=eq_true (od_);replace q5:=eq_true q5;go_wp2;go_meet
    case rel=>exact ⟨_,(false),tx_,H',⟨by first|omega|exact Nat.le_refl _⟩,dz_⟩
  ·
   rw [if_neg c3] at H;have ar:decide (1<(a0.size:Int))=false:=decide_eq_false c3;have aK:decide (1<a0.size)=false:=decide_eq_false (by omega);clear c3;(first|rw [ar]|(simp only [i64_w,i32_w];rw [ar])|skip);have H':=A_ H;clear H;go_wp2;go_meet
   case rel=>exact ⟨_,(false),tx_,H',⟨by first|omega|exact Nat.le_refl _⟩,dz_⟩
 case rest =>
  clear HC2;obtain ⟨kq,ax,rfl,HA,HJ1,⟨mc1,rfl⟩⟩:=hcut
  cases kq with
  |zero=>exact absurd HA.out (by simp [spec_l15Signed.j0])
  |succ kj1 =>
   have H:=HA.out;clear HA;simp only [spec_l15Signed.j0] at H;by_cases c9:ax=true
   ·
    subst c9;replace H:=bt_ H
    replace H:=i0_ H;obtain ⟨c10,H⟩:=H;have aI:=eq_true c10;have aQ:decide (1≤(a0.size:Int))=true:=decide_eq_true c10;clear c10;obtain ⟨aF,A11,H⟩:=bnd_ H;(try dsimp only at H);obtain rfl:=Option.some.inj H;go_wp2_with (first|((with_reducible refine gc_ 68 ?_);refine gl_ (some 20) Tryz.func68 #[.string (a0.extract 1 a0.size)] ?_;(with_reducible refine (spec_l1Digits.calls kj1 (a0.extract 1 a0.size) aF _ A11.out).mono ?_);rintro e w' ⟨rfl,⟨nd,rfl⟩⟩;refine ⟨_,rfl,?_⟩));go_ret;exact ⟨tx_,dz_⟩
   ·
    replace c9:=Bool.eq_false_iff.mpr c9;subst c9;replace H:=bf_ H
    obtain ⟨am,A12,H⟩:=bnd_ H;(try dsimp only at H);replace H:=it_ H;rcases H with ⟨aG,H⟩|⟨aG,H⟩
    ·
     obtain rfl:=Option.some.inj H;go_wp2_with (first|((with_reducible refine gc_ 68 ?_);refine gl_ (some 23) Tryz.func68 #[.string a0] ?_;(with_reducible refine (spec_l1Digits.calls kj1 a0 am _ A12.out).mono ?_);rintro e w' ⟨rfl,⟨nd,rfl⟩⟩;refine ⟨_,rfl,?_⟩));go_ret;exact ⟨tx_,dz_⟩
    ·
     obtain rfl:=Option.some.inj H;go_wp2_with (first|((with_reducible refine gc_ 68 ?_);refine gl_ (some 23) Tryz.func68 #[.string a0] ?_;(with_reducible refine (spec_l1Digits.calls kj1 a0 am _ A12.out).mono ?_);rintro e w' ⟨rfl,⟨nd,rfl⟩⟩;refine ⟨_,rfl,?_⟩));go_ret;exact ⟨tx_,dz_⟩
mutual
def spec_ReadPlace.l0:Nat→ByteArray→List ByteArray→List ByteArray→Int→List Int→Int→Option (List Int×Int×List Int×Bool)
 |0,_,_,_,_,_,_=>none
 |k+1,x0,x4,x6,x7,ah,aj=>if x7<(x6.length:Int) then (if 0≤x7 then ((spec_l1Digits.f k (rdOf ByteArray.empty x6 x7)).bind fun az=>(if ah.length<17592186044416 then (spec_ReadPlace.l0 k x0 x4 x6 (wrap64 (x7+1)) (ah++[az]) aj) else (none))) else (none)) else (spec_ReadPlace.l1 k x0 x4 0 ah aj ([]:List Int))
def spec_ReadPlace.l1:Nat→ByteArray→List ByteArray→Int→List Int→Int→List Int→Option (List Int×Int×List Int×Bool)
 |0,_,_,_,_,_,_=>none
 |k+1,x0,x4,x8,ah,aj,ak=>if 2<(x4.length:Int) then (if x8<((rdOf ByteArray.empty x4 2).size:Int) then (if (rdOf ByteArray.empty x4 2).toList=([46]:List UInt8) then (if x0.toList=([]:List UInt8) then (some (([]:List Int),0,([]:List Int),false)) else ((spec_PlaceText.f k ah aj ak).bind fun au=>(if au.toList=x0.toList then (some (ah,aj,ak,true)) else (some (([]:List Int),0,([]:List Int),false))))) else (if 0≤x8 then (if ak.length<17592186044416 then (spec_ReadPlace.l1 k x0 x4 (wrap64 (x8+1)) ah aj (ak++[wrap64 ((wrap64 (bt (rdOf ByteArray.empty x4 2) x8)) - 97)])) else (none)) else (none))) else (if x0.toList=([]:List UInt8) then (some (([]:List Int),0,([]:List Int),false)) else ((spec_PlaceText.f k ah aj ak).bind fun av=>(if av.toList=x0.toList then (some (ah,aj,ak,true)) else (some (([]:List Int),0,([]:List Int),false)))))) else (none)
end
def spec_ReadPlace.f (k:Nat) (a0:ByteArray):Option (List Int×Int×List Int×Bool):=(spec_l1Cut.f k a0 32).bind fun ab=>(if (ab.length:Int)=3 then (if 1<(ab.length:Int) then ((spec_l15Signed.f k (rdOf ByteArray.empty ab 1)).bind fun aA=>(if 0<(ab.length:Int) then ((spec_l1Cut.f k (rdOf ByteArray.empty ab 0) 44).bind fun ao=>(spec_ReadPlace.l0 k a0 ab ao 0 ([]:List Int) aA)) else (none))) else (none)) else (some (([]:List Int),0,([]:List Int),false)))
def spec_ReadPlace.T9:Bool×List (List Nat×List Nat):=(true,[([],[]),([0],[0]),([],[]),([],[]),([2,3],[2,3]),([4],[4]),([5],[5]),([6],[6]),([1,7,6],[1,7]),([0,1,2,3,4,5,6,7,8],[]),([9,8,8,0,1,2,3,4,5,6,7,8],[8,9])])
def spec_ReadPlace.B9:List Nat:=[0,1,0,0,12,28,60,124,255,511,1023]
theorem spec_ReadPlace.tab9:rtab .any (opsOf Tryz.f44 9)=spec_ReadPlace.T9:=by kernel_rfl
theorem spec_ReadPlace.bits9:waitsOk spec_ReadPlace.T9.2 spec_ReadPlace.B9=true:=by kernel_rfl
def spec_ReadPlace.T13:Bool×List (List Nat×List Nat):=(true,[([],[]),([0],[0]),([],[]),([2],[2]),([3],[3]),([],[]),([4,5],[4,5]),([6],[6]),([7],[7]),([8],[8]),([1,9],[1,9]),([0,1,2,3,4,5,6,7,8,9,10],[]),([11,10,10,0,1,2,3,4,5,6,7,8,9,10],[10,11])])
def spec_ReadPlace.B13:List Nat:=[0,1,0,4,12,0,60,124,252,508,1023,2047,4095]
theorem spec_ReadPlace.tab13:rtab .any (opsOf Tryz.f44 13)=spec_ReadPlace.T13:=by kernel_rfl
theorem spec_ReadPlace.bits13:waitsOk spec_ReadPlace.T13.2 spec_ReadPlace.B13=true:=by kernel_rfl
theorem spec_ReadPlace.z0 {P_:Prop} (h_:P_:=by (try go_wp2_with (first|((with_reducible refine gd_ 42 ?_);(try clear ix_);obtain ⟨p_,q_,ad_,e_,x0⟩:=a2_ (Kd.at_string (gC_ st Kd.string B10_0 ab) 2);have ix_:=ix1_ Tryz.underlying95 e_ p_ q_ (c:=d10_0);clear e_;(try simp only [Addr.add,Int.reduceToNat,Nat.reduceMul,Nat.reduceEqDiff,↓reduceIte] at ix_ x0);go_step)|((with_reducible refine gd_ 48 ?_);(try clear ix_);obtain ⟨p_,q_,ad_,e_,x0⟩:=a2_ (Kd.at_string (gC_ st Kd.string B10_0 ab) 2);have ix_:=ix1_ Tryz.underlying95 e_ p_ q_ (c:=d10_0);clear e_;(try simp only [Addr.add,Int.reduceToNat,Nat.reduceMul,Nat.reduceEqDiff,↓reduceIte] at ix_ x0);go_step)|((with_reducible refine gs_ 2 ?_);refine so3_ st ?_;clear st cl;intro w_ st;have cl:=cl_ st)|((with_reducible refine gc_ 62 ?_);refine gate_guard (by rfl) ?_;dsimp only;refine ca_ (some 70) Tryz.func62 _ (spec_PlaceText.calls k2 ac ag _ _ af ai _ _ _ (gtl_ st) (gtl_ st) (gtl_ st) (gtl_ st) A_70.out) ?_;rintro e w_ ⟨rfl,hb⟩;refine ⟨_,rfl,?_⟩;replace st:=st.ev hb;clear cl hb;have cl:=cl_ st)));(all_goals (try ((try clear ix_);obtain ⟨p_,q_,ad_286,e_286,x0⟩:=a2_ (Kd.at_string (gC_ st Kd.string B10_0 ab) 2);have ix286:=ix1_ Tryz.underlying95 e_286 p_ q_ (c:=d10_0);(try simp only [Addr.add,Int.reduceToNat,Nat.reduceMul,Nat.reduceEqDiff,↓reduceIte] at ix286);replace e_286:=A_ e_286;clear x0;refine rg_ st [12] ?_;clear st cl;intro w_ st hs;have cl:=cl_ st;refine with_tabW spec_ReadPlace.tab13 spec_ReadPlace.bits13 (fun HT_ HW_=>?_);refine pv_ 0 ?_;refine pv_ 2 ?_;refine pv_ 3 ?_;refine pv_ 5 ?_;refine tu_ 1 ?_;refine tu_ 4 ?_ (hy:=by intro w' s_;have cl:=cl_ s_;obtain ⟨_,_,_,e_,x0⟩:=a2_ (Kd.at_string (gC_ s_ Kd.string B10_0 ab) 2);rw [cq_ e_286.out e_] at x0;(try simp only [Addr.add,Int.reduceToNat,Nat.reduceMul,Nat.reduceEqDiff,↓reduceIte] at x0);clear e_;go_simp;first|with_reducible rfl|(rw [if_neg (by omega)];done));refine pv_ 6 ?_;refine pv_ 7 ?_;refine pv_ 8 ?_;refine ov_ 9 (fun K hK=>?_);refine bs2_ st [.int .i64 (wrap64 ((wrap64 (bt (rdOf ByteArray.empty ab 2) al)) - 97))] 3 ?_;refine hK.out _ _ (st.ev (la_ (Below.refl _ _) _)).en (fun hs=>?_);clear hK K;refine nr_ 63 ?_;refine ov_ 10 (fun K hK=>?_);refine ap2_ af ad (wrap64 ((wrap64 (bt (rdOf ByteArray.empty ab 2) al)) - 97)) [.int .i64 (wrap64 ((wrap64 (bt (rdOf ByteArray.empty ab 2) al)) - 97))] ((.int .i64 0)) 8 st Tryz.underlying29 ?_ (hl:=by have:=aR.out;omega);clear st cl;intro P64 q64 w_ st;have cl:=cl_ st;refine hK.out _ _ st.en (fun hs=>?_);clear hK K;refine nr_ 64 ?_;refine pv_ 11 ?_;refine lv_ 12 (fun K hK=>?_);refine sp1_ st ?_;clear st cl;intro w_ st;have cl:=cl_ st;refine hK.out _ _ ?_;clear hK K;refine done_ (done_of HT_.out (by kernel_rfl)) ?_;clear ix286;all_goals (try go_wp2_with (first|((with_reducible refine gd_ 42 ?_);(try clear ix_);obtain ⟨p_,q_,ad_,e_,x0⟩:=a2_ (Kd.at_string (gC_ st Kd.string B10_0 ab) 2);have ix_:=ix1_ Tryz.underlying95 e_ p_ q_ (c:=d10_0);clear e_;(try simp only [Addr.add,Int.reduceToNat,Nat.reduceMul,Nat.reduceEqDiff,↓reduceIte] at ix_ x0);go_step)|((with_reducible refine gd_ 48 ?_);(try clear ix_);obtain ⟨p_,q_,ad_,e_,x0⟩:=a2_ (Kd.at_string (gC_ st Kd.string B10_0 ab) 2);have ix_:=ix1_ Tryz.underlying95 e_ p_ q_ (c:=d10_0);clear e_;(try simp only [Addr.add,Int.reduceToNat,Nat.reduceMul,Nat.reduceEqDiff,↓reduceIte] at ix_ x0);go_step)|((with_reducible refine gs_ 2 ?_);refine so3_ st ?_;clear st cl;intro w_ st;have cl:=cl_ st)|((with_reducible refine gc_ 62 ?_);refine gate_guard (by rfl) ?_;dsimp only;refine ca_ (some 70) Tryz.func62 _ (spec_PlaceText.calls k2 ac ag _ _ af ai _ _ _ (gtl_ st) (gtl_ st) (gtl_ st) (gtl_ st) A_70.out) ?_;rintro e w_ ⟨rfl,hb⟩;refine ⟨_,rfl,?_⟩;replace st:=st.ev hb;clear cl hb;have cl:=cl_ st))))));first|(refine bodyPost_ret (rct_ st Tryz.underlying31) rfl ?_;exact ⟨.slice none 0 0,.slice none 0 0,tw_,kn_,kn_,st.b⟩)|(refine bodyPost_ret (rct_ st Tryz.underlying31) rfl ?_;exact ⟨.slice ac aa.length ag,.slice af ad.length ai,tw_,(tap_ st ac aa af ad).1,(tap_ st ac aa af ad).2,st.b⟩)|(go_roundg k2;(case measure=>have:=HK1.out;have:=HK2.out;omega);(case rel=>exact ⟨(wrap64 (al+1)),((ad++[wrap64 ((wrap64 (bt (rdOf ByteArray.empty ab 2) al)) - 97)])),P64,q64,tx_,H',⟨by have:=HK1.out;have:=HK2.out;omega⟩,(by (try simp only [List.length_append,List.length_cons,List.length_nil,Nat.zero_add] at st ⊢);exact st.en)⟩))):P_:=h_
theorem spec_ReadPlace.calls (k:Nat) (a0:ByteArray) (r1:List Int) (r2:Int) (r3:List Int) (r4:Bool) (w:World) (h:spec_ReadPlace.f k a0=some (r1,r2,r3,r4)) :
  Calls Tryz.prog 44 #[.string a0] w fun e w'=>∃v0_ v2_:Value,e=.returned (.tuple #[.agg #[v0_,.int .i64 r2,v2_],.bool r4])∧Kd.R (Kd.int .i64) 3 w' w.heap.size (fun k_=>some k_≠(v2_:Value).ownBlock) v0_ r1∧Kd.R (Kd.int .i64) 3 w' w.heap.size (fun k_=>some k_≠(v0_:Value).ownBlock) v2_ r3∧Below w.heap.size w w':=by
 have hu31:=Tryz.underlying31;have st:=ST.nil w;have s0:=st;have cl:=cl_ st;have H:=h;clear h;unfold spec_ReadPlace.f at H;go_enter Tryz.func44,Tryz.ntmps44;obtain ⟨ab,A_10,H⟩:=bnd_ H;by_cases c2:(ab.length:Int)=3
 ·
  rw [if_pos c2] at H;have aL:((ab.length:Int) == 3)=true:=beq_iff_eq.mpr c2;have aM:((ab.length:Int) != 3)=false:=bne_eq_false_iff_eq.mpr c2;clear c2;replace H:=i0_ H;obtain ⟨c3,H⟩:=H;have ar:decide (1<(ab.length:Int))=true:=decide_eq_true c3;have aK:decide (1<ab.length)=true:=decide_eq_true (by omega);clear c3;obtain ⟨aA,A_18,H⟩:=bnd_ H;replace H:=i0_ H;obtain ⟨c4,H⟩:=H;have aN:decide (0<(ab.length:Int))=true:=decide_eq_true c4;have aO:decide (0<ab.length)=true:=decide_eq_true (by omega);clear c4;obtain ⟨ao,A_23,H⟩:=bnd_ H;have H':=A_ H;clear H;go_wp2_with (first|((with_reducible refine gd_ 2 ?_);refine al_ st ?_;clear st cl;intro g2 w_ st;have cl:=cl_ st)|((with_reducible refine gc_ 66 ?_);refine ca_ (some 10) Tryz.func66 _ (spec_l1Cut.calls k _ _ _ _ A_10.out) ?_;rintro e w_ ⟨v0,rfl,h0,hb⟩;refine ⟨_,rfl,?_⟩;obtain ⟨B10_0,d10_0,rfl⟩:=Kd.R_slice h0;replace st:=st.p1 hb (st.mr h0);clear cl hb h0;have cl:=cl_ st)|((with_reducible refine gd_ 16 ?_);(try clear ix_);obtain ⟨p_,q_,ad_,e_,x0⟩:=a2_ (Kd.at_string (gC_ st Kd.string B10_0 ab) 1);have ix_:=ix1_ Tryz.underlying95 e_ p_ q_ (c:=d10_0);clear e_;(try simp only [Addr.add,Int.reduceToNat,Nat.reduceMul,Nat.reduceEqDiff,↓reduceIte] at ix_ x0);go_step)|((with_reducible refine gc_ 67 ?_);refine ca_ (some 18) Tryz.func67 _ (spec_l15Signed.calls k _ _ _ A_18.out) ?_;rintro e w_ ⟨rfl,hb⟩;refine ⟨_,rfl,?_⟩;replace hb:=hb.below;replace st:=st.ev hb;clear cl hb;have cl:=cl_ st)|((with_reducible refine gd_ 5 ?_);refine al_ st ?_;clear st cl;intro g5 w_ st;have cl:=cl_ st)|((with_reducible refine gs_ 5 ?_);refine so3_ st ?_;clear st cl;intro w_ st;have cl:=cl_ st)|((with_reducible refine gd_ 21 ?_);(try clear ix_);obtain ⟨p_,q_,ad_,e_,x0⟩:=a2_ (Kd.at_string (gC_ st Kd.string B10_0 ab) 0);have ix_:=ix1_ Tryz.underlying95 e_ p_ q_ (c:=d10_0);clear e_;(try simp only [Addr.add,Int.reduceToNat,Nat.reduceMul,Nat.reduceEqDiff,↓reduceIte] at ix_ x0);go_step)|((with_reducible refine gc_ 66 ?_);refine ca_ (some 23) Tryz.func66 _ (spec_l1Cut.calls k _ _ _ _ A_23.out) ?_;rintro e w_ ⟨v0,rfl,h0,hb⟩;refine ⟨_,rfl,?_⟩;obtain ⟨B23_0,d23_0,rfl⟩:=Kd.R_slice h0;replace st:=st.p1 hb (st.mr h0);clear cl hb h0;have cl:=cl_ st))
  go_loopg [7] k (fun kq v7 w'=>∃(an:Int) (aa:List Int) (ac:Option Addr) (ag:Nat),v7=.int .i64 an∧Aside0 (spec_ReadPlace.l0 kq a0 ab ao an aa aA=some (r1,r2,r3,r4))∧Aside0 (kq≤k)∧ST w [AR Kd.string 9 w.heap.size (.slice B10_0 ab.length d10_0) ab,AR Kd.string 9 w.heap.size (.slice B23_0 ao.length d23_0) ao] [AR (Kd.int .i64) 3 w.heap.size (.slice none 0 0) ([]:List Int),AR (Kd.int .i64) 3 w.heap.size (.slice none 0 0) ([]:List Int),AR (Kd.int .i64) 3 w.heap.size (.slice ac aa.length ag) aa,AR (Kd.int .i64) 3 w.heap.size (.slice none 0 0) ([]:List Int),Bx g2 #[.slice none 0 0,.int .i64 0,.slice none 0 0] 31,Bx g5 #[.slice ac aa.length ag,.int .i64 aA,.slice none 0 0] 31] w')
  case atStart=>exact ⟨(0),(([]:List Int)),none,0,tx_,H',⟨Nat.le_refl _⟩,((((st.nl (Kd.int .i64) 3).nl (Kd.int .i64) 3).nl (Kd.int .i64) 3).nl (Kd.int .i64) 3).en⟩
  case round =>
   clear H' st cl;obtain ⟨an,aa,ac,ag,rfl,HA,HK1,st⟩:=hrel;have cl:=cl_ st
   cases gk with
   |zero=>exact absurd HA.out (by simp [spec_ReadPlace.l0])
   |succ k1 =>
    have H:=HA.out;clear HA;simp only [spec_ReadPlace.l0] at H;replace H:=it_ H;rcases H with ⟨aq,H⟩|⟨aq,H⟩
    ·
     replace H:=in_ H;obtain ⟨aP,H⟩:=H;obtain ⟨az,A_36,H⟩:=bnd_ H;replace H:=il_ H;obtain ⟨a9,H⟩:=H;have H':=A_ H;clear H;(try go_wp2);(all_goals ((try clear ix_);obtain ⟨p_,q_,ad_278,e_278,x0⟩:=a2_ (Kd.at_string (gC_ st Kd.string B23_0 ao) an);have ix278:=ix1_ Tryz.underlying95 e_278 p_ q_ (c:=d23_0);replace e_278:=A_ e_278;clear x0;refine rg_ st [10] ?_;clear st cl;intro w_ st hs;have cl:=cl_ st;refine with_tabW spec_ReadPlace.tab9 spec_ReadPlace.bits9 (fun HT_ HW_=>?_);refine pv_ 0 ?_;refine pv_ 2 ?_;refine pv_ 3 ?_;refine pv_ 4 ?_;refine tu_ 1 ?_;refine tu_ 5 ?_ (hy:=by intro w' s_;have cl:=cl_ s_;obtain ⟨_,_,_,e_,x0⟩:=a2_ (Kd.at_string (gC_ s_ Kd.string B23_0 ao) an);rw [cq_ e_278.out e_] at x0;clear e_;go_simp;first|with_reducible rfl|(rw [if_neg (by omega)];done));refine ov_ 6 (fun K hK=>?_);refine ca2_ (some 36) Tryz.func68 _ (spec_l1Digits.calls k1 _ _ _ A_36.out) ?_;rintro e w_ ⟨rfl,hb⟩;refine ⟨_,rfl,?_⟩;replace hb:=hb.below;replace st:=st.ev hb;clear cl hb;have cl:=cl_ st;refine hK.out _ _ st.en (fun hs=>?_);clear hK K;refine nr_ 36 ?_;refine ov_ 7 (fun K hK=>?_);refine bs2_ st [.int .i64 az] 3 ?_;refine hK.out _ _ (st.ev (la_ (Below.refl _ _) _)).en (fun hs=>?_);clear hK K;refine nr_ 37 ?_;refine ov_ 8 (fun K hK=>?_);refine ap2_ ac aa az [.int .i64 az] ((.int .i64 0)) 8 st Tryz.underlying29 ?_ (hl:=by have:=a9.out;omega);clear st cl;intro P38 q38 w_ st;have cl:=cl_ st;refine hK.out _ _ st.en (fun hs=>?_);clear hK K;refine nr_ 38 ?_;refine pv_ 9 ?_;refine lv_ 10 (fun K hK=>?_);refine sp1_ st ?_;clear st cl;intro w_ st;have cl:=cl_ st;refine hK.out _ _ ?_;clear hK K;refine done_ (done_of HT_.out (by kernel_rfl)) ?_;clear ix278;all_goals (try go_wp2)))
     go_roundg k1
     case measure=>have:=HK1.out;omega
     case rel=>exact ⟨(wrap64 (an+1)),((aa++[az])),P38,q38,tx_,H',⟨by have:=HK1.out;omega⟩,(by (try simp only [List.length_append,List.length_cons,List.length_nil,Nat.zero_add] at st ⊢);exact (((st.nl (Kd.int .i64) 3).nl (Kd.int .i64) 3).nl (Kd.int .i64) 3).en)⟩
    ·
     have H':=A_ H;clear H;go_wp2
     go_loopg [8] k1 (fun kq v8 w'=>∃(al:Int) (ad:List Int) (af:Option Addr) (ai:Nat),v8=.int .i64 al∧Aside0 (spec_ReadPlace.l1 kq a0 ab al aa aA ad=some (r1,r2,r3,r4))∧Aside0 (kq≤k1)∧ST w [AR Kd.string 9 w.heap.size (.slice B10_0 ab.length d10_0) ab] [AR (Kd.int .i64) 3 w.heap.size (.slice ac aa.length ag) aa,AR (Kd.int .i64) 3 w.heap.size (.slice af ad.length ai) ad,Bx g2 #[.slice none 0 0,.int .i64 0,.slice none 0 0] 31,Bx g5 #[.slice ac aa.length ag,.int .i64 aA,.slice af ad.length ai] 31] w')
     case atStart=>exact ⟨(0),(([]:List Int)),none,0,tx_,H',⟨Nat.le_refl _⟩,(st.nl (Kd.int .i64) 3).en⟩
     case round =>
      clear H' st cl;obtain ⟨al,ad,af,ai,rfl,HA,HK2,st⟩:=hrel;have cl:=cl_ st
      cases gk with
      |zero=>exact absurd HA.out (by simp [spec_ReadPlace.l1])
      |succ k2 =>
       have H:=HA.out;clear HA;simp only [spec_ReadPlace.l1] at H;replace H:=i0_ H;obtain ⟨c10,H⟩:=H;have aI:decide (2<(ab.length:Int))=true:=decide_eq_true c10;have aQ:decide (2<ab.length)=true:=decide_eq_true (by omega);clear c10;replace H:=it_ H;rcases H with ⟨aU,H⟩|⟨aU,H⟩
       ·
        by_cases c12:(rdOf ByteArray.empty ab 2).toList=([46]:List UInt8)
        ·
         rw [if_pos c12] at H;have aD:((rdOf ByteArray.empty ab 2).toList == ([46]:List UInt8))=true:=beq_iff_eq.mpr c12;have aV:((rdOf ByteArray.empty ab 2).toList != ([46]:List UInt8))=false:=bne_eq_false_iff_eq.mpr c12;clear c12;by_cases c13:a0.toList=([]:List UInt8)
         ·
          rw [if_pos c13] at H;have aG:(a0.toList == ([]:List UInt8))=true:=beq_iff_eq.mpr c13;have aW:(a0.toList != ([]:List UInt8))=false:=bne_eq_false_iff_eq.mpr c13;clear c13;obtain ⟨rfl,rfl,rfl,rfl⟩:=sj4_ H;exact spec_ReadPlace.z0
         ·
          rw [if_neg c13] at H;have aG:(a0.toList == ([]:List UInt8))=false:=beq_eq_false_iff_ne.mpr c13;have aW:(a0.toList != ([]:List UInt8))=true:=bne_iff_ne.mpr c13;obtain ⟨au,A_70,H⟩:=bnd_ H;by_cases c14:au.toList=a0.toList
          ·
           rw [if_pos c14] at H;have aE:(au.toList == a0.toList)=true:=beq_iff_eq.mpr c14;have aX:(au.toList != a0.toList)=false:=bne_eq_false_iff_eq.mpr c14;clear c14;obtain ⟨rfl,rfl,rfl,rfl⟩:=sj4_ H;exact spec_ReadPlace.z0
          ·
           rw [if_neg c14] at H;have aE:(au.toList == a0.toList)=false:=beq_eq_false_iff_ne.mpr c14;have aX:(au.toList != a0.toList)=true:=bne_iff_ne.mpr c14;obtain ⟨rfl,rfl,rfl,rfl⟩:=sj4_ H;exact spec_ReadPlace.z0
        ·
         rw [if_neg c12] at H;have aD:((rdOf ByteArray.empty ab 2).toList == ([46]:List UInt8))=false:=beq_eq_false_iff_ne.mpr c12;have aV:((rdOf ByteArray.empty ab 2).toList != ([46]:List UInt8))=true:=bne_iff_ne.mpr c12;replace H:=in_ H;obtain ⟨be,H⟩:=H;have y16a:(0≤(al:Int))=True:=eq_true (by first|exact od_|omega);have y16b:((al:Int)<((rdOf ByteArray.empty ab 2).size:Int))=True:=eq_true (by first|exact od_|omega);have y16x:=bt_at (rdOf ByteArray.empty ab 2) al;replace H:=il_ H;obtain ⟨aR,H⟩:=H;have H':=A_ H;clear H;exact spec_ReadPlace.z0
       ·
        by_cases c18:a0.toList=([]:List UInt8)
        ·
         rw [if_pos c18] at H;have aY:(a0.toList == ([]:List UInt8))=true:=beq_iff_eq.mpr c18;have aZ:(a0.toList != ([]:List UInt8))=false:=bne_eq_false_iff_eq.mpr c18;clear c18;obtain ⟨rfl,rfl,rfl,rfl⟩:=sj4_ H;exact spec_ReadPlace.z0
        ·
         rw [if_neg c18] at H;have aY:(a0.toList == ([]:List UInt8))=false:=beq_eq_false_iff_ne.mpr c18;have aZ:(a0.toList != ([]:List UInt8))=true:=bne_iff_ne.mpr c18;obtain ⟨av,A_70,H⟩:=bnd_ H;by_cases c19:av.toList=a0.toList
         ·
          rw [if_pos c19] at H;have a3:(av.toList == a0.toList)=true:=beq_iff_eq.mpr c19;have a4:(av.toList != a0.toList)=false:=bne_eq_false_iff_eq.mpr c19;clear c19;obtain ⟨rfl,rfl,rfl,rfl⟩:=sj4_ H;exact spec_ReadPlace.z0
         ·
          rw [if_neg c19] at H;have a3:(av.toList == a0.toList)=false:=beq_eq_false_iff_ne.mpr c19;have a4:(av.toList != a0.toList)=true:=bne_iff_ne.mpr c19;obtain ⟨rfl,rfl,rfl,rfl⟩:=sj4_ H;exact spec_ReadPlace.z0
 ·
  rw [if_neg c2] at H;have aL:((ab.length:Int) == 3)=false:=beq_eq_false_iff_ne.mpr c2;have aM:((ab.length:Int) != 3)=true:=bne_iff_ne.mpr c2;obtain ⟨rfl,rfl,rfl,rfl⟩:=sj4_ H;go_wp2_with (first|((with_reducible refine gd_ 2 ?_);refine al_ st ?_;clear st cl;intro g2 w_ st;have cl:=cl_ st)|((with_reducible refine gc_ 66 ?_);refine ca_ (some 10) Tryz.func66 _ (spec_l1Cut.calls k _ _ _ _ A_10.out) ?_;rintro e w_ ⟨v0,rfl,h0,hb⟩;refine ⟨_,rfl,?_⟩;obtain ⟨B10_0,d10_0,rfl⟩:=Kd.R_slice h0;replace st:=st.p1 hb (st.mr h0);clear cl hb h0;have cl:=cl_ st)|((with_reducible refine gs_ 2 ?_);refine so3_ st ?_;clear st cl;intro w_ st;have cl:=cl_ st));refine bodyPost_ret (rct_ st Tryz.underlying31) rfl ?_;exact ⟨.slice none 0 0,.slice none 0 0,tw_,kn_,kn_,st.b⟩
def spec_StoreOk.f (k:Nat) (a0_0:ByteArray) (a0_1:ByteArray) (a0_2:Int):Option (Bool):=(spec_ReadPlace.f k a0_0).bind fun a5=>(if a5.2.2.2=true then (if (a0_1.size:Int)≤1000 then ((spec_l1In.f a0_2 0 (a0_1.size:Int)).bind fun a6=>(some a6)) else (some false)) else (some false))
theorem spec_StoreOk.z0 {P_:Prop} (h_:P_:=by go_wp2_with (first|((with_reducible refine gd_ 1 ?_);refine al_ st ?_;clear st cl;intro g1 w_ st;have cl:=cl_ st)|((with_reducible refine gc_ 44 ?_);refine ca_ (some 8) Tryz.func44 _ (spec_ReadPlace.calls k _ _ _ _ _ _ A_8.out) ?_;rintro e w_ ⟨v0,v1,rfl,h0,h1,hb⟩;refine ⟨_,rfl,?_⟩;obtain ⟨B8_0,d8_0,rfl⟩:=Kd.R_slice h0;obtain ⟨B8_2,d8_2,rfl⟩:=Kd.R_slice h1;replace st:=st.p2 hb (st.mr h0) (st.mr h1);clear cl hb h0 h1;have cl:=cl_ st)|((with_reducible refine gd_ 3 ?_);refine al_ st ?_;clear st cl;intro g3 w_ st;have cl:=cl_ st)|((with_reducible refine gs_ 3 ?_);refine so3_ st ?_;clear st cl;intro w_ st;have cl:=cl_ st)|((with_reducible refine gc_ 45 ?_);refine gate_guard (by rfl) ?_;dsimp only;refine ca_ (some 24) Tryz.func45 _ (spec_l1In.calls _ _ _ _ _ A_24.out) ?_;rintro e w_ ⟨rfl,hb⟩;refine ⟨_,rfl,?_⟩;replace hb:=hb.below;replace st:=st.ev hb;clear cl hb;have cl:=cl_ st));(go_ret;exact ⟨tw_,st.b⟩)):P_:=h_
theorem spec_StoreOk.calls (k:Nat) (a0_0:ByteArray) (a0_1:ByteArray) (a0_2:Int) (r:Bool) (w:World) (h:spec_StoreOk.f k a0_0 a0_1 a0_2=some r) :
  Calls Tryz.prog 17 #[.agg #[.string a0_0,.string a0_1,.int .i64 a0_2]] w fun e w'=>e=.returned (.bool r)∧Below w.heap.size w w':=by
 have hu24:=Tryz.underlying24;have hu31:=Tryz.underlying31;have st:=ST.nil w;have s0:=st;have cl:=cl_ st;have H:=h;clear h;unfold spec_StoreOk.f at H;go_enter Tryz.func17,Tryz.ntmps17;obtain ⟨⟨bh,bi,bj,bb⟩,A_8,H⟩:=bnd_ H;(try dsimp only at H);rcases bx_ bb with rfl|rfl
 ·
  replace H:=bt_ H;by_cases c2:(a0_1.size:Int)≤1000
  ·
   rw [if_pos c2] at H;have aL:decide ((a0_1.size:Int)≤1000)=true:=decide_eq_true c2;have aM:decide (a0_1.size≤1000)=true:=decide_eq_true (by omega);clear c2;obtain ⟨a6,A_24,H⟩:=bnd_ H;obtain rfl:=Option.some.inj H;exact spec_StoreOk.z0
  ·
   rw [if_neg c2] at H;have aL:decide ((a0_1.size:Int)≤1000)=false:=decide_eq_false c2;have aM:decide (a0_1.size≤1000)=false:=decide_eq_false (by omega);clear c2;obtain rfl:=Option.some.inj H;exact spec_StoreOk.z0
 ·
  replace H:=bf_ H;obtain rfl:=Option.some.inj H;exact spec_StoreOk.z0
end Go.Proofs.YtdllgaelpanblaaGreatDoor.MFnStoreSameWay
