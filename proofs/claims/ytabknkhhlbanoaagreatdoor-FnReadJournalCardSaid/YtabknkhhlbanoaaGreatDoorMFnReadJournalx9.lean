/- Walks for FnReadJournal: a call returns what the plain function tells. Conditions: in each statement. -/
import Derived.Test.YtabknkhhlbanoaaGreatDoorMFnReadJournalx8
namespace Go.Proofs.YtabknkhhlbanoaaGreatDoor.MFnReadJournal
open Go.RowKit Go.Proofs.YtabknkhhlbanoaaGreatDoorW.PrintWords Go.Proofs.YtabknkhhlbanoaaGreatDoorW.PrintLast Go.Proofs.YtabknkhhlbanoaaGreatDoorW.PrintMore
set_option linter.unusedVariables false
set_option linter.unusedSimpArgs false
set_option maxHeartbeats 8000000
set_option maxRecDepth 100000
mutual
def spec_l1Digits.j0:Nat→ByteArray→Bool→Option (Int)
 |0,_,_=>none
 |k+1,x0,x18=>if x18=true then (some (-1)) else (spec_l1Digits.l0 k x0 0 0)
def spec_l1Digits.l0:Nat→ByteArray→Int→Int→Option (Int)
 |0,_,_,_=>none
 |k+1,x0,x3,x4=>if x4<(x0.size:Int) then (if 0≤x4 then (if (bt x0 x4)<48 then (some (-1)) else (if (bt x0 x4)>57 then (some (-1)) else (spec_l1Digits.l0 k x0 (wrap64 ((wrap64 (10*x3))+(((bt x0 x4) - 48) % 256))) (wrap64 (x4+1))))) else (none)) else (some x3)
end
def spec_l1Digits.f (k:Nat) (a0:ByteArray):Option (Int):=(spec_l1In.f (a0.size:Int) 1 6).bind fun aG=>(if aG=true then (if (a0.size:Int)>1 then (if 0<(a0.size:Int) then (spec_l1Digits.j0 k a0 ((bt a0 0) == 48)) else (none)) else (spec_l1Digits.j0 k a0 false)) else (spec_l1Digits.j0 k a0 true))
theorem spec_l1Digits.mono_l:∀k,(∀y0 y1,LeO (spec_l1Digits.j0 k y0 y1) (spec_l1Digits.j0 (k+1) y0 y1))∧(∀y0 y1 y2,LeO (spec_l1Digits.l0 k y0 y1 y2) (spec_l1Digits.l0 (k+1) y0 y1 y2))
 |0=>⟨fun _ _ r h=>by simp [spec_l1Digits.j0] at h,fun _ _ _ r h=>by simp [spec_l1Digits.l0] at h⟩
 |k+1=>by
  obtain ⟨ih0,ih1⟩:=spec_l1Digits.mono_l k
  refine ⟨?_,?_⟩
  ·
   intro y0 y1
   unfold spec_l1Digits.j0
   repeat' (with_reducible first|exact ih0 _ _|exact ih1 _ _ _|exact mr_|exact mn_|refine mi_ ?_ ?_|refine mb_ ?_ (fun _=>?_))
  ·
   intro y0 y1 y2
   unfold spec_l1Digits.l0
   repeat' (with_reducible first|exact ih0 _ _|exact ih1 _ _ _|exact mr_|exact mn_|refine mi_ ?_ ?_|refine mb_ ?_ (fun _=>?_))
theorem spec_l1Digits.mono:∀a0 k,LeO (spec_l1Digits.f k a0) (spec_l1Digits.f (k+1) a0):=by
 intro a0 k;obtain ⟨ih0,ih1⟩:=spec_l1Digits.mono_l k;unfold spec_l1Digits.f;repeat' (with_reducible first|exact ih0 _ _|exact ih1 _ _ _|exact mr_|exact mn_|refine mi_ ?_ ?_|refine mb_ ?_ (fun _=>?_))
theorem spec_l1Digits.calls (k:Nat) (a0:ByteArray) (r:Int) (w:World) (h:spec_l1Digits.f k a0=some r) :
  Calls Tryz.prog 79 #[.string a0] w fun e w'=>e=.returned (.int .i64 r)∧Drawn0 w w':=by
 have H:=h;clear h;unfold spec_l1Digits.f at H;have HC2:=A_ H;clear H;go_enter Tryz.func79,Tryz.ntmps79
 go_upto_region 1 with (fail)
 go_cut [18] (fun bi wc=>∃(kq:Nat) (ay:Bool),bi=.bool ay∧Aside0 (spec_l1Digits.j0 kq a0 ay=some r)∧Aside0 (kq≤k)∧Drawn0 w wc)
 case first =>
  have H:=HC2.out;clear HC2;obtain ⟨aG,A3,H⟩:=bnd_ H;(try dsimp only at H);by_cases c4:aG=true
  ·
   subst c4;replace H:=bt_ H
   by_cases c5:(a0.size:Int)>1
   ·
    rw [if_pos c5] at H;have am:decide (1<(a0.size:Int))=true:=decide_eq_true c5;have aK:decide (1<a0.size)=true:=decide_eq_true (by omega);clear c5;(first|rw [am]|(simp only [i64_w,i32_w];rw [am])|skip);replace H:=i0_ H;obtain ⟨c6,H⟩:=H;have ar:decide (0<(a0.size:Int))=true:=decide_eq_true c6;have au:decide (0<a0.size)=true:=decide_eq_true (by omega);clear c6;have H':=A_ H;clear H;go_wp2_with (first|((with_reducible refine gc_ 48 ?_);refine gl_ (some 7) Tryz.func48 #[.int .i64 (a0.size:Int),.int .i64 1,.int .i64 6] ?_;(with_reducible refine (spec_l1In.calls (a0.size:Int) 1 6 true _ A3.out).mono ?_);rintro e w' ⟨rfl,⟨nd,rfl⟩⟩;refine ⟨_,rfl,?_⟩;have p7:0≤(0:Int):=(by omega);have q7:0<a0.size:=(by have:(0:Int)<(a0.size:Int):=od_;omega);have hx7:∀h:0<a0.size,((a0[0]'h).toNat:Int)=bt a0 0:=bt_at a0 0;clear p7;have bd:(0<(a0.size:Int))=True:=eq_true (od_);replace q7:=eq_true q7));go_meet
    case rel=>exact ⟨_,(((bt a0 0) == 48)),tx_,H',⟨by first|omega|exact Nat.le_refl _⟩,dz_⟩
   ·
    rw [if_neg c5] at H;have am:decide (1<(a0.size:Int))=false:=decide_eq_false c5;have aK:decide (1<a0.size)=false:=decide_eq_false (by omega);clear c5;(first|rw [am]|(simp only [i64_w,i32_w];rw [am])|skip);have H':=A_ H;clear H;go_wp2_with (first|((with_reducible refine gc_ 48 ?_);refine gl_ (some 7) Tryz.func48 #[.int .i64 (a0.size:Int),.int .i64 1,.int .i64 6] ?_;(with_reducible refine (spec_l1In.calls (a0.size:Int) 1 6 true _ A3.out).mono ?_);rintro e w' ⟨rfl,⟨nd,rfl⟩⟩;refine ⟨_,rfl,?_⟩));go_meet
    case rel=>exact ⟨_,(false),tx_,H',⟨by first|omega|exact Nat.le_refl _⟩,dz_⟩
  ·
   replace c4:=Bool.eq_false_iff.mpr c4;subst c4;replace H:=bf_ H
   have H':=A_ H;clear H;go_wp2_with (first|((with_reducible refine gc_ 48 ?_);refine gl_ (some 7) Tryz.func48 #[.int .i64 (a0.size:Int),.int .i64 1,.int .i64 6] ?_;(with_reducible refine (spec_l1In.calls (a0.size:Int) 1 6 false _ A3.out).mono ?_);rintro e w' ⟨rfl,⟨nd,rfl⟩⟩;refine ⟨_,rfl,?_⟩));go_meet
   case rel=>exact ⟨_,(true),tx_,H',⟨by first|omega|exact Nat.le_refl _⟩,dz_⟩
 case rest =>
  clear HC2;obtain ⟨kq,ay,rfl,HA,HJ1,⟨mc1,rfl⟩⟩:=hcut
  cases kq with
  |zero=>exact absurd HA.out (by simp [spec_l1Digits.j0])
  |succ kj1 =>
   have H:=HA.out;clear HA;simp only [spec_l1Digits.j0] at H;by_cases c8:ay=true
   ·
    subst c8;replace H:=bt_ H
    obtain rfl:=Option.some.inj H;go_wp2;go_ret;exact ⟨tx_,dz_⟩
   ·
    replace c8:=Bool.eq_false_iff.mpr c8;subst c8;replace H:=bf_ H
    have H':=A_ H;clear H;go_wp2
    go_loopg [3,4] kj1 (fun kq v3 v4 w'=>∃(aL:Int) (aa:Int),v3=.int .i64 aL∧v4=.int .i64 aa∧Aside0 (spec_l1Digits.l0 kq a0 aL aa=some r)∧Aside0 (kq≤kj1)∧Drawn0 w w')
    case atStart=>exact ⟨(0),(0),tx_,tx_,H',⟨Nat.le_refl _⟩,dz_⟩
    case round =>
     clear H';(try clear c8);obtain ⟨aL,aa,rfl,rfl,HA,HK2,⟨m2,rfl⟩⟩:=hrel
     cases gk with
     |zero=>exact absurd HA.out (by simp [spec_l1Digits.l0])
     |succ k2 =>
      have H:=HA.out;clear HA;simp only [spec_l1Digits.l0] at H;replace H:=it_ H;rcases H with ⟨an,H⟩|⟨an,H⟩
      ·
       replace H:=in_ H;obtain ⟨aN,H⟩:=H;replace H:=it_ H;rcases H with ⟨aV,H⟩|⟨aV,H⟩
       ·
        obtain rfl:=Option.some.inj H;have p11:0≤(aa:Int):=od_;have q11:aa<(a0.size:Int):=od_;have hx11:=bt_at a0 aa;replace p11:=eq_true p11;replace q11:=eq_true q11;go_wp2;go_ret;exact ⟨tx_,dz_⟩
       ·
        replace H:=ig_ H;rcases H with ⟨aH,H⟩|⟨aH,H⟩
        ·
         obtain rfl:=Option.some.inj H;have p11:0≤(aa:Int):=od_;have q11:aa<(a0.size:Int):=od_;have hx11:=bt_at a0 aa;replace p11:=eq_true p11;replace q11:=eq_true q11;have p13:0≤(aa:Int):=od_;have q13:aa<(a0.size:Int):=od_;have hx13:=bt_at a0 aa;replace p13:=eq_true p13;replace q13:=eq_true q13;go_wp2;go_ret;exact ⟨tx_,dz_⟩
        ·
         have H':=A_ H;clear H;have p11:0≤(aa:Int):=od_;have q11:aa<(a0.size:Int):=od_;have hx11:=bt_at a0 aa;replace p11:=eq_true p11;replace q11:=eq_true q11;have p13:0≤(aa:Int):=od_;have q13:aa<(a0.size:Int):=od_;have hx13:=bt_at a0 aa;replace p13:=eq_true p13;replace q13:=eq_true q13;have p15:0≤(aa:Int):=od_;have q15:aa<(a0.size:Int):=od_;have hx15:=bt_at a0 aa;replace p15:=eq_true p15;replace q15:=eq_true q15;go_wp2
         go_roundg k2
         case measure=>have:=HJ1.out;have:=HK2.out;omega
         case rel=>exact ⟨(wrap64 ((wrap64 (10*aL))+(((bt a0 aa) - 48) % 256))),(wrap64 (aa+1)),tx_,tx_,H',⟨by have:=HJ1.out;have:=HK2.out;omega⟩,dz_⟩
      ·
       obtain rfl:=Option.some.inj H;go_wp2;go_ret;exact ⟨tx_,dz_⟩
def spec_l15Signed.j0:Nat→ByteArray→Bool→Option (Int)
 |0,_,_=>none
 |k+1,x0,x17=>if x17=true then (if 1≤(x0.size:Int) then ((spec_l1Digits.f k (x0.extract 1 x0.size)).bind fun aI=>(some (wrap64 (-aI)))) else (none)) else ((spec_l1Digits.f k x0).bind fun ai=>(if ai<0 then (some (-100)) else (some ai)))
def spec_l15Signed.f (k:Nat) (a0:ByteArray):Option (Int):=if (a0.size:Int)>1 then (if 0<(a0.size:Int) then (if (bt a0 0)=45 then (if 1≤(a0.size:Int) then ((spec_l1Digits.f k (a0.extract 1 a0.size)).bind fun aB=>(spec_l15Signed.j0 k a0 (decide (aB>0)))) else (none)) else (spec_l15Signed.j0 k a0 false)) else (none)) else (spec_l15Signed.j0 k a0 false)
theorem spec_l15Signed.mono_l:∀k,(∀y0 y1,LeO (spec_l15Signed.j0 k y0 y1) (spec_l15Signed.j0 (k+1) y0 y1))
 |0=>fun _ _ r h=>by simp [spec_l15Signed.j0] at h
 |k+1=>by
  have ih0:=spec_l15Signed.mono_l k
  ·
   intro y0 y1
   unfold spec_l15Signed.j0
   repeat' (with_reducible first|exact ih0 _ _|exact spec_l1Digits.mono _ _|exact mr_|exact mn_|refine mi_ ?_ ?_|refine mb_ ?_ (fun _=>?_))
theorem spec_l15Signed.mono:∀a0 k,LeO (spec_l15Signed.f k a0) (spec_l15Signed.f (k+1) a0):=by
 intro a0 k;have ih0:=spec_l15Signed.mono_l k;unfold spec_l15Signed.f;repeat' (with_reducible first|exact ih0 _ _|exact spec_l1Digits.mono _ _|exact mr_|exact mn_|refine mi_ ?_ ?_|refine mb_ ?_ (fun _=>?_))
theorem spec_l15Signed.calls (k:Nat) (a0:ByteArray) (r:Int) (w:World) (h:spec_l15Signed.f k a0=some r) :
  Calls Tryz.prog 43 #[.string a0] w fun e w'=>e=.returned (.int .i64 r)∧Drawn0 w w':=by
 have H:=h;clear h;unfold spec_l15Signed.f at H;have HC2:=A_ H;clear H;go_enter Tryz.func43,Tryz.ntmps43
 go_upto_region 1 with (fail)
 go_cut [17] (fun bj wc=>∃(kq:Nat) (az:Bool),bj=.bool az∧Aside0 (spec_l15Signed.j0 kq a0 az=some r)∧Aside0 (kq≤k)∧Drawn0 w wc)
 case first =>
  have H:=HC2.out;clear HC2;by_cases c3:(a0.size:Int)>1
  ·
   rw [if_pos c3] at H;have ao:decide (1<(a0.size:Int))=true:=decide_eq_true c3;have aW:decide (1<a0.size)=true:=decide_eq_true (by omega);clear c3;(first|rw [ao]|(simp only [i64_w,i32_w];rw [ao])|skip);replace H:=i0_ H;obtain ⟨c4,H⟩:=H;have ap:decide (0<(a0.size:Int))=true:=decide_eq_true c4;have aO:decide (0<a0.size)=true:=decide_eq_true (by omega);clear c4;by_cases c6:(bt a0 0)=45
   ·
    rw [if_pos c6] at H;have ar:((bt a0 0) == 45)=true:=beq_iff_eq.mpr c6;have au:((bt a0 0) != 45)=false:=bne_eq_false_iff_eq.mpr c6;clear c6;replace H:=i0_ H;obtain ⟨c7,H⟩:=H;have aX:=eq_true c7;have aY:decide (1≤(a0.size:Int))=true:=decide_eq_true c7;clear c7;obtain ⟨aB,A8,H⟩:=bnd_ H;(try dsimp only at H);have H':=A_ H;clear H;have p5:0≤(0:Int):=(by omega)
    have q5:0<a0.size:=(by have:(0:Int)<(a0.size:Int):=od_;omega)
    have hx5:∀h:0<a0.size,((a0[0]'h).toNat:Int)=bt a0 0:=bt_at a0 0;clear p5;have be:(0<(a0.size:Int))=True:=eq_true (od_);replace q5:=eq_true q5;go_wp2_with (first|(go_at_call 79;(with_reducible refine (spec_l1Digits.calls k (a0.extract 1 a0.size) aB _ A8.out).mono ?_);rintro e w' ⟨rfl,⟨nd,rfl⟩⟩));go_meet
    case rel=>exact ⟨_,(decide (aB>0)),tx_,H',⟨by first|omega|exact Nat.le_refl _⟩,dz_⟩
   ·
    rw [if_neg c6] at H;have ar:((bt a0 0) == 45)=false:=beq_eq_false_iff_ne.mpr c6;have au:((bt a0 0) != 45)=true:=bne_iff_ne.mpr c6;have H':=A_ H;clear H;have p5:0≤(0:Int):=(by omega)
    have q5:0<a0.size:=(by have:(0:Int)<(a0.size:Int):=od_;omega)
    have hx5:∀h:0<a0.size,((a0[0]'h).toNat:Int)=bt a0 0:=bt_at a0 0;clear p5;have be:(0<(a0.size:Int))=True:=eq_true (od_);replace q5:=eq_true q5;go_wp2;go_meet
    case rel=>exact ⟨_,(false),tx_,H',⟨by first|omega|exact Nat.le_refl _⟩,dz_⟩
  ·
   rw [if_neg c3] at H;have ao:decide (1<(a0.size:Int))=false:=decide_eq_false c3;have aW:decide (1<a0.size)=false:=decide_eq_false (by omega);clear c3;(first|rw [ao]|(simp only [i64_w,i32_w];rw [ao])|skip);have H':=A_ H;clear H;go_wp2;go_meet
   case rel=>exact ⟨_,(false),tx_,H',⟨by first|omega|exact Nat.le_refl _⟩,dz_⟩
 case rest =>
  clear HC2;obtain ⟨kq,az,rfl,HA,HJ1,⟨mc1,rfl⟩⟩:=hcut
  cases kq with
  |zero=>exact absurd HA.out (by simp [spec_l15Signed.j0])
  |succ kj1 =>
   have H:=HA.out;clear HA;simp only [spec_l15Signed.j0] at H;by_cases c9:az=true
   ·
    subst c9;replace H:=bt_ H
    replace H:=i0_ H;obtain ⟨c10,H⟩:=H;have aN:=eq_true c10;have aZ:decide (1≤(a0.size:Int))=true:=decide_eq_true c10;clear c10;obtain ⟨aI,A11,H⟩:=bnd_ H;(try dsimp only at H);obtain rfl:=Option.some.inj H;go_wp2_with (first|((with_reducible refine gc_ 79 ?_);refine gl_ (some 20) Tryz.func79 #[.string (a0.extract 1 a0.size)] ?_;(with_reducible refine (spec_l1Digits.calls kj1 (a0.extract 1 a0.size) aI _ A11.out).mono ?_);rintro e w' ⟨rfl,⟨nd,rfl⟩⟩;refine ⟨_,rfl,?_⟩));go_ret;exact ⟨tx_,dz_⟩
   ·
    replace c9:=Bool.eq_false_iff.mpr c9;subst c9;replace H:=bf_ H
    obtain ⟨ai,A12,H⟩:=bnd_ H;(try dsimp only at H);replace H:=it_ H;rcases H with ⟨a1,H⟩|⟨a1,H⟩
    ·
     obtain rfl:=Option.some.inj H;go_wp2_with (first|((with_reducible refine gc_ 79 ?_);refine gl_ (some 23) Tryz.func79 #[.string a0] ?_;(with_reducible refine (spec_l1Digits.calls kj1 a0 ai _ A12.out).mono ?_);rintro e w' ⟨rfl,⟨nd,rfl⟩⟩;refine ⟨_,rfl,?_⟩));go_ret;exact ⟨tx_,dz_⟩
    ·
     obtain rfl:=Option.some.inj H;go_wp2_with (first|((with_reducible refine gc_ 79 ?_);refine gl_ (some 23) Tryz.func79 #[.string a0] ?_;(with_reducible refine (spec_l1Digits.calls kj1 a0 ai _ A12.out).mono ?_);rintro e w' ⟨rfl,⟨nd,rfl⟩⟩;refine ⟨_,rfl,?_⟩));go_ret;exact ⟨tx_,dz_⟩
mutual
def spec_ReadDeed.j0:Nat→ByteArray→List ByteArray→List (S41)→Option (Int×Int×Int×Bool)
 |0,_,_,_=>none
 |k+1,x0,x4,x5=>if (x4.length:Int)=3 then (if 1<(x4.length:Int) then ((spec_l15Signed.f k (rdOf ByteArray.empty x4 1)).bind fun av=>(if 2<(x4.length:Int) then ((spec_l15Signed.f k (rdOf ByteArray.empty x4 2)).bind fun aw=>(if x5.length<5864062014805 then (spec_ReadDeed.j1 k x0 (x5++[(⟨0,av,aw⟩:S41)])) else (none))) else (none))) else (none)) else (spec_ReadDeed.j1 k x0 x5)
def spec_ReadDeed.j1:Nat→ByteArray→List (S41)→Option (Int×Int×Int×Bool)
 |0,_,_=>none
 |k+1,x0,x5=>spec_ReadDeed.l0 k x0 x5 0
def spec_ReadDeed.l0:Nat→ByteArray→List (S41)→Int→Option (Int×Int×Int×Bool)
 |0,_,_,_=>none
 |k+1,x0,x5,x7=>if x7<(x5.length:Int) then (if x0.toList=([]:List UInt8) then (spec_ReadDeed.l0 k x0 x5 (wrap64 (x7+1))) else (if 0≤x7 then ((spec_DeedText.f k ((rd_T41 x5 x7).f0) ((rd_T41 x5 x7).f1) ((rd_T41 x5 x7).f2)).bind fun ax=>(if ax.toList=x0.toList then (some ((rd_T41 x5 x7).f0,(rd_T41 x5 x7).f1,(rd_T41 x5 x7).f2,true)) else (spec_ReadDeed.l0 k x0 x5 (wrap64 (x7+1))))) else (none))) else (some (0,0,0,false))
end
def spec_ReadDeed.f (k:Nat) (a0:ByteArray):Option (Int×Int×Int×Bool):=(spec_l1Cut.f k a0 32).bind fun ab=>((some (([(⟨3,0,0⟩:S41),(⟨4,0,0⟩:S41)]:List (S41)):List (S41))).bind fun aP=>(if (ab.length:Int)=2 then (if 1<(ab.length:Int) then ((spec_l15Signed.f k (rdOf ByteArray.empty ab 1)).bind fun ad=>((some (([(⟨1,ad,0⟩:S41),(⟨2,ad,0⟩:S41)]:List (S41)):List (S41))).bind fun a2=>(if aP.length+a2.length<5864062014805 then (spec_ReadDeed.j0 k a0 ab (aP++a2)) else (none)))) else (none)) else (spec_ReadDeed.j0 k a0 ab aP)))
def spec_ReadDeed.T7:Bool×List (List Nat×List Nat):=(true,[([],[]),([],[]),([1],[1]),([2],[2]),([3],[3]),([],[]),([5],[5]),([6],[6]),([7,4],[7]),([4,8],[4,8]),([9],[9]),([0,10,8],[0,10]),([11,11,0,1,2,3,4,5,6,7,8,9,10,11],[0,11])])
def spec_ReadDeed.B7:List Nat:=[0,0,2,6,14,0,32,96,254,510,1022,2047,4095]
theorem spec_ReadDeed.tab7:rtab .any (opsOf Tryz.f23 7)=spec_ReadDeed.T7:=by kernel_rfl
theorem spec_ReadDeed.bits7:waitsOk spec_ReadDeed.T7.2 spec_ReadDeed.B7=true:=by kernel_rfl
theorem spec_ReadDeed.z0 {P_:Prop} (h_:P_:=by go_wp2_with (first|((with_reducible refine gd_ 17 ?_);(try clear ix_);obtain ⟨p_,q_,ad_,e_,x0⟩:=a2_ (Kd.at_string (gC_ st Kd.string B9_0 ab) 1);have ix_:=ix1_ Tryz.underlying71 e_ p_ q_ (c:=d9_0);clear e_;(try simp only [Addr.add,Int.reduceToNat,Nat.reduceMul,Nat.reduceEqDiff,↓reduceIte] at ix_ x0);go_step)|((with_reducible refine gc_ 43 ?_);refine ca_ (some 19) Tryz.func43 _ (spec_l15Signed.calls k _ _ _ A_19.out) ?_;rintro e w_ ⟨rfl,hb⟩;refine ⟨_,rfl,?_⟩;replace hb:=hb.below;replace st:=st.ev hb;clear cl hb;have cl:=cl_ st)|((with_reducible refine gd_ 25 ?_);refine nw_ k41 41 (([(⟨1,ad,0⟩:S41),(⟨2,ad,0⟩:S41)]:List (S41)):List (S41)) [.int .i64 1,.int .i64 ad,.int .i64 0,.int .i64 2,.int .i64 ad,.int .i64 0] st ?_ (hrep:=by repeat (first|exact Reps.none _ _|refine Reps.c3 (k41_mkM _ _ _ _) ?_));clear st cl;intro B25_0 d25_0 w_ st;have cl:=cl_ st)|((with_reducible refine gd_ 26 ?_);refine apr_ B12_0 (([(⟨3,0,0⟩:S41),(⟨4,0,0⟩:S41)]:List (S41))) (([(⟨1,ad,0⟩:S41),(⟨2,ad,0⟩:S41)]:List (S41))) B25_0 d25_0 ((.agg #[(.int .i64 0),(.int .i64 0),(.int .i64 0)])) 24 st Tryz.underlying24 (gt_ st) ?_ (hl:=by have:=bb.out;omega) (hKM:=fun x _ h=>k41_open h ▸ k41_mkM _ _ _ x);clear st cl;intro P26 q26 w_ st;have cl:=cl_ st));first|(go_meet;(case rel=>exact ⟨_,(((([(⟨3,0,0⟩:S41),(⟨4,0,0⟩:S41)]:List (S41)))++(([(⟨1,ad,0⟩:S41),(⟨2,ad,0⟩:S41)]:List (S41))))),P26,q26,tx_,H',⟨by first|omega|exact Nat.le_refl _⟩,st.en⟩))|(go_meet;(case rel=>exact ⟨_,((([(⟨3,0,0⟩:S41),(⟨4,0,0⟩:S41)]:List (S41)))),B12_0,d12_0,tx_,H',⟨by first|omega|exact Nat.le_refl _⟩,st.en⟩))):P_:=h_
theorem spec_ReadDeed.z1 {P_:Prop} (h_:P_:=by go_wp2_with (first|((with_reducible refine gd_ 53 ?_);(try clear ix_);obtain ⟨p_,q_,ad_,e_,x0,x1,x2⟩:=a2_ (at_T41 (gC_ st k41 aC ae) aj);have ix_:=ix3_ Tryz.underlying24 e_ p_ q_ (c:=aD);clear e_;go_step)|((with_reducible refine gc_ 36 ?_);refine gate_guard (by rfl) ?_;dsimp only;refine ca_ (some 55) Tryz.func36 _ (spec_DeedText.calls k3 _ _ _ _ _ A_55.out) ?_;rintro e w_ ⟨rfl,hb⟩;refine ⟨_,rfl,?_⟩;replace st:=st.ev hb;clear cl hb;have cl:=cl_ st)|((with_reducible refine gd_ 61 ?_);(try clear ix_);obtain ⟨p_,q_,ad_,e_,x0,x1,x2⟩:=a2_ (at_T41 (gC_ st k41 aC ae) aj);have ix_:=ix3_ Tryz.underlying24 e_ p_ q_ (c:=aD);clear e_;go_step)|((with_reducible refine gs_ 2 ?_);refine so3_ st ?_;clear st cl;intro w_ st;have cl:=cl_ st));first|(go_roundg k3;(case measure=>have:=HJ2.out;have:=HJ7.out;have:=HK3.out;omega);(case rel=>exact ⟨(wrap64 (aj+1)),(af),(ag),(ah),tx_,H',⟨by have:=HJ2.out;have:=HJ7.out;have:=HK3.out;omega⟩,st.en⟩))|(refine bodyPost_ret (rct_ st Tryz.underlying41) rfl ?_;exact ⟨tw_,st.b⟩)):P_:=h_
theorem spec_ReadDeed.calls (k:Nat) (a0:ByteArray) (r1:Int) (r2:Int) (r3:Int) (r4:Bool) (w:World) (h:spec_ReadDeed.f k a0=some (r1,r2,r3,r4)) :
  Calls Tryz.prog 23 #[.string a0] w fun e w'=>e=.returned (.tuple #[.agg #[.int .i64 r1,.int .i64 r2,.int .i64 r3],.bool r4])∧Below w.heap.size w w':=by
 have hu41:=Tryz.underlying41;have st:=ST.nil w;have s0:=st;have cl:=cl_ st;have H:=h;clear h;unfold spec_ReadDeed.f at H;go_enter Tryz.func23,Tryz.ntmps23;obtain ⟨ab,A_9,H⟩:=bnd_ H;replace H:=sm_ H;(try dsimp only at H);have HC3:=A_ H;clear H
 go_upto_if 15 with (first|((with_reducible refine gd_ 2 ?_);refine al_ st ?_;clear st cl;intro g2 w_ st;have cl:=cl_ st)|((with_reducible refine gc_ 42 ?_);refine ca_ (some 9) Tryz.func42 _ (spec_l1Cut.calls k _ _ _ _ A_9.out) ?_;rintro e w_ ⟨v0,rfl,h0,hb⟩;refine ⟨_,rfl,?_⟩;obtain ⟨B9_0,d9_0,rfl⟩:=Kd.R_slice h0;replace st:=st.p1 hb (st.mr h0);clear cl hb h0;have cl:=cl_ st)|((with_reducible refine gd_ 12 ?_);refine nwl_ k41 41 (([(⟨3,0,0⟩:S41),(⟨4,0,0⟩:S41)]:List (S41)):List (S41)) [.int .i64 3,.int .i64 0,.int .i64 0,.int .i64 4,.int .i64 0,.int .i64 0] st ?_ (hrep:=by repeat (first|exact Reps.none _ _|refine Reps.c3 (k41_mkM _ _ _ _) ?_));clear st cl;intro B12_0 d12_0 w_ st;have cl:=cl_ st))
 (try simp only [Act.put,sa_,sb_,sc_])
 go_cut [5] (fun v5 wc=>∃(kq:Nat) (ak:List (S41)) (aE:Option Addr) (aM:Nat),v5=.slice aE ak.length aM∧Aside0 (spec_ReadDeed.j0 kq a0 ab ak=some (r1,r2,r3,r4))∧Aside0 (kq≤k)∧ST w [AR Kd.string 9 w.heap.size (.slice B9_0 ab.length d9_0) ab] [AR k41 41 w.heap.size (.slice aE ak.length aM) ak,Bx g2 #[.int .i64 0,.int .i64 0,.int .i64 0] 41] wc)
 case first =>
  have H:=HC3.out;clear HC3;by_cases c4:(ab.length:Int)=2
  ·
   rw [if_pos c4] at H;have ap:((ab.length:Int) == 2)=true:=beq_iff_eq.mpr c4;have aO:((ab.length:Int) != 2)=false:=bne_eq_false_iff_eq.mpr c4;clear c4;(first|rw [ap]|(simp only [i64_w,i32_w];rw [ap])|skip);replace H:=i0_ H;obtain ⟨c5,H⟩:=H;have am:decide (1<(ab.length:Int))=true:=decide_eq_true c5;have aK:decide (1<ab.length)=true:=decide_eq_true (by omega);clear c5;obtain ⟨ad,A_19,H⟩:=bnd_ H;replace H:=sm_ H;(try dsimp only at H);replace H:=il_ H;obtain ⟨bb,H⟩:=H;have H':=A_ H;clear H;exact spec_ReadDeed.z0
  ·
   rw [if_neg c4] at H;have ap:((ab.length:Int) == 2)=false:=beq_eq_false_iff_ne.mpr c4;have aO:((ab.length:Int) != 2)=true:=bne_iff_ne.mpr c4;(first|rw [ap]|(simp only [i64_w,i32_w];rw [ap])|skip);have H':=A_ H;clear H;exact spec_ReadDeed.z0
 case rest =>
  clear HC3 st cl;obtain ⟨kq,ak,aE,aM,rfl,HA,HJ2,st⟩:=hcut;have cl:=cl_ st
  cases kq with
  |zero=>exact absurd HA.out (by simp [spec_ReadDeed.j0])
  |succ kj2 =>
   have H:=HA.out;clear HA;simp only [spec_ReadDeed.j0] at H;have HC8:=A_ H;clear H
   go_upto_if 29 with (fail)
   go_cut [5] (fun v5 wc=>∃(kq:Nat) (ae:List (S41)) (aC:Option Addr) (aD:Nat),v5=.slice aC ae.length aD∧Aside0 (spec_ReadDeed.j1 kq a0 ae=some (r1,r2,r3,r4))∧Aside0 (kq≤kj2)∧ST w [AR k41 41 w.heap.size (.slice aC ae.length aD) ae] [Bx g2 #[.int .i64 0,.int .i64 0,.int .i64 0] 41] wc)
   case first =>
    have H:=HC8.out;clear HC8;by_cases c9:(ab.length:Int)=3
    ·
     rw [if_pos c9] at H;have an:((ab.length:Int) == 3)=true:=beq_iff_eq.mpr c9;have a3:((ab.length:Int) != 3)=false:=bne_eq_false_iff_eq.mpr c9;clear c9;(first|rw [an]|(simp only [i64_w,i32_w];rw [an])|skip);replace H:=i0_ H;obtain ⟨c10,H⟩:=H;have aN:decide (1<(ab.length:Int))=true:=decide_eq_true c10;have aZ:decide (1<ab.length)=true:=decide_eq_true (by omega);clear c10;obtain ⟨av,A_34,H⟩:=bnd_ H;replace H:=i0_ H;obtain ⟨c11,H⟩:=H;have bf:decide (2<(ab.length:Int))=true:=decide_eq_true c11;have bg:decide (2<ab.length)=true:=decide_eq_true (by omega);clear c11;obtain ⟨aw,A_38,H⟩:=bnd_ H;replace H:=il_ H;obtain ⟨a4,H⟩:=H;have H':=A_ H;clear H;(try go_wp2);(all_goals ((try clear ix_);obtain ⟨p_,q_,ad_405,e_405,x0⟩:=a2_ (Kd.at_string (gC_ st Kd.string B9_0 ab) 1);have ix405:=ix1_ Tryz.underlying71 e_405 p_ q_ (c:=d9_0);(try simp only [Addr.add,Int.reduceToNat,Nat.reduceMul,Nat.reduceEqDiff,↓reduceIte] at ix405);replace e_405:=A_ e_405;clear x0;obtain ⟨p_,q_,ad_407,e_407,x0⟩:=a2_ (Kd.at_string (gC_ st Kd.string B9_0 ab) 2);have ix407:=ix1_ Tryz.underlying71 e_407 p_ q_ (c:=d9_0);(try simp only [Addr.add,Int.reduceToNat,Nat.reduceMul,Nat.reduceEqDiff,↓reduceIte] at ix407);replace e_407:=A_ e_407;clear x0;refine rg_ st [] ?_;clear st cl;intro w_ st hs;have cl:=cl_ st;refine with_tabW spec_ReadDeed.tab7 spec_ReadDeed.bits7 (fun HT_ HW_=>?_);refine pv_ 0 ?_;refine pv_ 1 ?_;refine pv_ 2 ?_;refine pv_ 5 ?_;refine pv_ 6 ?_;refine tu_ 3 ?_ (hy:=by intro w' s_;have cl:=cl_ s_;obtain ⟨_,_,_,e_,x0⟩:=a2_ (Kd.at_string (gC_ s_ Kd.string B9_0 ab) 1);rw [cq_ e_405.out e_] at x0;(try simp only [Addr.add,Int.reduceToNat,Nat.reduceMul,Nat.reduceEqDiff,↓reduceIte] at x0);clear e_;go_simp;first|with_reducible rfl|(rw [if_neg (by omega)];done));refine tu_ 7 ?_ (hy:=by intro w' s_;have cl:=cl_ s_;obtain ⟨_,_,_,e_,x0⟩:=a2_ (Kd.at_string (gC_ s_ Kd.string B9_0 ab) 2);rw [cq_ e_407.out e_] at x0;(try simp only [Addr.add,Int.reduceToNat,Nat.reduceMul,Nat.reduceEqDiff,↓reduceIte] at x0);clear e_;go_simp;first|with_reducible rfl|(rw [if_neg (by omega)];done));refine ov_ 4 (fun K hK=>?_);refine ca2_ (some 34) Tryz.func43 _ (spec_l15Signed.calls kj2 _ _ _ A_34.out) ?_;rintro e w_ ⟨rfl,hb⟩;refine ⟨_,rfl,?_⟩;replace hb:=hb.below;replace st:=st.ev hb;clear cl hb;have cl:=cl_ st;refine hK.out _ _ st.en (fun hs=>?_);clear hK K;refine nr_ 34 ?_;refine ov_ 8 (fun K hK=>?_);refine ca2_ (some 38) Tryz.func43 _ (spec_l15Signed.calls kj2 _ _ _ A_38.out) ?_;rintro e w_ ⟨rfl,hb⟩;refine ⟨_,rfl,?_⟩;replace hb:=hb.below;replace st:=st.ev hb;clear cl hb;have cl:=cl_ st;refine hK.out _ _ st.en (fun hs=>?_);clear hK K;refine nr_ 38 ?_;refine pv_ 9 ?_;refine ov_ 10 (fun K hK=>?_);refine bs2_ st [.int .i64 0,.int .i64 av,.int .i64 aw] 41 ?_;refine hK.out _ _ (st.ev (la_ (Below.refl _ _) _)).en (fun hs=>?_);clear hK K;refine nr_ 40 ?_;refine ov_ 11 (fun K hK=>?_);refine ap2_ aE ak (⟨0,av,aw⟩:S41) [.int .i64 0,.int .i64 av,.int .i64 aw] ((.agg #[(.int .i64 0),(.int .i64 0),(.int .i64 0)])) 24 st Tryz.underlying24 ?_ (hl:=by have:=a4.out;omega) (hp:=k41_mkM _ _ _ _);clear st cl;intro P41 q41 w_ st;have cl:=cl_ st;refine hK.out _ _ st.en (fun hs=>?_);clear hK K;refine nr_ 41 ?_;refine pv_ 12 ?_;refine done_ (done_of HT_.out (by kernel_rfl)) ?_;clear ix405 ix407;all_goals (try go_wp2)));go_meet
     case rel=>exact ⟨_,((ak++[(⟨0,av,aw⟩:S41)])),P41,q41,tx_,H',⟨by have:=HJ2.out;first|omega|exact Nat.le_refl _⟩,(st.lp P41 (ak++[(⟨0,av,aw⟩:S41)])).en⟩
    ·
     rw [if_neg c9] at H;have an:((ab.length:Int) == 3)=false:=beq_eq_false_iff_ne.mpr c9;have a3:((ab.length:Int) != 3)=true:=bne_iff_ne.mpr c9;(first|rw [an]|(simp only [i64_w,i32_w];rw [an])|skip);have H':=A_ H;clear H;go_wp2;go_meet
     case rel=>exact ⟨_,(ak),aE,aM,tx_,H',⟨by have:=HJ2.out;first|omega|exact Nat.le_refl _⟩,(st.lp aE ak).en⟩
   case rest =>
    clear HC8 st cl;obtain ⟨kq,ae,aC,aD,rfl,HA,HJ7,st⟩:=hcut;have cl:=cl_ st
    cases kq with
    |zero=>exact absurd HA.out (by simp [spec_ReadDeed.j1])
    |succ kj7 =>
     have H:=HA.out;clear HA;simp only [spec_ReadDeed.j1] at H;have H':=A_ H;clear H;go_wp2
     go_loopg [7] kj7 (fun kq v7 w'=>∃(aj:Int) (af:Int) (ag:Int) (ah:Int),v7=.int .i64 aj∧Aside0 (spec_ReadDeed.l0 kq a0 ae aj=some (r1,r2,r3,r4))∧Aside0 (kq≤kj7)∧ST w [AR k41 41 w.heap.size (.slice aC ae.length aD) ae] [Bx g2 #[.int .i64 af,.int .i64 ag,.int .i64 ah] 41] w')
     case atStart=>exact ⟨(0),(0),(0),(0),tx_,H',⟨Nat.le_refl _⟩,st.en⟩
     case round =>
      clear H' st cl;obtain ⟨aj,af,ag,ah,rfl,HA,HK3,st⟩:=hrel;have cl:=cl_ st
      cases gk with
      |zero=>exact absurd HA.out (by simp [spec_ReadDeed.l0])
      |succ k3 =>
       have H:=HA.out;clear HA;simp only [spec_ReadDeed.l0] at H;replace H:=it_ H;rcases H with ⟨aH,H⟩|⟨aH,H⟩
       ·
        by_cases c15:a0.toList=([]:List UInt8)
        ·
         rw [if_pos c15] at H;have a5:(a0.toList == ([]:List UInt8))=true:=beq_iff_eq.mpr c15;have a6:(a0.toList != ([]:List UInt8))=false:=bne_eq_false_iff_eq.mpr c15;clear c15;have H':=A_ H;clear H;exact spec_ReadDeed.z1
        ·
         rw [if_neg c15] at H;have a5:(a0.toList == ([]:List UInt8))=false:=beq_eq_false_iff_ne.mpr c15;have a6:(a0.toList != ([]:List UInt8))=true:=bne_iff_ne.mpr c15;replace H:=in_ H;obtain ⟨bh,H⟩:=H;obtain ⟨ax,A_55,H⟩:=bnd_ H;by_cases c17:ax.toList=a0.toList
         ·
          rw [if_pos c17] at H;have a7:(ax.toList == a0.toList)=true:=beq_iff_eq.mpr c17;have a8:(ax.toList != a0.toList)=false:=bne_eq_false_iff_eq.mpr c17;clear c17;obtain ⟨rfl,rfl,rfl,rfl⟩:=sj4_ H;exact spec_ReadDeed.z1
         ·
          rw [if_neg c17] at H;have a7:(ax.toList == a0.toList)=false:=beq_eq_false_iff_ne.mpr c17;have a8:(ax.toList != a0.toList)=true:=bne_iff_ne.mpr c17;have H':=A_ H;clear H;exact spec_ReadDeed.z1
       ·
        obtain ⟨rfl,rfl,rfl,rfl⟩:=sj4_ H;exact spec_ReadDeed.z1
def spec_ReadJournal.l0:Nat→ByteArray→List (S41)→Int→Int→Option ((List (S41))×Int)
 |0,_,_,_,_=>none
 |k+1,x0,x4,x5,x6=>if x6<(x0.size:Int) then (if 0≤x6 then (if (bt x0 x6)=10 then (if 0≤x5 then (if x5≤x6 then (if x6≤(x0.size:Int) then ((spec_ReadDeed.f k (x0.extract (x5:Int).toNat (x6:Int).toNat)).bind fun aA=>(if aA.2.2.2=true then (if x4.length<5864062014805 then (spec_ReadJournal.l0 k x0 (x4++[(⟨aA.1,aA.2.1,aA.2.2.1⟩:S41)]) (wrap64 (x6+1)) (wrap64 (x6+1))) else (none)) else (some (x4,x5)))) else (none)) else (none)) else (none)) else (spec_ReadJournal.l0 k x0 x4 x5 (wrap64 (x6+1)))) else (none)) else (some (x4,x5))
def spec_ReadJournal.f (k:Nat) (a0:ByteArray):Option ((List (S41))×Int):=spec_ReadJournal.l0 k a0 (([]:List (S41))) 0 0
theorem spec_ReadJournal.z0 {P_:Prop} (h_:P_:=by go_wp2_with (first|((with_reducible refine gc_ 23 ?_);refine ca_ (some 25) Tryz.func23 _ (spec_ReadDeed.calls k1 _ _ _ _ _ _ A_25.out) ?_;rintro e w_ ⟨rfl,hb⟩;refine ⟨_,rfl,?_⟩;replace st:=st.ev hb;clear cl hb;have cl:=cl_ st)|((with_reducible refine gd_ 7 ?_);refine al_ st ?_;clear st cl;intro g7 w_ st;have cl:=cl_ st)|((with_reducible refine gs_ 7 ?_);refine so3_ st ?_;clear st cl;intro w_ st;have cl:=cl_ st)|((with_reducible refine gd_ 35 ?_);refine ap_ aF al (⟨aQ,aR,aU⟩:S41) [.int .i64 aQ,.int .i64 aR,.int .i64 aU] ((.agg #[(.int .i64 0),(.int .i64 0),(.int .i64 0)])) 24 st Tryz.underlying24 ?_ (hl:=by have:=a9.out;omega) (hp:=k41_mkM _ _ _ _);clear st cl;intro P35 q35 w_ st;have cl:=cl_ st));first|(go_roundg k1;(case measure=>have:=HK1.out;omega);(case rel=>exact ⟨((al++[(⟨aQ,aR,aU⟩:S41)])),(wrap64 (ac+1)),(wrap64 (ac+1)),P35,q35,tx_,tx_,tx_,H',⟨by have:=HK1.out;omega⟩,st.en⟩))|(go_ret2;exact ⟨.slice aF al.length aJ,tw_,gtl_ st,st.b⟩)|(go_roundg k1;(case measure=>have:=HK1.out;omega);(case rel=>exact ⟨(al),(aq),(wrap64 (ac+1)),aF,aJ,tx_,tx_,tx_,H',⟨by have:=HK1.out;omega⟩,st.en⟩))):P_:=h_
theorem spec_ReadJournal.calls (k:Nat) (a0:ByteArray) (r1:List (S41)) (r2:Int) (w:World) (h:spec_ReadJournal.f k a0=some (r1,r2)) :
  Calls Tryz.prog 6 #[.string a0] w fun e w'=>∃v0_:Value,e=.returned (.tuple #[v0_,.int .i64 r2])∧Kd.R k41 41 w' w.heap.size (fun _=>True) v0_ r1∧Below w.heap.size w w':=by
 have hu41:=Tryz.underlying41;have st:=ST.nil w;have s0:=st;have cl:=cl_ st;have H:=h;clear h;unfold spec_ReadJournal.f at H;go_enter Tryz.func6,Tryz.ntmps6;have H':=A_ H;clear H;go_wp2_with (first|((with_reducible refine gd_ 9 ?_);refine nwl_ k41 41 (([]:List (S41)):List (S41)) [] st ?_ (hrep:=by repeat (first|exact Reps.none _ _|refine Reps.c3 (k41_mkM _ _ _ _) ?_));clear st cl;intro B9_0 d9_0 w_ st;have cl:=cl_ st))
 go_loopg [4,5,6] k (fun kq v4 v5 v6 w'=>∃(al:List (S41)) (aq:Int) (ac:Int) (aF:Option Addr) (aJ:Nat),v4=.slice aF al.length aJ∧v5=.int .i64 aq∧v6=.int .i64 ac∧Aside0 (spec_ReadJournal.l0 kq a0 al aq ac=some (r1,r2))∧Aside0 (kq≤k)∧ST w [] [AR k41 41 w.heap.size (.slice aF al.length aJ) al] w')
 case atStart=>exact ⟨(([]:List (S41))),(0),(0),B9_0,d9_0,tx_,tx_,tx_,H',⟨Nat.le_refl _⟩,st.en⟩
 case round =>
  clear H' st cl;obtain ⟨al,aq,ac,aF,aJ,rfl,rfl,rfl,HA,HK1,st⟩:=hrel;have cl:=cl_ st
  cases gk with
  |zero=>exact absurd HA.out (by simp [spec_ReadJournal.l0])
  |succ k1 =>
   have H:=HA.out;clear HA;simp only [spec_ReadJournal.l0] at H;replace H:=it_ H;rcases H with ⟨ao,H⟩|⟨ao,H⟩
   ·
    replace H:=in_ H;obtain ⟨ap,H⟩:=H;have y5a:(0≤(ac:Int))=True:=eq_true (by first|exact od_|omega);have y5b:((ac:Int)<(a0.size:Int))=True:=eq_true (by first|exact od_|omega);have y5x:=bt_at a0 ac;by_cases c6:(bt a0 ac)=10
    ·
     rw [if_pos c6] at H;have ar:((bt a0 ac) == 10)=true:=beq_iff_eq.mpr c6;have au:((bt a0 ac) != 10)=false:=bne_eq_false_iff_eq.mpr c6;clear c6;replace H:=i0_ H;obtain ⟨c7,H⟩:=H;have aX:=eq_true c7;have aY:decide (0≤aq)=true:=decide_eq_true c7;clear c7;replace H:=i0_ H;obtain ⟨c8,H⟩:=H;have bk:=eq_true c8;have bl:decide (aq≤ac)=true:=decide_eq_true c8;clear c8;replace H:=i0_ H;obtain ⟨c9,H⟩:=H;have an:=eq_true c9;have a3:decide (ac≤(a0.size:Int))=true:=decide_eq_true c9;clear c9;obtain ⟨⟨aQ,aR,aU,bc⟩,A_25,H⟩:=bnd_ H;(try dsimp only at H);rcases bx_ bc with rfl|rfl
     ·
      replace H:=bt_ H;replace H:=il_ H;obtain ⟨a9,H⟩:=H;have H':=A_ H;clear H;exact spec_ReadJournal.z0
     ·
      replace H:=bf_ H;obtain ⟨rfl,rfl⟩:=sj2_ H;exact spec_ReadJournal.z0
    ·
     rw [if_neg c6] at H;have ar:((bt a0 ac) == 10)=false:=beq_eq_false_iff_ne.mpr c6;have au:((bt a0 ac) != 10)=true:=bne_iff_ne.mpr c6;have H':=A_ H;clear H;exact spec_ReadJournal.z0
   ·
    obtain ⟨rfl,rfl⟩:=sj2_ H;exact spec_ReadJournal.z0
end Go.Proofs.YtabknkhhlbanoaaGreatDoor.MFnReadJournal
