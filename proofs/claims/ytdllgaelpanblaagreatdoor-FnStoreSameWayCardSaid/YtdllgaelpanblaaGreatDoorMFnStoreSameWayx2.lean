/- Walks for FnStoreSameWay: a call returns what the plain function tells. Conditions: in each statement. -/
import Derived.Test.YtdllgaelpanblaaGreatDoorMFnStoreSameWayx0
namespace Go.Proofs.YtdllgaelpanblaaGreatDoor.MFnStoreSameWay
open Go.RowKit Go.Proofs.YtdllgaelpanblaaGreatDoorW.PrintWords Go.Proofs.YtdllgaelpanblaaGreatDoorW.PrintLast Go.Proofs.YtdllgaelpanblaaGreatDoorW.PrintMore
set_option linter.unusedVariables false
set_option linter.unusedSimpArgs false
set_option maxHeartbeats 8000000
set_option maxRecDepth 100000
/-- A state of type 76 at block g of W; what its slices lead to came in by w0. -/
def IsS76 (w0 W:World) (g:Nat) (f0:List Int) (f1:Int):Prop:=∃A0 c0,W.heap[g]?=some (.cells #[.slice A0 f0.length c0,.int .i64 f1] 76 (0,0))∧w0.heap.size≤g∧Kd.C (Kd.int .u8) w0 A0 f0.length f0
theorem IsS76.grown {w0 W:World} {g:Nat} {f0:List Int} {f1:Int} {W1:World} {row:Option Nat} (h:IsS76 w0 W g f0 f1) (hw:W.grownBy W1 row) (hne:some g≠row):IsS76 w0 W1 g f0 f1:=by
 obtain ⟨A0,c0,hb,hg,hr0⟩:=h
 exact ⟨A0,c0,blk_grown hb hw hne,hg,hr0⟩
theorem IsS76.own_neN {w0 W:World} {g:Nat} {f0:List Int} {f1:Int} {α:Type} {d:Kd α} {e:Nat} {base:Nat} {ok:Nat→Prop} {v:Value} {xs:List α} (h:IsS76 w0 W g f0 f1) (ho:Kd.N d e W base ok v xs) (ht:e≠76):some g≠v.ownBlock:=by
 obtain ⟨A0,c0,hb,hg,hr0⟩:=h
 exact Kd.N_ne ho hb ht
theorem IsS76.fresh {w0 W:World} {g:Nat} {f0:List Int} {f1:Int} (h:IsS76 w0 W g f0 f1):∀k,W.heap.size≤k→k≠g:=by
 obtain ⟨A0,c0,hb,hg,hr0⟩:=h
 exact Kd.freshB hb
theorem IsS76.kept {w0 W:World} {g:Nat} {f0:List Int} {f1:Int} {W1:World} {S:Nat→Prop} (h:IsS76 w0 W g f0 f1) (hk:Kept W W1 S) (hne:¬S g):IsS76 w0 W1 g f0 f1:=by
 obtain ⟨A0,c0,hb,hg,hr0⟩:=h
 exact ⟨A0,c0,blk_kept hb hk hne,hg,hr0⟩
theorem IsS76.below {w0 W:World} {g:Nat} {f0:List Int} {f1:Int} {W1:World} (h:IsS76 w0 W g f0 f1) (hw:Below W.heap.size W W1):IsS76 w0 W1 g f0 f1:=h.grown (grown_of_below hw none) (by simp)
theorem IsS76.alloc {w0 W:World} {g:Nat} {f0:List Int} {f1:Int} (h:IsS76 w0 W g f0 f1) (o:Obj):IsS76 w0 (W.alloc o) g f0 f1:=h.below (la_ (Below.refl _ _) o)
theorem IsS76.drewN {w0 W:World} {g:Nat} {f0:List Int} {f1:Int} (h:IsS76 w0 W g f0 f1) (m:Nat):IsS76 w0 (W.drewN m) g f0 f1:=h
theorem IsS76.drew {w0 W:World} {g:Nat} {f0:List Int} {f1:Int} (h:IsS76 w0 W g f0 f1):IsS76 w0 W.drew g f0 f1:=h
theorem IsS76.at_ {w0 W:World} {g:Nat} {f0:List Int} {f1:Int} {w':World} {m:Nat} (hq:W.drewN m=w') (h:IsS76 w0 W g f0 f1):IsS76 w0 w' g f0 f1:=by subst hq;exact IsS76.drewN h m
theorem IsS76.apart {w0 W:World} {g:Nat} {f0:List Int} {f1:Int} {α:Type} {d:Kd α} {e:Nat} {base:Nat} {ok:Nat→Prop} {v:Value} {xs:List α} (h:IsS76 w0 W g f0 f1) (ho:d.R e W base ok v xs) (ht:∀q,q ∈ e :: d.E→q≠76):d.R e W base (fun k=>ok k∧k≠g) v xs:=by
 obtain ⟨A0,c0,hb,hg,hr0⟩:=h
 exact Kd.R_types ho hb ht
theorem IsS76.own_ne {w0 W:World} {g:Nat} {f0:List Int} {f1:Int} {α:Type} {d:Kd α} {e:Nat} {base:Nat} {ok:Nat→Prop} {v:Value} {xs:List α} (h:IsS76 w0 W g f0 f1) (ho:d.R e W base ok v xs) (ht:e≠76):some g≠v.ownBlock:=by
 obtain ⟨A0,c0,hb,hg,hr0⟩:=h
 exact Kd.R_ne ho hb ht
theorem IsS76.apartQ {w0 W:World} {g:Nat} {f0:List Int} {f1:Int} {α:Type} {d:Kd α} {e:Nat} {base:Nat} {ok:Nat→Prop} {v:Value} {xs:List α} (h:IsS76 w0 W g f0 f1) (ho:d.Q e W base ok v xs) (ht:∀q,q ∈ e :: d.E→q≠76):d.Q e W base (fun k=>ok k∧k≠g) v xs:=by
 obtain ⟨A0,c0,hb,hg,hr0⟩:=h
 exact Kd.Q_types ho hb ht
theorem IsS76.own_neQ {w0 W:World} {g:Nat} {f0:List Int} {f1:Int} {α:Type} {d:Kd α} {e:Nat} {base:Nat} {ok:Nat→Prop} {v:Value} {xs:List α} (h:IsS76 w0 W g f0 f1) (ho:d.Q e W base ok v xs) (ht:e≠76):some g≠v.ownBlock:=by
 obtain ⟨A0,c0,hb,hg,hr0⟩:=h
 exact Kd.Q_ne ho hb ht
theorem IsS76.apartS {w0 W:World} {g:Nat} {f0:List Int} {f1:Int} {α:Type} {d:Kd α} {e:Nat} {base:Nat} {ok:Nat→Prop} {v:Value} {xs:List α} (h:IsS76 w0 W g f0 f1) (ho:d.S e W base ok v xs) (ht:∀q,q ∈ e :: d.E→q≠76):d.S e W base (fun k=>ok k∧k≠g) v xs:=by
 obtain ⟨A0,c0,hb,hg,hr0⟩:=h
 exact Kd.S_types ho hb ht
theorem IsS76.own_neS {w0 W:World} {g:Nat} {f0:List Int} {f1:Int} {α:Type} {d:Kd α} {e:Nat} {base:Nat} {ok:Nat→Prop} {v:Value} {xs:List α} (h:IsS76 w0 W g f0 f1) (ho:d.S e W base ok v xs) (ht:e≠76):some g≠v.ownBlock:=by
 obtain ⟨A0,c0,hb,hg,hr0⟩:=h
 exact Kd.S_ne ho hb ht
theorem IsS76.lt {w0 W:World} {g:Nat} {f0:List Int} {f1:Int} (h:IsS76 w0 W g f0 f1):g<W.heap.size:=by
 obtain ⟨A0,c0,hb,hg,hr0⟩:=h
 exact blk_lt hb
theorem IsS76.ge {w0 W:World} {g:Nat} {f0:List Int} {f1:Int} (h:IsS76 w0 W g f0 f1):w0.heap.size≤g:=by
 obtain ⟨A0,c0,hb,hg,hr0⟩:=h
 exact hg
theorem IsS76.ne_blk {w0 W:World} {g:Nat} {f0:List Int} {f1:Int} {a:Nat} {cs:Array Value} {t:TypeId} {fr:Nat×Nat} (h:IsS76 w0 W g f0 f1) (hb2:W.heap[a]?=some (.cells cs t fr)) (ht:t≠76):g≠a:=by
 obtain ⟨A0,c0,hb,hg,hr0⟩:=h
 rintro rfl
 rw [hb] at hb2
 injection hb2 with hb2
 injection hb2 with _ ht2
 exact ht ht2.symm
theorem IsS76.far {w0 W:World} {g:Nat} {f0:List Int} {f1:Int} {p:Addr} (h:IsS76 w0 W g f0 f1) (hne:g≠p.block) (u:Value):IsS76 w0 (W.setCell p u) g f0 f1:=by
 obtain ⟨A0,c0,hb,hg,hr0⟩:=h
 exact ⟨A0,c0,blk_far hb hne u,hg,hr0⟩
theorem cellS76_0 {W:World} {g:Nat} {A0:Option Addr} {c0:Nat} {f0:List Int} {f1:Int} (h:W.heap[g]?=some (.cells #[.slice A0 f0.length c0,.int .i64 f1] 76 (0,0))):W.cell? ⟨g,0,none⟩=some (.slice A0 f0.length c0):=(blk_cell h 0).trans rfl
theorem cellS76_1 {W:World} {g:Nat} {A0:Option Addr} {c0:Nat} {f0:List Int} {f1:Int} (h:W.heap[g]?=some (.cells #[.slice A0 f0.length c0,.int .i64 f1] 76 (0,0))):W.cell? ⟨g,1,none⟩=some (.int .i64 f1):=(blk_cell h 1).trans rfl
theorem IsS76.set_1 {w0 W:World} {g:Nat} {f0:List Int} {f1:Int} (h:IsS76 w0 W g f0 f1) (x:Int):IsS76 w0 (W.setCell ⟨g,1,none⟩ (.int .i64 x)) g f0 x:=by
 obtain ⟨A0,c0,hb,hg,hr0⟩:=h
 exact ⟨A0,c0,by simpa using blk_set hb 1 (.int .i64 x),hg,hr0⟩
theorem IsS76.new (w0 W:World) (A0:Option Addr) (c0:Nat) (f0:List Int) (f1:Int) (hB:Below w0.heap.size w0 W) (hr0:Kd.C (Kd.int .u8) w0 A0 f0.length f0):IsS76 w0 (W.alloc (.cells #[.slice A0 f0.length c0,.int .i64 f1] 76)) W.heap.size f0 f1:=⟨A0,c0,by simpa using heap_alloc_new W _,hB.size,hr0⟩
instance {w0:World} {g:Nat} {f0:List Int} {f1:Int} : LcI (fun W_=>IsS76 w0 W_ g f0 f1) g:=⟨fun h hm=>by obtain ⟨A0,c0,hb,r⟩:=h;exact ⟨A0,c0,hm.trans hb,r⟩,fun h=>by obtain ⟨_,_,hb,_⟩:=h;exact blk_lt hb⟩
theorem ti76_ {P Q:Prop} (h:Q) (hp:Q→P:=by intro h_;repeat (first|(with_reducible first|exact h_|apply IsS76.alloc|apply IsS76.drewN|apply IsS76.drew|apply IsS76.set_1|refine IsS76.far ?_ (Aside0.out (by assumption)) _)|exact h_)):P:=hp h
theorem tu76_ {B:Nat} {w W0 W:World} (h:Below B w W0) (hp:Below B w W0→Below B w W:=by intro h_;repeat (first|(with_reducible first|exact h_|apply la_|apply ln_|apply ld_|refine below_set ?_ (IsS76.ge (Aside0.out (by assumption)))|refine below_set ?_ (Aside0.out (by assumption)))|exact h_)):Below B w W:=hp h
theorem tu76_s {w W0 W W2:World} (h:Aside0 (Below w.heap.size w W0)) (k_:Below W.heap.size W W2) (hp:Below w.heap.size w W0→Below w.heap.size w W:=by intro h_;exact tu76_ h_):Aside0 (Below w.heap.size w W2):=⟨below_step (hp h.out) k_⟩
theorem ti76_b {w0 W0 W W1:World} {g:Nat} {f0:List Int} {f1:Int} (h:Aside0 (IsS76 w0 W0 g f0 f1)) (hb:Below W.heap.size W W1) (hp:IsS76 w0 W0 g f0 f1→IsS76 w0 W g f0 f1:=by intro h_;exact ti76_ h_):Aside0 (IsS76 w0 W1 g f0 f1):=⟨IsS76.below (hp h.out) hb⟩
def spec_l20Rd_pick.j0:Nat→Int→Bool→List Int→Int→Option (Int×Int)
 |0,_,_,_,_=>none
 |k+1,x1,x24,ad,ae=>if x24=true then (some (0,ae)) else (if (wrap64 (ae - 1))<(ad.length:Int) then (if 0≤(wrap64 (ae - 1)) then (if x1=0 then (none) else (some (Int.tmod (wrap64 (rd ad (wrap64 (ae - 1)))) x1,ae))) else (none)) else (if (ad.length:Int)=0 then (none) else (if 0≤(Int.tmod (wrap64 (ae - 1)) (ad.length:Int)) then (if (Int.tmod (wrap64 (ae - 1)) (ad.length:Int))<(ad.length:Int) then (if 0≤(Int.tmod (wrap64 ((wrap64 ((wrap64 (ae - 1))*7))+3)) (ad.length:Int)) then (if (Int.tmod (wrap64 ((wrap64 ((wrap64 (ae - 1))*7))+3)) (ad.length:Int))<(ad.length:Int) then (if x1=0 then (none) else (some (Int.tmod (Go.bits .xor .i64 (wrap64 ((wrap64 ((wrap64 ((wrap64 ((wrap64 (rd ad (Int.tmod (wrap64 (ae - 1)) (ad.length:Int))))*131))+(wrap64 ((wrap64 (rd ad (Int.tmod (wrap64 ((wrap64 ((wrap64 (ae - 1))*7))+3)) (ad.length:Int))))*1117))))+(wrap64 ((wrap64 (ae - 1))*29))))+(wrap64 ((wrap64 (Int.tdiv (wrap64 (ae - 1)) (ad.length:Int)))*53)))) (wrap64 (Int.tdiv (wrap64 ((wrap64 ((wrap64 ((wrap64 ((wrap64 (rd ad (Int.tmod (wrap64 (ae - 1)) (ad.length:Int))))*131))+(wrap64 ((wrap64 (rd ad (Int.tmod (wrap64 ((wrap64 ((wrap64 (ae - 1))*7))+3)) (ad.length:Int))))*1117))))+(wrap64 ((wrap64 (ae - 1))*29))))+(wrap64 ((wrap64 (Int.tdiv (wrap64 (ae - 1)) (ad.length:Int)))*53)))) 64))) x1,ae))) else (none)) else (none)) else (none)) else (none))))
def spec_l20Rd_pick.f (k:Nat) (aa:List Int) (ab:Int) (a1:Int):Option (Int×Int):=if a1<1 then (spec_l20Rd_pick.j0 k a1 true aa (wrap64 (ab+1))) else (spec_l20Rd_pick.j0 k a1 ((aa.length:Int) == 0) aa (wrap64 (ab+1)))
theorem spec_l20Rd_pick.calls (k:Nat) (g:Nat) (aa:List Int) (ab:Int) (a1:Int) (r1:Int) (r2:Int) (w0 w:World) (hI:IsS76 w0 w g aa ab) (hB:Below w0.heap.size w0 w) (h:spec_l20Rd_pick.f k aa ab a1=some (r1,r2)) :
  Calls Tryz.prog 37 #[.pointer (some ⟨g,0,none⟩),.int .i64 a1] w fun e w'=>e=.returned (.int .i64 r1)∧IsS76 w0 w' g aa r2∧Below w0.heap.size w0 w'∧KeepBut w w' g none:=by
 have HI0:=A_ hI;have HK:=A_ (KeepBut.refl w g none);have HL:=A_ hB.size;have HLg:=A_ hI.lt;clear hI;have HW0:=A_ hB.size;have HB:=A_ hB;clear hB;have H:=h;clear h;unfold spec_l20Rd_pick.f at H;have HC3:=A_ H;clear H;obtain ⟨ASz4_0,cSz4_0,HGz4,hgz4,HSz4_0⟩:=HI0.out;have av:=cellS76_0 HGz4;have aw:=cellS76_1 HGz4;have ax:=blk_frozen HGz4 1;clear HGz4 hgz4;go_enter Tryz.func37,Tryz.ntmps37
 go_upto_region 2 with (fail)
 repeat (go_quiet (fail);go_upto_region 2 with (fail))
 go_cut [24] (fun a7 wc=>∃(kq:Nat) (ah:Bool),a7=.bool ah∧Aside0 (spec_l20Rd_pick.j0 kq a1 ah aa (wrap64 (ab+1))=some (r1,r2))∧Aside0 (kq≤k)∧Aside0 (IsS76 w0 wc g aa (wrap64 (ab+1)))∧Aside0 (KeepBut w wc g none)∧Aside0 (Below w0.heap.size w0 wc))
 case first =>
  have H:=HC3.out;clear HC3;replace H:=it_ H;rcases H with ⟨al,H⟩|⟨al,H⟩
  ·
   (first|rw [al]|(simp only [i64_w,i32_w];rw [al])|skip);have H':=A_ H;clear H;go_wp2;repeat (go_quiet (fail);try go_wp2)
   go_meet
   case rel=>exact ⟨_,(true),tx_,H',⟨by first|omega|exact Nat.le_refl _⟩,⟨ti76_ HI0.out⟩,⟨(tc_ HK.out)⟩,⟨tu76_ HB.out⟩⟩
  ·
   (first|rw [al]|(simp only [i64_w,i32_w];rw [al])|skip);have H':=A_ H;clear H;obtain ⟨ASz6_0,cSz6_0,HGz6,hgz6,HSz6_0⟩:=HI0.out;have ay:=cellS76_0 HGz6;have az:=cellS76_1 HGz6;have aA:=blk_frozen HGz6 1;clear HGz6 hgz6;go_wp2;repeat (go_quiet (fail);try go_wp2)
   go_meet
   case rel=>exact ⟨_,(((aa.length:Int) == 0)),tx_,H',⟨by first|omega|exact Nat.le_refl _⟩,⟨ti76_ HI0.out⟩,⟨(tc_ HK.out)⟩,⟨tu76_ HB.out⟩⟩
 case rest =>
  clear HC3;(try clear av);(try clear aw);(try clear ax);obtain ⟨kq,ah,rfl,HA,HJ2,HI0,HK,HB⟩:=hcut
  cases kq with
  |zero=>exact absurd HA.out (by simp [spec_l20Rd_pick.j0])
  |succ kj2 =>
   have H:=HA.out;clear HA;simp only [spec_l20Rd_pick.j0] at H;by_cases c7:ah=true
   ·
    subst c7;replace H:=bt_ H
    obtain ⟨rfl,rfl⟩:=sj2_ H;go_wp2;repeat (go_quiet (fail);try go_wp2)
    go_ret;exact ⟨tw_,ti76_ HI0.out,tu76_ HB.out,(tc_ HK.out)⟩
   ·
    replace c7:=Bool.eq_false_iff.mpr c7;subst c7;replace H:=bf_ H
    by_cases c8:(wrap64 ((wrap64 (ab+1)) - 1))<(aa.length:Int)
    ·
     rw [if_pos c8] at H;have aH:decide ((wrap64 ((wrap64 (ab+1)) - 1))<(aa.length:Int))=true:=decide_eq_true c8;have aH_:=aH;(try simp only [wwl_,wwr_] at aH_);clear c8;obtain ⟨ar,am⟩:∃j_:Int,(wrap64 ((wrap64 (ab+1)) - 1))=j_:=⟨_,rfl⟩
     replace H:(if 0≤(ar) then (if a1=0 then (none) else (some (Int.tmod (wrap64 (rd aa (ar))) a1,(wrap64 (ab+1))))) else (none))=some (r1,r2):=by first|(rw [am] at H;exact H)|(simp only [am] at H ⊢;exact H)
     (try rw [am] at aH);have aP:(IntKind.i64.wrap ((wrap64 (ab+1)) - 1))=ar:=(i64_w _).trans am;replace H:=in_ H;obtain ⟨aQ,H⟩:=H;by_cases c11:a1=0
     ·
      rw [if_pos c11] at H;cases H
     ·
      rw [if_neg c11] at H;have aR:(a1 == 0)=false:=beq_eq_false_iff_ne.mpr c11;have aU:(a1 != 0)=true:=bne_iff_ne.mpr c11;obtain ⟨rfl,rfl⟩:=sj2_ H;obtain ⟨ASz12_0,cSz12_0,HGz12,hgz12,HSz12_0⟩:=HI0.out;have aJ:=cellS76_0 HGz12;have aK:=cellS76_1 HGz12;have aL:=blk_frozen HGz12 1;clear HGz12 hgz12;obtain ⟨p101,q101,ad101,e101,ai⟩:=a2_ (Kd.at_int HSz12_0 (ar));cases e101;replace ai:=pw_cell_below HB.out ai;go_wp2;repeat (go_quiet (fail);try go_wp2)
      go_ret;exact ⟨by first|rfl|(simp [errW_none,errW_some,Option.map_none,Option.map_some]<;>rfl)|(simp only [←am];first|rfl|(simp [errW_none,errW_some,Option.map_none,Option.map_some]<;>rfl))|(simp [*,errW_none,errW_some]<;>rfl),ti76_ HI0.out,tu76_ HB.out,(tc_ HK.out)⟩
    ·
     rw [if_neg c8] at H;have aH:decide ((wrap64 ((wrap64 (ab+1)) - 1))<(aa.length:Int))=false:=decide_eq_false c8;have aH_:=aH;(try simp only [wwl_,wwr_] at aH_);clear c8;by_cases c13:(aa.length:Int)=0
     ·
      rw [if_pos c13] at H;cases H
     ·
      rw [if_neg c13] at H;have aV:((aa.length:Int) == 0)=false:=beq_eq_false_iff_ne.mpr c13;have aW:((aa.length:Int) != 0)=true:=bne_iff_ne.mpr c13;have aX:¬(aa=[]):=fun h_=>c13 (by rw [h_];rfl);obtain ⟨af,an⟩:∃j_:Int,(Int.tmod (wrap64 ((wrap64 (ab+1)) - 1)) (aa.length:Int))=j_:=⟨_,rfl⟩
      replace H:(if 0≤(af) then (if (af)<(aa.length:Int) then (if 0≤(Int.tmod (wrap64 ((wrap64 ((wrap64 ((wrap64 (ab+1)) - 1))*7))+3)) (aa.length:Int)) then (if (Int.tmod (wrap64 ((wrap64 ((wrap64 ((wrap64 (ab+1)) - 1))*7))+3)) (aa.length:Int))<(aa.length:Int) then (if a1=0 then (none) else (some (Int.tmod (Go.bits .xor .i64 (wrap64 ((wrap64 ((wrap64 ((wrap64 ((wrap64 (rd aa (af)))*131))+(wrap64 ((wrap64 (rd aa (Int.tmod (wrap64 ((wrap64 ((wrap64 ((wrap64 (ab+1)) - 1))*7))+3)) (aa.length:Int))))*1117))))+(wrap64 ((wrap64 ((wrap64 (ab+1)) - 1))*29))))+(wrap64 ((wrap64 (Int.tdiv (wrap64 ((wrap64 (ab+1)) - 1)) (aa.length:Int)))*53)))) (wrap64 (Int.tdiv (wrap64 ((wrap64 ((wrap64 ((wrap64 ((wrap64 (rd aa (af)))*131))+(wrap64 ((wrap64 (rd aa (Int.tmod (wrap64 ((wrap64 ((wrap64 ((wrap64 (ab+1)) - 1))*7))+3)) (aa.length:Int))))*1117))))+(wrap64 ((wrap64 ((wrap64 (ab+1)) - 1))*29))))+(wrap64 ((wrap64 (Int.tdiv (wrap64 ((wrap64 (ab+1)) - 1)) (aa.length:Int)))*53)))) 64))) a1,(wrap64 (ab+1))))) else (none)) else (none)) else (none)) else (none))=some (r1,r2):=by first|(rw [an] at H;exact H)|(simp only [an] at H ⊢;exact H)
      replace H:=in_ H;obtain ⟨aY,H⟩:=H;replace H:=in_ H;obtain ⟨aZ,H⟩:=H;obtain ⟨ag,ao⟩:∃j_:Int,(Int.tmod (wrap64 ((wrap64 ((wrap64 ((wrap64 (ab+1)) - 1))*7))+3)) (aa.length:Int))=j_:=⟨_,rfl⟩
      replace H:(if 0≤(ag) then (if (ag)<(aa.length:Int) then (if a1=0 then (none) else (some (Int.tmod (Go.bits .xor .i64 (wrap64 ((wrap64 ((wrap64 ((wrap64 ((wrap64 (rd aa (af)))*131))+(wrap64 ((wrap64 (rd aa (ag)))*1117))))+(wrap64 ((wrap64 ((wrap64 (ab+1)) - 1))*29))))+(wrap64 ((wrap64 (Int.tdiv (wrap64 ((wrap64 (ab+1)) - 1)) (aa.length:Int)))*53)))) (wrap64 (Int.tdiv (wrap64 ((wrap64 ((wrap64 ((wrap64 ((wrap64 (rd aa (af)))*131))+(wrap64 ((wrap64 (rd aa (ag)))*1117))))+(wrap64 ((wrap64 ((wrap64 (ab+1)) - 1))*29))))+(wrap64 ((wrap64 (Int.tdiv (wrap64 ((wrap64 (ab+1)) - 1)) (aa.length:Int)))*53)))) 64))) a1,(wrap64 (ab+1))))) else (none)) else (none))=some (r1,r2):=by first|(rw [ao] at H;exact H)|(simp only [ao] at H ⊢;exact H)
      replace H:=in_ H;obtain ⟨a3,H⟩:=H;replace H:=in_ H;obtain ⟨a4,H⟩:=H;by_cases c20:a1=0
      ·
       rw [if_pos c20] at H;cases H
      ·
       rw [if_neg c20] at H;have a5:(a1 == 0)=false:=beq_eq_false_iff_ne.mpr c20;have a6:(a1 != 0)=true:=bne_iff_ne.mpr c20;obtain ⟨rfl,rfl⟩:=sj2_ H;obtain ⟨ASz21_0,cSz21_0,HGz21,hgz21,HSz21_0⟩:=HI0.out;have aM:=cellS76_0 HGz21;have aN:=cellS76_1 HGz21;have aO:=blk_frozen HGz21 1;clear HGz21 hgz21;obtain ⟨p102,q102,ad102,e102,aj⟩:=a2_ (Kd.at_int HSz21_0 (af));cases e102;replace aj:=pw_cell_below HB.out aj;have p103:0≤((ag):Int):=od_;have q103:(ag)<(aa.length:Int):=od_;obtain ⟨ad103,e103,ak⟩:=Kd.at_int HSz21_0 (ag) p103 q103;obtain rfl:ad102=ad103:=(by injection e103)
       replace ak:=pw_cell_below HB.out ak;replace p103:=eq_true p103;replace q103:=eq_true q103;go_wp2;repeat (go_quiet (fail);try go_wp2)
       go_ret;exact ⟨by first|rfl|(simp [errW_none,errW_some,Option.map_none,Option.map_some]<;>rfl)|(simp only [←an,←ao];first|rfl|(simp [errW_none,errW_some,Option.map_none,Option.map_some]<;>rfl))|(simp [*,errW_none,errW_some]<;>rfl),ti76_ HI0.out,tu76_ HB.out,(tc_ HK.out)⟩
def spec_l20Rd_odd.f (k:Nat) (aa:List Int) (ab:Int) (a1:Int):Option (Bool×Int):=if a1>0 then ((spec_l20Rd_pick.f k aa ab a1).bind fun au=>(some ((au.1 == (wrap64 (a1 - 1))),au.2))) else (some (false,ab))
theorem spec_l20Rd_odd.z0 {P_:Prop} (h_:P_:=by go_wp2_with (first|((with_reducible refine gc_ 37 ?_);refine gate_guard (by rfl) ?_;dsimp only;refine ca_ (some 10) Tryz.func37 _ (spec_l20Rd_pick.calls k g _ _ _ _ _ w0 _ (sI_ (fun W_=>IsS76 w0 W_ g aa ab) st) (bw_ HBW.out HGE.out st) A_10.out) ?_;rintro e w_ ⟨rfl,hI,hb0,hk⟩;refine ⟨_,rfl,?_⟩;replace st:=st.sk0 (I:=(fun W_=>IsS76 w0 W_ g aa ab)) (I':=(fun W_=>IsS76 w0 W_ g aa aI)) hk (bw_ HBW.out HGE.out st) hb0 hI;clear cl hb0 hk hI;have cl:=cl_ st));first|(go_ret;exact ⟨tw_,sI_ (fun W_=>IsS76 w0 W_ g aa aI) st,bw_ HBW.out HGE.out st,kw_ st⟩)|(go_ret;exact ⟨tw_,sI_ (fun W_=>IsS76 w0 W_ g aa ab) st,bw_ HBW.out HGE.out st,kw_ st⟩)):P_:=h_
theorem spec_l20Rd_odd.calls (k:Nat) (g:Nat) (aa:List Int) (ab:Int) (a1:Int) (r1:Bool) (r2:Int) (w0 w:World) (hI:IsS76 w0 w g aa ab) (hB:Below w0.heap.size w0 w) (h:spec_l20Rd_odd.f k aa ab a1=some (r1,r2)) :
  Calls Tryz.prog 21 #[.pointer (some ⟨g,0,none⟩),.int .i64 a1] w fun e w'=>e=.returned (.bool r1)∧IsS76 w0 w' g aa r2∧Below w0.heap.size w0 w'∧KeepBut w w' g none:=by
 have HBW:=A_ hB;have HGE:=A_ (IsS76.ge hI);have st:=SX.nilS (g:=g) (I:=(fun W_=>IsS76 w0 W_ g aa ab)) hI;clear hB hI;have s0:=st;have cl:=cl_ st;have H:=h;clear h;unfold spec_l20Rd_odd.f at H;go_enter Tryz.func21,Tryz.ntmps21;replace H:=ig_ H;rcases H with ⟨aB,H⟩|⟨aB,H⟩
 ·
  obtain ⟨⟨a8,aI⟩,A_10,H⟩:=bnd_ H;(try dsimp only at H);obtain ⟨rfl,rfl⟩:=sj2_ H;exact spec_l20Rd_odd.z0
 ·
  obtain ⟨rfl,rfl⟩:=sj2_ H;exact spec_l20Rd_odd.z0
def spec_l1In.f (a0:Int) (a1:Int) (a2:Int):Option (Bool):=if a0≥a1 then (some (decide (a0≤a2))) else (some false)
theorem spec_l1In.calls (a0:Int) (a1:Int) (a2:Int) (r:Bool) (w:World) (h:spec_l1In.f a0 a1 a2=some r) :
  Calls Tryz.prog 45 #[.int .i64 a0,.int .i64 a1,.int .i64 a2] w fun e w'=>e=.returned (.bool r)∧Drawn0 w w':=by
 have H:=h;clear h;unfold spec_l1In.f at H;replace H:=ih_ H;rcases H with ⟨aC,H⟩|⟨aC,H⟩
 ·
  obtain rfl:=Option.some.inj H;go_enter Tryz.func45,Tryz.ntmps45;go_wp2;go_ret;exact ⟨tx_,dz_⟩
 ·
  obtain rfl:=Option.some.inj H;go_enter Tryz.func45,Tryz.ntmps45;go_wp2;go_ret;exact ⟨tx_,dz_⟩
def spec_UrnOk.l0:Nat→List Int→Int→Option (Bool)
 |0,_,_=>none
 |k+1,x0,x3=>if x3<(x0.length:Int) then (if 0≤x3 then ((spec_l1In.f (rd x0 x3) 0 40).bind fun aD=>(if aD=true then (spec_UrnOk.l0 k x0 (wrap64 (x3+1))) else (some false))) else (none)) else ((spec_l1In.f (x0.length:Int) 1 3).bind fun aE=>(some aE))
def spec_UrnOk.f (k:Nat) (l0:List Int):Option (Bool):=spec_UrnOk.l0 k l0 0
theorem spec_UrnOk.calls (k:Nat) (A0:Option Addr) (c0:Nat) (l0:List Int) (r:Bool) (w:World) (hr0:Kd.C (Kd.int .i64) w A0 l0.length l0) (hc0:l0.length≤c0) (h:spec_UrnOk.f k l0=some r) :
  Calls Tryz.prog 95 #[.slice A0 l0.length c0] w fun e w'=>e=.returned (.bool r)∧Drawn0 w w':=by
 have HR0:=A_ hr0;have HC0:=A_ hc0;clear hr0 hc0;have H:=h;clear h;unfold spec_UrnOk.f at H;have H':=A_ H;clear H;go_enter Tryz.func95,Tryz.ntmps95;go_wp2
 go_loopg [3] k (fun kq v3 w'=>∃(ac:Int),v3=.int .i64 ac∧Aside0 (spec_UrnOk.l0 kq l0 ac=some r)∧Aside0 (kq≤k)∧Drawn0 w w')
 case atStart=>exact ⟨(0),tx_,H',⟨Nat.le_refl _⟩,dz_⟩
 case round =>
  clear H';obtain ⟨ac,rfl,HA,HK1,⟨m1,rfl⟩⟩:=hrel
  cases gk with
  |zero=>exact absurd HA.out (by simp [spec_UrnOk.l0])
  |succ k1 =>
   have H:=HA.out;clear HA;simp only [spec_UrnOk.l0] at H;replace H:=it_ H;rcases H with ⟨aF,H⟩|⟨aF,H⟩
   ·
    replace H:=in_ H;obtain ⟨aB,H⟩:=H;obtain ⟨aD,A4,H⟩:=bnd_ H;(try dsimp only at H);by_cases c5:aD=true
    ·
     subst c5;replace H:=bt_ H
     have H':=A_ H;clear H;obtain ⟨p106,q106,ad106,e106,ap⟩:=a2_ (Kd.at_int HR0.out ac);cases e106;go_wp2_with (first|((with_reducible refine gc_ 45 ?_);refine gl_ (some 14) Tryz.func45 #[.int .i64 (rd l0 ac),.int .i64 0,.int .i64 40] ?_;(with_reducible refine (spec_l1In.calls (rd l0 ac) 0 40 true _ A4.out).mono ?_);rintro e w' ⟨rfl,⟨nd,rfl⟩⟩;refine ⟨_,rfl,?_⟩))
     go_roundg k1
     case measure=>have:=HK1.out;omega
     case rel=>exact ⟨(wrap64 (ac+1)),tx_,H',⟨by have:=HK1.out;omega⟩,dz_⟩
    ·
     replace c5:=Bool.eq_false_iff.mpr c5;subst c5;replace H:=bf_ H
     obtain rfl:=Option.some.inj H;obtain ⟨p106,q106,ad106,e106,ap⟩:=a2_ (Kd.at_int HR0.out ac);cases e106;go_wp2_with (first|((with_reducible refine gc_ 45 ?_);refine gl_ (some 14) Tryz.func45 #[.int .i64 (rd l0 ac),.int .i64 0,.int .i64 40] ?_;(with_reducible refine (spec_l1In.calls (rd l0 ac) 0 40 false _ A4.out).mono ?_);rintro e w' ⟨rfl,⟨nd,rfl⟩⟩;refine ⟨_,rfl,?_⟩));go_ret;exact ⟨tx_,dz_⟩
   ·
    obtain ⟨aE,A6,H⟩:=bnd_ H;(try dsimp only at H);obtain rfl:=Option.some.inj H;go_wp2_with (first|((with_reducible refine gc_ 45 ?_);refine gl_ (some 18) Tryz.func45 #[.int .i64 (l0.length:Int),.int .i64 1,.int .i64 3] ?_;(with_reducible refine (spec_l1In.calls (l0.length:Int) 1 3 aE _ A6.out).mono ?_);rintro e w' ⟨rfl,⟨nd,rfl⟩⟩;refine ⟨_,rfl,?_⟩));go_ret;exact ⟨tx_,dz_⟩
def spec_StartOk.l0:Nat→List Int→Int→Option (Bool)
 |0,_,_=>none
 |k+1,x0,x3=>if x3<(x0.length:Int) then (if 0≤x3 then (if (rd x0 x3)>10 then (some false) else (spec_StartOk.l0 k x0 (wrap64 (x3+1)))) else (none)) else ((spec_UrnOk.f k x0).bind fun aG=>(some aG))
def spec_StartOk.f (k:Nat) (l0:List Int):Option (Bool):=spec_StartOk.l0 k l0 0
theorem spec_StartOk.calls (k:Nat) (A0:Option Addr) (c0:Nat) (l0:List Int) (r:Bool) (w:World) (hr0:Kd.C (Kd.int .i64) w A0 l0.length l0) (hc0:l0.length≤c0) (h:spec_StartOk.f k l0=some r) :
  Calls Tryz.prog 80 #[.slice A0 l0.length c0] w fun e w'=>e=.returned (.bool r)∧Drawn0 w w':=by
 have HR0:=A_ hr0;have HC0:=A_ hc0;clear hr0 hc0;have H:=h;clear h;unfold spec_StartOk.f at H;have H':=A_ H;clear H;go_enter Tryz.func80,Tryz.ntmps80;go_wp2
 go_loopg [3] k (fun kq v3 w'=>∃(ac:Int),v3=.int .i64 ac∧Aside0 (spec_StartOk.l0 kq l0 ac=some r)∧Aside0 (kq≤k)∧Drawn0 w w')
 case atStart=>exact ⟨(0),tx_,H',⟨Nat.le_refl _⟩,dz_⟩
 case round =>
  clear H';obtain ⟨ac,rfl,HA,HK1,⟨m1,rfl⟩⟩:=hrel
  cases gk with
  |zero=>exact absurd HA.out (by simp [spec_StartOk.l0])
  |succ k1 =>
   have H:=HA.out;clear HA;simp only [spec_StartOk.l0] at H;replace H:=it_ H;rcases H with ⟨aF,H⟩|⟨aF,H⟩
   ·
    replace H:=in_ H;obtain ⟨aB,H⟩:=H;replace H:=ig_ H;rcases H with ⟨aC,H⟩|⟨aC,H⟩
    ·
     obtain rfl:=Option.some.inj H;obtain ⟨p109,q109,ad109,e109,aq⟩:=a2_ (Kd.at_int HR0.out ac);cases e109;go_wp2;go_ret;exact ⟨tx_,dz_⟩
    ·
     have H':=A_ H;clear H;obtain ⟨p109,q109,ad109,e109,aq⟩:=a2_ (Kd.at_int HR0.out ac);cases e109;go_wp2
     go_roundg k1
     case measure=>have:=HK1.out;omega
     case rel=>exact ⟨(wrap64 (ac+1)),tx_,H',⟨by have:=HK1.out;omega⟩,dz_⟩
   ·
    obtain ⟨aG,A5,H⟩:=bnd_ H;(try dsimp only at H);obtain rfl:=Option.some.inj H;go_wp2_with (first|((with_reducible refine gc_ 95 ?_);refine gl_ (some 16) Tryz.func95 #[.slice A0 l0.length c0] ?_;(with_reducible refine (spec_UrnOk.calls k1 _ _ l0 aG _ ?s1 ?s2 A5.out).mono ?_);(case s1=>exact td_);(case s2=>exact HC0.out);rintro e w' ⟨rfl,⟨nd,rfl⟩⟩;refine ⟨_,rfl,?_⟩));go_ret;exact ⟨tx_,dz_⟩
end Go.Proofs.YtdllgaelpanblaaGreatDoor.MFnStoreSameWay
