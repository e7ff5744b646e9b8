/- Walks for FnReadJournal: a call returns what the plain function tells. Conditions: in each statement. -/
import Derived.Test.YtabknkhhlbanoaaGreatDoorMFnReadJournalx1
namespace Go.Proofs.YtabknkhhlbanoaaGreatDoor.MFnReadJournal
open Go.RowKit Go.Proofs.YtabknkhhlbanoaaGreatDoorW.PrintWords Go.Proofs.YtabknkhhlbanoaaGreatDoorW.PrintLast Go.Proofs.YtabknkhhlbanoaaGreatDoorW.PrintMore
attribute [local go_sem] max2_int min2_int max_two min_two max_three min_three max_four min_four
set_option linter.unusedVariables false
set_option linter.unusedSimpArgs false
set_option maxHeartbeats 8000000
set_option maxRecDepth 100000
attribute [local go_sem high] eqA41
/-- A state of type 69 at block g of W; what its slices lead to came in by w0. -/
def IsS69 (w0 W:World) (g:Nat) (f0:List Int) (f1:Int):Prop:=∃A0 c0,W.heap[g]?=some (.cells #[.slice A0 f0.length c0,.int .i64 f1] 69 (0,0))∧w0.heap.size≤g∧Kd.C (Kd.int .u8) w0 A0 f0.length f0
theorem IsS69.grown {w0 W:World} {g:Nat} {f0:List Int} {f1:Int} {W1:World} {row:Option Nat} (h:IsS69 w0 W g f0 f1) (hw:W.grownBy W1 row) (hne:some g≠row):IsS69 w0 W1 g f0 f1:=by
 obtain ⟨A0,c0,hb,hg,hr0⟩:=h
 exact ⟨A0,c0,blk_grown hb hw hne,hg,hr0⟩
theorem IsS69.own_neN {w0 W:World} {g:Nat} {f0:List Int} {f1:Int} {α:Type} {d:Kd α} {e:Nat} {base:Nat} {ok:Nat→Prop} {v:Value} {xs:List α} (h:IsS69 w0 W g f0 f1) (ho:Kd.N d e W base ok v xs) (ht:e≠69):some g≠v.ownBlock:=by
 obtain ⟨A0,c0,hb,hg,hr0⟩:=h
 exact Kd.N_ne ho hb ht
theorem IsS69.fresh {w0 W:World} {g:Nat} {f0:List Int} {f1:Int} (h:IsS69 w0 W g f0 f1):∀k,W.heap.size≤k→k≠g:=by
 obtain ⟨A0,c0,hb,hg,hr0⟩:=h
 exact Kd.freshB hb
theorem IsS69.kept {w0 W:World} {g:Nat} {f0:List Int} {f1:Int} {W1:World} {S:Nat→Prop} (h:IsS69 w0 W g f0 f1) (hk:Kept W W1 S) (hne:¬S g):IsS69 w0 W1 g f0 f1:=by
 obtain ⟨A0,c0,hb,hg,hr0⟩:=h
 exact ⟨A0,c0,blk_kept hb hk hne,hg,hr0⟩
theorem IsS69.below {w0 W:World} {g:Nat} {f0:List Int} {f1:Int} {W1:World} (h:IsS69 w0 W g f0 f1) (hw:Below W.heap.size W W1):IsS69 w0 W1 g f0 f1:=h.grown (grown_of_below hw none) (by simp)
theorem IsS69.alloc {w0 W:World} {g:Nat} {f0:List Int} {f1:Int} (h:IsS69 w0 W g f0 f1) (o:Obj):IsS69 w0 (W.alloc o) g f0 f1:=h.below (la_ (Below.refl _ _) o)
theorem IsS69.drewN {w0 W:World} {g:Nat} {f0:List Int} {f1:Int} (h:IsS69 w0 W g f0 f1) (m:Nat):IsS69 w0 (W.drewN m) g f0 f1:=h
theorem IsS69.drew {w0 W:World} {g:Nat} {f0:List Int} {f1:Int} (h:IsS69 w0 W g f0 f1):IsS69 w0 W.drew g f0 f1:=h
theorem IsS69.at_ {w0 W:World} {g:Nat} {f0:List Int} {f1:Int} {w':World} {m:Nat} (hq:W.drewN m=w') (h:IsS69 w0 W g f0 f1):IsS69 w0 w' g f0 f1:=by subst hq;exact IsS69.drewN h m
theorem IsS69.apart {w0 W:World} {g:Nat} {f0:List Int} {f1:Int} {α:Type} {d:Kd α} {e:Nat} {base:Nat} {ok:Nat→Prop} {v:Value} {xs:List α} (h:IsS69 w0 W g f0 f1) (ho:d.R e W base ok v xs) (ht:∀q,q ∈ e :: d.E→q≠69):d.R e W base (fun k=>ok k∧k≠g) v xs:=by
 obtain ⟨A0,c0,hb,hg,hr0⟩:=h
 exact Kd.R_types ho hb ht
theorem IsS69.own_ne {w0 W:World} {g:Nat} {f0:List Int} {f1:Int} {α:Type} {d:Kd α} {e:Nat} {base:Nat} {ok:Nat→Prop} {v:Value} {xs:List α} (h:IsS69 w0 W g f0 f1) (ho:d.R e W base ok v xs) (ht:e≠69):some g≠v.ownBlock:=by
 obtain ⟨A0,c0,hb,hg,hr0⟩:=h
 exact Kd.R_ne ho hb ht
theorem IsS69.apartQ {w0 W:World} {g:Nat} {f0:List Int} {f1:Int} {α:Type} {d:Kd α} {e:Nat} {base:Nat} {ok:Nat→Prop} {v:Value} {xs:List α} (h:IsS69 w0 W g f0 f1) (ho:d.Q e W base ok v xs) (ht:∀q,q ∈ e :: d.E→q≠69):d.Q e W base (fun k=>ok k∧k≠g) v xs:=by
 obtain ⟨A0,c0,hb,hg,hr0⟩:=h
 exact Kd.Q_types ho hb ht
theorem IsS69.own_neQ {w0 W:World} {g:Nat} {f0:List Int} {f1:Int} {α:Type} {d:Kd α} {e:Nat} {base:Nat} {ok:Nat→Prop} {v:Value} {xs:List α} (h:IsS69 w0 W g f0 f1) (ho:d.Q e W base ok v xs) (ht:e≠69):some g≠v.ownBlock:=by
 obtain ⟨A0,c0,hb,hg,hr0⟩:=h
 exact Kd.Q_ne ho hb ht
theorem IsS69.apartS {w0 W:World} {g:Nat} {f0:List Int} {f1:Int} {α:Type} {d:Kd α} {e:Nat} {base:Nat} {ok:Nat→Prop} {v:Value} {xs:List α} (h:IsS69 w0 W g f0 f1) (ho:d.S e W base ok v xs) (ht:∀q,q ∈ e :: d.E→q≠69):d.S e W base (fun k=>ok k∧k≠g) v xs:=by
 obtain ⟨A0,c0,hb,hg,hr0⟩:=h
 exact Kd.S_types ho hb ht
theorem IsS69.own_neS {w0 W:World} {g:Nat} {f0:List Int} {f1:Int} {α:Type} {d:Kd α} {e:Nat} {base:Nat} {ok:Nat→Prop} {v:Value} {xs:List α} (h:IsS69 w0 W g f0 f1) (ho:d.S e W base ok v xs) (ht:e≠69):some g≠v.ownBlock:=by
 obtain ⟨A0,c0,hb,hg,hr0⟩:=h
 exact Kd.S_ne ho hb ht
theorem IsS69.lt {w0 W:World} {g:Nat} {f0:List Int} {f1:Int} (h:IsS69 w0 W g f0 f1):g<W.heap.size:=by
 obtain ⟨A0,c0,hb,hg,hr0⟩:=h
 exact blk_lt hb
theorem IsS69.ge {w0 W:World} {g:Nat} {f0:List Int} {f1:Int} (h:IsS69 w0 W g f0 f1):w0.heap.size≤g:=by
 obtain ⟨A0,c0,hb,hg,hr0⟩:=h
 exact hg
theorem IsS69.ne_blk {w0 W:World} {g:Nat} {f0:List Int} {f1:Int} {a:Nat} {cs:Array Value} {t:TypeId} {fr:Nat×Nat} (h:IsS69 w0 W g f0 f1) (hb2:W.heap[a]?=some (.cells cs t fr)) (ht:t≠69):g≠a:=by
 obtain ⟨A0,c0,hb,hg,hr0⟩:=h
 rintro rfl
 rw [hb] at hb2
 injection hb2 with hb2
 injection hb2 with _ ht2
 exact ht ht2.symm
theorem IsS69.far {w0 W:World} {g:Nat} {f0:List Int} {f1:Int} {p:Addr} (h:IsS69 w0 W g f0 f1) (hne:g≠p.block) (u:Value):IsS69 w0 (W.setCell p u) g f0 f1:=by
 obtain ⟨A0,c0,hb,hg,hr0⟩:=h
 exact ⟨A0,c0,blk_far hb hne u,hg,hr0⟩
theorem cellS69_0 {W:World} {g:Nat} {A0:Option Addr} {c0:Nat} {f0:List Int} {f1:Int} (h:W.heap[g]?=some (.cells #[.slice A0 f0.length c0,.int .i64 f1] 69 (0,0))):W.cell? ⟨g,0,none⟩=some (.slice A0 f0.length c0):=(blk_cell h 0).trans rfl
theorem cellS69_1 {W:World} {g:Nat} {A0:Option Addr} {c0:Nat} {f0:List Int} {f1:Int} (h:W.heap[g]?=some (.cells #[.slice A0 f0.length c0,.int .i64 f1] 69 (0,0))):W.cell? ⟨g,1,none⟩=some (.int .i64 f1):=(blk_cell h 1).trans rfl
theorem IsS69.set_1 {w0 W:World} {g:Nat} {f0:List Int} {f1:Int} (h:IsS69 w0 W g f0 f1) (x:Int):IsS69 w0 (W.setCell ⟨g,1,none⟩ (.int .i64 x)) g f0 x:=by
 obtain ⟨A0,c0,hb,hg,hr0⟩:=h
 exact ⟨A0,c0,by simpa using blk_set hb 1 (.int .i64 x),hg,hr0⟩
theorem IsS69.new (w0 W:World) (A0:Option Addr) (c0:Nat) (f0:List Int) (f1:Int) (hB:Below w0.heap.size w0 W) (hr0:Kd.C (Kd.int .u8) w0 A0 f0.length f0):IsS69 w0 (W.alloc (.cells #[.slice A0 f0.length c0,.int .i64 f1] 69)) W.heap.size f0 f1:=⟨A0,c0,by simpa using heap_alloc_new W _,hB.size,hr0⟩
instance {w0:World} {g:Nat} {f0:List Int} {f1:Int} : LcI (fun W_=>IsS69 w0 W_ g f0 f1) g:=⟨fun h hm=>by obtain ⟨A0,c0,hb,r⟩:=h;exact ⟨A0,c0,hm.trans hb,r⟩,fun h=>by obtain ⟨_,_,hb,_⟩:=h;exact blk_lt hb⟩
theorem ti69_ {P Q:Prop} (h:Q) (hp:Q→P:=by intro h_;repeat (first|(with_reducible first|exact h_|apply IsS69.alloc|apply IsS69.drewN|apply IsS69.drew|apply IsS69.set_1|refine IsS69.far ?_ (Aside0.out (by assumption)) _)|exact h_)):P:=hp h
theorem tu69_ {B:Nat} {w W0 W:World} (h:Below B w W0) (hp:Below B w W0→Below B w W:=by intro h_;repeat (first|(with_reducible first|exact h_|apply la_|apply ln_|apply ld_|refine below_set ?_ (IsS69.ge (Aside0.out (by assumption)))|refine below_set ?_ (Aside0.out (by assumption)))|exact h_)):Below B w W:=hp h
theorem tu69_s {w W0 W W2:World} (h:Aside0 (Below w.heap.size w W0)) (k_:Below W.heap.size W W2) (hp:Below w.heap.size w W0→Below w.heap.size w W:=by intro h_;exact tu69_ h_):Aside0 (Below w.heap.size w W2):=⟨below_step (hp h.out) k_⟩
theorem ti69_b {w0 W0 W W1:World} {g:Nat} {f0:List Int} {f1:Int} (h:Aside0 (IsS69 w0 W0 g f0 f1)) (hb:Below W.heap.size W W1) (hp:IsS69 w0 W0 g f0 f1→IsS69 w0 W g f0 f1:=by intro h_;exact ti69_ h_):Aside0 (IsS69 w0 W1 g f0 f1):=⟨IsS69.below (hp h.out) hb⟩
def spec_l20Open.f (l0:List Int):Option (List Int×Int):=if (l0.length:Int)>2000 then (if 2000≤(l0.length:Int) then (some (l0.take 2000,0)) else (none)) else (some (l0,0))
theorem spec_l20Open.calls (A0:Option Addr) (c0:Nat) (l0:List Int) (r1:List Int) (r2:Int) (w0 w:World) (hB:Below w0.heap.size w0 w) (hr0:Kd.C (Kd.int .u8) w0 A0 l0.length l0) (hc0:l0.length≤c0) (h:spec_l20Open.f l0=some (r1,r2)) :
  Calls Tryz.prog 16 #[.slice A0 l0.length c0] w fun e w'=>∃g_:Nat,e=.returned (.pointer (some ⟨g_,0,none⟩))∧IsS69 w0 w' g_ r1 r2∧Below w0.heap.size w0 w'∧Below w.heap.size w w':=by
 have hu69:=Tryz.underlying69;have HR0:=A_ hr0;have HC0:=A_ hc0;clear hr0 hc0;have HBW:=A_ (Below.refl w.heap.size w);have HW0:=A_ hB.size;have HB:=A_ hB;clear hB;have H:=h;clear h;unfold spec_l20Open.f at H;by_cases c2:(l0.length:Int)>2000
 ·
  rw [if_pos c2] at H;have ar:decide (2000<(l0.length:Int))=true:=decide_eq_true c2;have be:decide (2000<l0.length)=true:=decide_eq_true (by omega);clear c2;replace H:=i0_ H;obtain ⟨c3,H⟩:=H;have aO:=eq_true c3;have bf:decide (2000≤(l0.length:Int))=true:=decide_eq_true c3;clear c3;obtain ⟨rfl,rfl⟩:=sj2_ H;obtain ⟨i04,hi04,_,hsz4,_⟩:=info_parts info5;obtain ⟨hcut4,hA4,hC4⟩:=print_take_of (P:=Tryz.prog) (Value.int .u8) 0 22 5 .i64 Tryz.underlying22 hi04 hsz4 A0 c0 l0 2000 (by omega) (od_) HC0.out;have HR101:=A_ (Kd.C_of_reads (h1:=fun _=>rfl) (hA4 _ (Kd.reads_of_C HR0.out)));have HC101:=A_ hC4;clear hA4 hC4 hi04 hsz4;go_enter Tryz.func16,Tryz.ntmps16;go_wp2_with (first|((with_reducible refine gd_ 10 ?_);refine be_ 10 #[.slice A0 (l0.take 2000).length c0,.int .i64 0] 69 ?_;intro av hg w5 aP hb;replace HB:=bs_ HB hb;have aQ:=A_ ((by rw [hg];exact (below_size (by repeat (first|(with_reducible first|exact HBW.out|apply la_|apply ln_|apply ld_)|exact HBW.out))):w.heap.size≤av));have aR:=A_ ((Nat.le_trans HW0.out (by rw [hg];exact (below_size (by repeat (first|(with_reducible first|exact HBW.out|apply la_|apply ln_|apply ld_)|exact HBW.out))):w.heap.size≤av):w0.heap.size≤av));replace HBW:=A_ (below_step HBW.out hb);clear hb hg));go_ret;exact ⟨_,rfl,(show IsS69 w0 _ av (l0.take 2000) 0 from ⟨_,_,by exact tk_ aP.out,aR.out,HR101.out⟩),(tb_ HB.out),by repeat (first|(with_reducible first|exact HBW.out|apply la_|apply ln_|apply ld_|refine below_set ?_ aQ.out)|exact HBW.out)⟩
 ·
  rw [if_neg c2] at H;have ar:decide (2000<(l0.length:Int))=false:=decide_eq_false c2;have be:decide (2000<l0.length)=false:=decide_eq_false (by omega);clear c2;obtain ⟨rfl,rfl⟩:=sj2_ H;go_enter Tryz.func16,Tryz.ntmps16;go_wp2_with (first|((with_reducible refine gd_ 10 ?_);refine be_ 10 #[.slice A0 l0.length c0,.int .i64 0] 69 ?_;intro aw hg w6 aU hb;replace HB:=bs_ HB hb;have aV:=A_ ((by rw [hg];exact (below_size (by repeat (first|(with_reducible first|exact HBW.out|apply la_|apply ln_|apply ld_)|exact HBW.out))):w.heap.size≤aw));have aW:=A_ ((Nat.le_trans HW0.out (by rw [hg];exact (below_size (by repeat (first|(with_reducible first|exact HBW.out|apply la_|apply ln_|apply ld_)|exact HBW.out))):w.heap.size≤aw):w0.heap.size≤aw));replace HBW:=A_ (below_step HBW.out hb);clear hb hg));go_ret;exact ⟨_,rfl,(show IsS69 w0 _ aw l0 0 from ⟨_,_,by exact tk_ aU.out,aW.out,HR0.out⟩),(tb_ HB.out),by repeat (first|(with_reducible first|exact HBW.out|apply la_|apply ln_|apply ld_|refine below_set ?_ aV.out)|exact HBW.out)⟩
def spec_l1In.f (a0:Int) (a1:Int) (a2:Int):Option (Bool):=if a0≥a1 then (some (decide (a0≤a2))) else (some false)
theorem spec_l1In.calls (a0:Int) (a1:Int) (a2:Int) (r:Bool) (w:World) (h:spec_l1In.f a0 a1 a2=some r) :
  Calls Tryz.prog 48 #[.int .i64 a0,.int .i64 a1,.int .i64 a2] w fun e w'=>e=.returned (.bool r)∧Drawn0 w w':=by
 have H:=h;clear h;unfold spec_l1In.f at H;replace H:=ih_ H;rcases H with ⟨aI,H⟩|⟨aI,H⟩
 ·
  obtain rfl:=Option.some.inj H;go_enter Tryz.func48,Tryz.ntmps48;go_wp2;go_ret;exact ⟨tx_,dz_⟩
 ·
  obtain rfl:=Option.some.inj H;go_enter Tryz.func48,Tryz.ntmps48;go_wp2;go_ret;exact ⟨tx_,dz_⟩
def spec_l1Number.f:Nat→Int→Option (ByteArray)
 |0,_=>none
 |k+1,a0=>if a0<10 then (some (strOfNums (([(wrap64 (48+(mx a0 0))) % 256]:List Int)))) else ((spec_l1Number.f k (wrap64 (Int.tdiv a0 10))).bind fun ag=>((some (([(wrap64 (48+(Int.tmod a0 10))) % 256]:List Int):List Int)).bind fun ah=>(if ag.size+(strOfNums ah).size≤9223372036854775807 then (some (ag++(strOfNums ah))) else (none))))
theorem spec_l1Number.mono_l:∀k,(∀y0,LeO (spec_l1Number.f k y0) (spec_l1Number.f (k+1) y0))
 |0=>fun _ r h=>by simp [spec_l1Number.f] at h
 |k+1=>by
  have ih0:=spec_l1Number.mono_l k
  ·
   intro y0
   unfold spec_l1Number.f
   repeat' (with_reducible first|exact ih0 _|exact mr_|exact mn_|refine mi_ ?_ ?_|refine mb_ ?_ (fun _=>?_))
theorem spec_l1Number.mono:∀a0 k,LeO (spec_l1Number.f k a0) (spec_l1Number.f (k+1) a0):=by
 intro a0 k;have ih0:=spec_l1Number.mono_l k;exact ih0 a0
def spec_l1Number.T3:Bool×List (List Nat×List Nat):=(true,[([],[]),([0],[0]),([1],[1]),([],[]),([3],[3]),([4],[4]),([5],[5]),([6],[6]),([7],[7]),([2,8],[2,8]),([9,2,0,1,2,3,4,5,6,7,8,9],[9])])
def spec_l1Number.B3:List Nat:=[0,1,3,0,8,24,56,120,248,511,1023]
theorem spec_l1Number.tab3:rtab .any (opsOf Tryz.f111 3)=spec_l1Number.T3:=by kernel_rfl
theorem spec_l1Number.bits3:waitsOk spec_l1Number.T3.2 spec_l1Number.B3=true:=by kernel_rfl
theorem spec_l1Number.calls (k:Nat):∀(a0:Int) (r:ByteArray) (w:World) (h:spec_l1Number.f k a0=some r),
  Calls Tryz.prog 111 #[.int .i64 a0] w fun e w'=>e=.returned (.string r)∧Below w.heap.size w w':=by
 induction k using Nat.strongRecOn with
 |_ k ih =>
 intro a0 r w h
 cases k with
 |zero=>exact absurd h (by simp [spec_l1Number.f])
 |succ k =>
 simp only [spec_l1Number.f] at h;have HB:=A_ (Below.refl w.heap.size w);have H:(if a0<10 then (some (strOfNums (([(wrap64 (48+(mx a0 0))) % 256]:List Int)))) else ((spec_l1Number.f k (wrap64 (Int.tdiv a0 10))).bind fun ag=>((some (([(wrap64 (48+(Int.tmod a0 10))) % 256]:List Int):List Int)).bind fun ah=>(if ag.size+(strOfNums ah).size≤9223372036854775807 then (some (ag++(strOfNums ah))) else (none)))))=some r:=h;clear h;replace H:=it_ H;rcases H with ⟨ar,H⟩|⟨ar,H⟩
 ·
  obtain ⟨aG,aD⟩:∃j_:Int,(mx a0 0)=j_:=⟨_,rfl⟩
  replace H:(some (strOfNums (([(wrap64 (48+(aG))) % 256]:List Int))))=some r:=by first|(rw [aD] at H;exact H)|(simp only [aD] at H ⊢;exact H)
  (try (have hji3l:0≤aG:=by (rw [←aD];unfold mx;(repeat' split)<;>omega)));(try (have hji3m:0≤aG:=by omega));have hji3_:(if a0<0 then 0 else a0)=aG:=aD;obtain ⟨bg,aE⟩:∃y_:List Int,y_=(([(wrap64 (48+(aG))) % 256]:List Int)):=⟨_,rfl⟩
  replace H:(some (strOfNums bg))=some r:=yq_ aE H;have aH:=A_ aE;clear aE;obtain rfl:=Option.some.inj H;go_enter Tryz.func111,Tryz.ntmps111;go_wp2_with (first|((with_reducible refine gd_ 9 ?_);refine Kd.R_lit (Kd.int .u8) _ 5 ?hg (N:=9) ?hd (xs:=([(wrap64 (48+(aG))) % 256]:List Int)) (inner:=[.int .u8 ((wrap64 (48+(aG))) % 256)]) (ok:=fun _=>True) (okp:=fun _=>True) ?hr ?hp (fun _ hk=>hk) trivial (Below.refl _ _) (Nat.le_refl _) (by simp) ?_;(case hd=>rfl);(case hg=>rfl);(case hr=>first|(go_simp;done)|(go_simp;rfl));(case hp=>exact (Reps.one (show Kd.M (Kd.int .u8) _ _ _ ((wrap64 (48+(aG))) % 256) [.int .u8 ((wrap64 (48+(aG))) % 256)] from rfl) (Reps.none _ _)));intro bv w4 ho5 hb hg_ hnew_;clear hg_ hnew_;(first|rw [←aH.out] at ho5|(simp only [Int.reduceToNat] at ho5;rw [←aH.out] at ho5));have aX:=rx_ ho5 HB;replace HB:=bs_ HB hb;clear hb ho5;have hcv6:=own_string (P:=Tryz.prog) Tryz.underlying22 Tryz.underlying5 Tryz.underlying9 (Kd.own_of_R aX.out)));go_ret;exact ⟨by first|rfl|(simp [errW_none,errW_some,Option.map_none,Option.map_some]<;>rfl)|(simp only [←aD];first|rfl|(simp [errW_none,errW_some,Option.map_none,Option.map_some]<;>rfl))|(simp [*,errW_none,errW_some]<;>rfl),(tb_ HB.out)⟩
 ·
  obtain ⟨ag,A7,H⟩:=bnd_ H;(try dsimp only at H);obtain ⟨ah,aF⟩:∃y_:List Int,y_=(([(wrap64 (48+(Int.tmod a0 10))) % 256]:List Int)):=⟨_,rfl⟩
  replace H:(if ag.size+(strOfNums ah).size≤9223372036854775807 then (some (ag++(strOfNums ah))) else (none))=some r:=yq_ aF H;have ax:=A_ aF;clear aF;replace H:=i0_ H;obtain ⟨c8,H⟩:=H;have aJ:=eq_true c8;have aK:decide (ag.size+(strOfNums ah).size≤9223372036854775807)=true:=decide_eq_true c8;(try have aL:(9223372036854775807<ag.size+(strOfNums ah).size)=False:=eq_false (Nat.not_lt.2 c8));obtain rfl:=Option.some.inj H;go_enter Tryz.func111,Tryz.ntmps111;(try go_wp2);replace HB:=A_ (ld_ HB.out);refine sv_ (S:=fun w'=>True) (ds:=[]) trivial (fun hHeld=>?_);refine with_tabW spec_l1Number.tab3 spec_l1Number.bits3 (fun HT_ HW_=>?_);generalize w.drew=w9 at HB hHeld ⊢;refine pv_ 0 ?_;refine pv_ 1 ?_;refine pv_ 3 ?_;refine pv_ 4 ?_;refine pv_ 5 ?_;refine pv_ 6 ?_;refine join_ (σ:=Value) 2 #[true,true,true,true,true,true,true,true,true,false,false] (fun s_=>[(13,.string ag),(18,s_),(19,.string (strOfNums ah))]) (fun s_ w'=>(Kd.R (Kd.int .u8) 5 w' w.heap.size (fun _=>True) s_ ah)∧(Below w.heap.size w w')) ?_ ?_;rotate_left
  ·
   intro hCont;refine wv_ 2 7 (fun K hK=>?_) (fun K hK=>?_)
   ·
    skip;refine goes_ Tryz.func111 (by kernel_rfl) rfl #[.int .i64 (wrap64 (Int.tdiv a0 10))] (by rfl) rfl rfl tz_ ?_;(with_reducible refine (ih k (by omega) (wrap64 (Int.tdiv a0 10)) ag _ A7.out).mono ?_);rintro e bm ⟨rfl,hb⟩;refine ⟨_,rfl,?_⟩;replace HB:=bs_ HB hb;(try clear hb);(try clear hb2);(try clear hk);(try clear hi);refine hK.out _ _ trivial (fun hHeld=>?_);clear hK K;refine nr_ 13 ?_;refine ov_ 7 (fun K hK=>?_);refine Kd.R_lit_step (Kd.int .u8) _ 5 ?hg (N:=18) ?hd (xs:=([(wrap64 (48+(Int.tmod a0 10))) % 256]:List Int)) (inner:=[.int .u8 ((wrap64 (48+(Int.tmod a0 10))) % 256)]) (ok:=fun _=>True) (okp:=fun _=>True) ?hr ?hp (fun _ hk=>hk) trivial (Below.refl _ _) (Nat.le_refl _) (by simp) ?_;(case hd=>rfl);(case hg=>rfl);(case hr=>first|(go_simp;done)|(go_simp;rfl));(case hp=>exact (Reps.one (show Kd.M (Kd.int .u8) _ _ _ ((wrap64 (48+(Int.tmod a0 10))) % 256) [.int .u8 ((wrap64 (48+(Int.tmod a0 10))) % 256)] from rfl) (Reps.none _ _)));intro az bw ho12 hb hg_ hnew_;clear hg_ hnew_;(first|rw [←ax.out] at ho12|(simp only [Int.reduceToNat] at ho12;rw [←ax.out] at ho12));have ae:=rx_ ho12 HB;replace HB:=bs_ HB hb;clear hb ho12;refine hK.out _ _ trivial (fun hHeld=>?_);clear hK K;refine nr_ 18 ?_;refine ov_ 8 (fun K hK=>?_);have hcv13:=own_string (P:=Tryz.prog) Tryz.underlying22 Tryz.underlying5 Tryz.underlying9 (Kd.own_of_R ae.out);refine va_ rfl ?_;clear hcv13;refine hK.out _ _ trivial (fun hHeld=>?_);clear hK K;refine nr_ 19 ?_;exact nq_ (hCont (az) _ ⟨(rR_ ae.out),(tb_ HB.out)⟩)
   ·
    skip;refine Kd.R_lit_step (Kd.int .u8) _ 5 ?hg (N:=18) ?hd (xs:=([(wrap64 (48+(Int.tmod a0 10))) % 256]:List Int)) (inner:=[.int .u8 ((wrap64 (48+(Int.tmod a0 10))) % 256)]) (ok:=fun _=>True) (okp:=fun _=>True) ?hr ?hp (fun _ hk=>hk) trivial (Below.refl _ _) (Nat.le_refl _) (by simp) ?_;(case hd=>rfl);(case hg=>rfl);(case hr=>first|(go_simp;done)|(go_simp;rfl));(case hp=>exact (Reps.one (show Kd.M (Kd.int .u8) _ _ _ ((wrap64 (48+(Int.tmod a0 10))) % 256) [.int .u8 ((wrap64 (48+(Int.tmod a0 10))) % 256)] from rfl) (Reps.none _ _)));intro az bm ho11 hb hg_ hnew_;clear hg_ hnew_;(first|rw [←ax.out] at ho11|(simp only [Int.reduceToNat] at ho11;rw [←ax.out] at ho11));have ae:=rx_ ho11 HB;replace HB:=bs_ HB hb;clear hb ho11;refine hK.out _ _ trivial (fun hHeld=>?_);clear hK K;refine nr_ 18 ?_;refine wv_ 2 8 (fun K hK=>?_) (fun K hK=>?_)
    ·
     skip;refine goes_ Tryz.func111 (by kernel_rfl) rfl #[.int .i64 (wrap64 (Int.tdiv a0 10))] (by rfl) rfl rfl tz_ ?_;(with_reducible refine (ih k (by omega) (wrap64 (Int.tdiv a0 10)) ag _ A7.out).mono ?_);rintro e bN ⟨rfl,hb⟩;refine ⟨_,rfl,?_⟩;replace ae:=rb_ ae hb;replace HB:=bs_ HB hb;(try clear hb);(try clear hb2);(try clear hk);(try clear hi);refine hK.out _ _ trivial (fun hHeld=>?_);clear hK K;refine nr_ 13 ?_;refine ov_ 8 (fun K hK=>?_);have hcv13:=own_string (P:=Tryz.prog) Tryz.underlying22 Tryz.underlying5 Tryz.underlying9 (Kd.own_of_R ae.out);refine va_ rfl ?_;clear hcv13;refine hK.out _ _ trivial (fun hHeld=>?_);clear hK K;refine nr_ 19 ?_;exact nq_ (hCont (az) _ ⟨(rR_ ae.out),(tb_ HB.out)⟩)
    ·
     skip;have hcv12:=own_string (P:=Tryz.prog) Tryz.underlying22 Tryz.underlying5 Tryz.underlying9 (Kd.own_of_R ae.out);refine va_ rfl ?_;clear hcv12;refine hK.out _ _ trivial (fun hHeld=>?_);clear hK K;refine nr_ 19 ?_;refine ov_ 2 (fun K hK=>?_);refine goes_ Tryz.func111 (by kernel_rfl) rfl #[.int .i64 (wrap64 (Int.tdiv a0 10))] (by rfl) rfl rfl tz_ ?_;(with_reducible refine (ih k (by omega) (wrap64 (Int.tdiv a0 10)) ag _ A7.out).mono ?_);rintro e bO ⟨rfl,hb⟩;refine ⟨_,rfl,?_⟩;replace ae:=rb_ ae hb;replace HB:=bs_ HB hb;(try clear hb);(try clear hb2);(try clear hk);(try clear hi);refine hK.out _ _ trivial (fun hHeld=>?_);clear hK K;refine nr_ 13 ?_;exact nq_ (hCont (az) _ ⟨(rR_ ae.out),(tb_ HB.out)⟩)
  rintro az bn ⟨h0_,h1_⟩;have ae:Aside0 (Kd.R (Kd.int .u8) 5 bn w.heap.size (fun _=>True) az ah):=⟨h0_⟩
  replace HB:Aside0 (Below w.heap.size w bn):=⟨h1_⟩
  clear h0_ h1_;have hHeld:=trivial;refine norm_ (a':=?_) ?_ ?_;rotate_left
  ·
   simp only [putAll,Act.put,sa_,sb_,sc_];rfl
  refine pv_ 9 ?_;refine pv_ 10 ?_;refine done_ (done_of HT_.out (by kernel_rfl)) ?_;(try go_wp2);go_ret;exact ⟨tw_,(tb_ HB.out)⟩
def spec_l15Step.f (k:Nat) (a0:Int):Option (ByteArray):=if a0<0 then ((spec_l1Number.f k (wrap64 (-a0))).bind fun aA=>(if 1+aA.size≤9223372036854775807 then (some ((⟨#[45]⟩:ByteArray)++aA)) else (none))) else ((spec_l1Number.f k a0).bind fun aY=>(some aY))
theorem spec_l15Step.mono:∀a0 k,LeO (spec_l15Step.f k a0) (spec_l15Step.f (k+1) a0):=by
 intro a0 k;unfold spec_l15Step.f;repeat' (with_reducible first|exact spec_l1Number.mono _ _|exact mr_|exact mn_|refine mi_ ?_ ?_|refine mb_ ?_ (fun _=>?_))
theorem spec_l15Step.z0 {P_:Prop} (h_:P_:=by go_wp2_with (first|((with_reducible refine gc_ 111 ?_);refine ca_ (some 7) Tryz.func111 _ (spec_l1Number.calls k _ _ _ A_7.out) ?_;rintro e w_ ⟨rfl,hb⟩;refine ⟨_,rfl,?_⟩;replace st:=st.ev hb;clear cl hb;have cl:=cl_ st)|((with_reducible refine gc_ 111 ?_);refine ca_ (some 10) Tryz.func111 _ (spec_l1Number.calls k _ _ _ A_10.out) ?_;rintro e w_ ⟨rfl,hb⟩;refine ⟨_,rfl,?_⟩;replace st:=st.ev hb;clear cl hb;have cl:=cl_ st));(go_ret;exact ⟨tw_,st.b⟩)):P_:=h_
theorem spec_l15Step.calls (k:Nat) (a0:Int) (r:ByteArray) (w:World) (h:spec_l15Step.f k a0=some r) :
  Calls Tryz.prog 73 #[.int .i64 a0] w fun e w'=>e=.returned (.string r)∧Below w.heap.size w w':=by
 have st:=ST.nil w;have s0:=st;have cl:=cl_ st;have H:=h;clear h;unfold spec_l15Step.f at H;go_enter Tryz.func73,Tryz.ntmps73;replace H:=it_ H;rcases H with ⟨ar,H⟩|⟨ar,H⟩
 ·
  obtain ⟨aA,A_7,H⟩:=bnd_ H;replace H:=i0_ H;obtain ⟨c3,H⟩:=H;have aO:=eq_true c3;have bf:decide (1+aA.size≤9223372036854775807)=true:=decide_eq_true c3;(try have bx:(9223372036854775807<1+aA.size)=False:=eq_false (Nat.not_lt.2 c3));obtain rfl:=Option.some.inj H;exact spec_l15Step.z0
 ·
  obtain ⟨aY,A_10,H⟩:=bnd_ H;obtain rfl:=Option.some.inj H;exact spec_l15Step.z0
def spec_DeedText.j0:Nat→Bool→Int→Int→Int→Option (ByteArray)
 |0,_,_,_,_=>none
 |k+1,x12,ai,aj,ak=>if x12=true then (some (⟨#[]⟩:ByteArray)) else (if (ai == 0)=true then ((spec_l15Step.f k aj).bind fun af=>(if 4+af.size≤9223372036854775807 then (if ((⟨#[112,117,116,32]⟩:ByteArray)++af).size+1≤9223372036854775807 then ((spec_l15Step.f k ak).bind fun au=>(if (((⟨#[112,117,116,32]⟩:ByteArray)++af)++(⟨#[32]⟩:ByteArray)).size+au.size≤9223372036854775807 then (some ((((⟨#[112,117,116,32]⟩:ByteArray)++af)++(⟨#[32]⟩:ByteArray))++au)) else (none))) else (none)) else (none))) else (if (ai == 1 && (ak == 0))=true then ((spec_l15Step.f k aj).bind fun aB=>(if 5+aB.size≤9223372036854775807 then (some ((⟨#[115,116,101,112,32]⟩:ByteArray)++aB)) else (none))) else (if (ai == 2 && (ak == 0))=true then ((spec_l15Step.f k aj).bind fun aC=>(if 5+aC.size≤9223372036854775807 then (some ((⟨#[100,114,97,119,32]⟩:ByteArray)++aC)) else (none))) else (if (ai == 3 && (aj == 0 && (ak == 0)))=true then (some (⟨#[97,103,97,105,110]⟩:ByteArray)) else (if (ai == 4 && (aj == 0 && (ak == 0)))=true then (some (⟨#[98,97,99,107]⟩:ByteArray)) else (some (⟨#[]⟩:ByteArray)))))))
def spec_DeedText.f (k:Nat) (a0_0:Int) (a0_1:Int) (a0_2:Int):Option (ByteArray):=(spec_l1In.f a0_1 (-99) 99).bind fun aM=>(if aM=true then ((spec_l1In.f a0_2 (-99) 99).bind fun aN=>(spec_DeedText.j0 k (!aN) a0_0 a0_1 a0_2)) else (spec_DeedText.j0 k true a0_0 a0_1 a0_2))
def spec_DeedText.T5:Bool×List (List Nat×List Nat):=(true,[([],[]),([0],[0]),([1],[1]),([2],[2]),([3],[3]),([],[]),([5],[5]),([6,2],[6]),([4,7],[4,7]),([8,7,0,1,2,3,4,5,6,7,8],[8])])
def spec_DeedText.B5:List Nat:=[0,1,3,7,15,0,32,103,255,511]
theorem spec_DeedText.tab5:rtab .any (opsOf Tryz.f36 5)=spec_DeedText.T5:=by kernel_rfl
theorem spec_DeedText.bits5:waitsOk spec_DeedText.T5.2 spec_DeedText.B5=true:=by kernel_rfl
theorem spec_DeedText.z0 {P_:Prop} (h_:P_:=by go_wp2_with (first|((with_reducible refine gc_ 48 ?_);refine ca_ (some 5) Tryz.func48 _ (spec_l1In.calls _ _ _ _ _ A_5.out) ?_;rintro e w_ ⟨rfl,hb⟩;refine ⟨_,rfl,?_⟩;replace hb:=hb.below;replace st:=st.ev hb;clear cl hb;have cl:=cl_ st)|((with_reducible refine gc_ 48 ?_);refine gate_guard (by rfl) ?_;dsimp only;refine ca_ (some 10) Tryz.func48 _ (spec_l1In.calls _ _ _ _ _ A_10.out) ?_;rintro e w_ ⟨rfl,hb⟩;refine ⟨_,rfl,?_⟩;replace hb:=hb.below;replace st:=st.ev hb;clear cl hb;have cl:=cl_ st));first|(go_meet;(case rel=>exact ⟨_,(!aN),tx_,H',⟨by first|omega|exact Nat.le_refl _⟩,st.en⟩))|(go_meet;(case rel=>exact ⟨_,(true),tx_,H',⟨by first|omega|exact Nat.le_refl _⟩,st.en⟩))):P_:=h_
theorem spec_DeedText.z1 {P_:Prop} (h_:P_:=by (try go_wp2_with (first|((with_reducible refine gc_ 73 ?_);refine ca_ (some 37) Tryz.func73 _ (spec_l15Step.calls kj2 _ _ _ A_37.out) ?_;rintro e w_ ⟨rfl,hb⟩;refine ⟨_,rfl,?_⟩;replace st:=st.ev hb;clear cl hb;have cl:=cl_ st)|((with_reducible refine gc_ 73 ?_);refine ca_ (some 46) Tryz.func73 _ (spec_l15Step.calls kj2 _ _ _ A_46.out) ?_;rintro e w_ ⟨rfl,hb⟩;refine ⟨_,rfl,?_⟩;replace st:=st.ev hb;clear cl hb;have cl:=cl_ st)));(all_goals (try (refine rg_ st [] ?_;clear st cl;intro w_ st hs;have cl:=cl_ st;refine with_tabW spec_DeedText.tab5 spec_DeedText.bits5 (fun HT_ HW_=>?_);refine pv_ 0 ?_;refine pv_ 5 ?_;refine tu_ 1 ?_;refine tu_ 6 ?_;refine ov_ 2 (fun K hK=>?_);refine ca2_ (some 23) Tryz.func73 _ (spec_l15Step.calls kj2 _ _ _ A_23.out) ?_;rintro e w_ ⟨rfl,hb⟩;refine ⟨_,rfl,?_⟩;replace st:=st.ev hb;clear cl hb;have cl:=cl_ st;refine hK.out _ _ st.en (fun hs=>?_);clear hK K;refine nr_ 23 ?_;refine pv_ 3 ?_;refine pv_ 4 ?_;refine ov_ 7 (fun K hK=>?_);refine ca2_ (some 28) Tryz.func73 _ (spec_l15Step.calls kj2 _ _ _ A_28.out) ?_;rintro e w_ ⟨rfl,hb⟩;refine ⟨_,rfl,?_⟩;replace st:=st.ev hb;clear cl hb;have cl:=cl_ st;refine hK.out _ _ st.en (fun hs=>?_);clear hK K;refine nr_ 28 ?_;refine pv_ 8 ?_;refine pv_ 9 ?_;refine done_ (done_of HT_.out (by kernel_rfl)) ?_;all_goals (try go_wp2_with (first|((with_reducible refine gc_ 73 ?_);refine ca_ (some 37) Tryz.func73 _ (spec_l15Step.calls kj2 _ _ _ A_37.out) ?_;rintro e w_ ⟨rfl,hb⟩;refine ⟨_,rfl,?_⟩;replace st:=st.ev hb;clear cl hb;have cl:=cl_ st)|((with_reducible refine gc_ 73 ?_);refine ca_ (some 46) Tryz.func73 _ (spec_l15Step.calls kj2 _ _ _ A_46.out) ?_;rintro e w_ ⟨rfl,hb⟩;refine ⟨_,rfl,?_⟩;replace st:=st.ev hb;clear cl hb;have cl:=cl_ st))))));(go_ret;exact ⟨tw_,st.b⟩)):P_:=h_
theorem spec_DeedText.calls (k:Nat) (a0_0:Int) (a0_1:Int) (a0_2:Int) (r:ByteArray) (w:World) (h:spec_DeedText.f k a0_0 a0_1 a0_2=some r) :
  Calls Tryz.prog 36 #[.agg #[.int .i64 a0_0,.int .i64 a0_1,.int .i64 a0_2]] w fun e w'=>e=.returned (.string r)∧Below w.heap.size w w':=by
 have hu41:=Tryz.underlying41;have st:=ST.nil w;have s0:=st;have cl:=cl_ st;have H:=h;clear h;unfold spec_DeedText.f at H;go_enter Tryz.func36,Tryz.ntmps36;have HC3:=A_ H;clear H
 go_upto_region 1 with (first|((with_reducible refine gd_ 1 ?_);refine al_ st ?_;clear st cl;intro g1 w_ st;have cl:=cl_ st))
 (try simp only [Act.put,sa_,sb_,sc_])
 go_cut [12] (fun bz wc=>∃(kq:Nat) (ay:Bool),bz=.bool ay∧Aside0 (spec_DeedText.j0 kq ay a0_0 a0_1 a0_2=some r)∧Aside0 (kq≤k)∧ST w [] [Bx g1 #[.int .i64 a0_0,.int .i64 a0_1,.int .i64 a0_2] 41] wc)
 case first =>
  have H:=HC3.out;clear HC3;obtain ⟨aM,A_5,H⟩:=bnd_ H;rcases bx_ aM with rfl|rfl
  ·
   replace H:=bt_ H;obtain ⟨aN,A_10,H⟩:=bnd_ H;have H':=A_ H;clear H;exact spec_DeedText.z0
  ·
   replace H:=bf_ H;have H':=A_ H;clear H;exact spec_DeedText.z0
 case rest =>
  clear HC3 st cl;obtain ⟨kq,ay,rfl,HA,HJ2,st⟩:=hcut;have cl:=cl_ st
  cases kq with
  |zero=>exact absurd HA.out (by simp [spec_DeedText.j0])
  |succ kj2 =>
   have H:=HA.out;clear HA;simp only [spec_DeedText.j0] at H;rcases bx_ ay with rfl|rfl
   ·
    replace H:=bt_ H;obtain rfl:=Option.some.inj H;exact spec_DeedText.z1
   ·
    replace H:=bf_ H;by_cases c4:(a0_0 == 0)=true
    ·
     rw [if_pos c4] at H;have aI:(a0_0 == 0)=true:=c4;(try (have bh:decide (a0_0=0)=true:=by simpa using c4));(try (have bi:(a0_0 == 0)=true:=by simpa using c4));clear c4;obtain ⟨af,A_23,H⟩:=bnd_ H;replace H:=i0_ H;obtain ⟨c5,H⟩:=H;have aZ:=eq_true c5;have a3:decide (4+af.size≤9223372036854775807)=true:=decide_eq_true c5;(try have bB:(9223372036854775807<4+af.size)=False:=eq_false (Nat.not_lt.2 c5));replace H:=i0_ H;obtain ⟨c6,H⟩:=H;have bC:=eq_true c6;have bD:decide (((⟨#[112,117,116,32]⟩:ByteArray)++af).size+1≤9223372036854775807)=true:=decide_eq_true c6;(try have bE:(9223372036854775807<((⟨#[112,117,116,32]⟩:ByteArray)++af).size+1)=False:=eq_false (Nat.not_lt.2 c6));(try have bF:(9223372036854775807<4+af.size+1)=False:=eq_false (by have h:=c6;simp only [ByteArray.size_append] at h;simp only [ByteArray.size] at h ⊢;simp at h ⊢;omega));obtain ⟨au,A_28,H⟩:=bnd_ H;replace H:=i0_ H;obtain ⟨c7,H⟩:=H;have bG:=eq_true c7;have bH:decide ((((⟨#[112,117,116,32]⟩:ByteArray)++af)++(⟨#[32]⟩:ByteArray)).size+au.size≤9223372036854775807)=true:=decide_eq_true c7;(try have bI:(9223372036854775807<(((⟨#[112,117,116,32]⟩:ByteArray)++af)++(⟨#[32]⟩:ByteArray)).size+au.size)=False:=eq_false (Nat.not_lt.2 c7));(try have bJ:(9223372036854775807<4+af.size+1+au.size)=False:=eq_false (by have h:=c7;simp only [ByteArray.size_append] at h;simp only [ByteArray.size] at h ⊢;simp at h ⊢;omega));obtain rfl:=Option.some.inj H;exact spec_DeedText.z1
    ·
     rw [if_neg c4] at H;have aI:(a0_0 == 0)=false:=by simpa using c4
     (try (have bh:decide (a0_0=0)=false:=by simpa using c4));(try (have bi:(a0_0 == 0)=false:=by simpa using c4));(try (have bK:¬(a0_0=0):=by simpa using c4));clear c4;by_cases c8:(a0_0 == 1 && (a0_2 == 0))=true
     ·
      rw [if_pos c8] at H;have aJ:(a0_0 == 1 && (a0_2 == 0))=true:=c8;(try (have aK:decide (a0_0=1 && (a0_2 == 0))=true:=by simpa using c8));(try (have aL:(a0_0 == 1 && (a0_2 == 0))=true:=by simpa using c8));clear c8;obtain ⟨aB,A_37,H⟩:=bnd_ H;replace H:=i0_ H;obtain ⟨c9,H⟩:=H;have bj:=eq_true c9;have bk:decide (5+aB.size≤9223372036854775807)=true:=decide_eq_true c9;(try have bl:(9223372036854775807<5+aB.size)=False:=eq_false (Nat.not_lt.2 c9));obtain rfl:=Option.some.inj H;exact spec_DeedText.z1
     ·
      rw [if_neg c8] at H;have aJ:(a0_0 == 1 && (a0_2 == 0))=false:=by simpa using c8
      (try (have aK:decide (a0_0=1 && (a0_2 == 0))=false:=by simpa using c8));(try (have aL:(a0_0 == 1 && (a0_2 == 0))=false:=by simpa using c8));(try (have bL:¬(a0_0=1 && (a0_2 == 0)):=by simpa using c8));clear c8;by_cases c10:(a0_0 == 2 && (a0_2 == 0))=true
      ·
       rw [if_pos c10] at H;have a4:(a0_0 == 2 && (a0_2 == 0))=true:=c10;(try (have a5:decide (a0_0=2 && (a0_2 == 0))=true:=by simpa using c10));(try (have a6:(a0_0 == 2 && (a0_2 == 0))=true:=by simpa using c10));clear c10;obtain ⟨aC,A_46,H⟩:=bnd_ H;replace H:=i0_ H;obtain ⟨c11,H⟩:=H;have bo:=eq_true c11;have bp:decide (5+aC.size≤9223372036854775807)=true:=decide_eq_true c11;(try have bq:(9223372036854775807<5+aC.size)=False:=eq_false (Nat.not_lt.2 c11));obtain rfl:=Option.some.inj H;exact spec_DeedText.z1
      ·
       rw [if_neg c10] at H;have a4:(a0_0 == 2 && (a0_2 == 0))=false:=by simpa using c10
       (try (have a5:decide (a0_0=2 && (a0_2 == 0))=false:=by simpa using c10));(try (have a6:(a0_0 == 2 && (a0_2 == 0))=false:=by simpa using c10));(try (have br:¬(a0_0=2 && (a0_2 == 0)):=by simpa using c10));clear c10;by_cases c12:(a0_0 == 3 && (a0_1 == 0 && (a0_2 == 0)))=true
       ·
        rw [if_pos c12] at H;have a7:(a0_0 == 3 && (a0_1 == 0 && (a0_2 == 0)))=true:=c12;(try (have a8:decide (a0_0=3 && (a0_1 == 0 && (a0_2 == 0)))=true:=by simpa using c12));(try (have a9:(a0_0 == 3 && (a0_1 == 0 && (a0_2 == 0)))=true:=by simpa using c12));clear c12;obtain rfl:=Option.some.inj H;exact spec_DeedText.z1
       ·
        rw [if_neg c12] at H;have a7:(a0_0 == 3 && (a0_1 == 0 && (a0_2 == 0)))=false:=by simpa using c12
        (try (have a8:decide (a0_0=3 && (a0_1 == 0 && (a0_2 == 0)))=false:=by simpa using c12));(try (have a9:(a0_0 == 3 && (a0_1 == 0 && (a0_2 == 0)))=false:=by simpa using c12));(try (have bs:¬(a0_0=3 && (a0_1 == 0 && (a0_2 == 0))):=by simpa using c12));clear c12;by_cases c13:(a0_0 == 4 && (a0_1 == 0 && (a0_2 == 0)))=true
        ·
         rw [if_pos c13] at H;have bb:(a0_0 == 4 && (a0_1 == 0 && (a0_2 == 0)))=true:=c13;(try (have bc:decide (a0_0=4 && (a0_1 == 0 && (a0_2 == 0)))=true:=by simpa using c13));(try (have bd:(a0_0 == 4 && (a0_1 == 0 && (a0_2 == 0)))=true:=by simpa using c13));clear c13;obtain rfl:=Option.some.inj H;exact spec_DeedText.z1
        ·
         rw [if_neg c13] at H;have bb:(a0_0 == 4 && (a0_1 == 0 && (a0_2 == 0)))=false:=by simpa using c13
         (try (have bc:decide (a0_0=4 && (a0_1 == 0 && (a0_2 == 0)))=false:=by simpa using c13));(try (have bd:(a0_0 == 4 && (a0_1 == 0 && (a0_2 == 0)))=false:=by simpa using c13));(try (have bu:¬(a0_0=4 && (a0_1 == 0 && (a0_2 == 0))):=by simpa using c13));clear c13;obtain rfl:=Option.some.inj H;exact spec_DeedText.z1
def spec_JournalText.l0:Nat→List (S41)→ByteArray→Int→Option (ByteArray)
 |0,_,_,_=>none
 |k+1,x0,x3,x4=>if x4<(x0.length:Int) then (if 0≤x4 then ((spec_DeedText.f k ((rd_T41 x0 x4).f0) ((rd_T41 x0 x4).f1) ((rd_T41 x0 x4).f2)).bind fun an=>(if an.toList=([]:List UInt8) then (some (⟨#[]⟩:ByteArray)) else ((spec_DeedText.f k ((rd_T41 x0 x4).f0) ((rd_T41 x0 x4).f1) ((rd_T41 x0 x4).f2)).bind fun al=>(if x3.size+al.size≤9223372036854775807 then (if (x3++al).size+1≤9223372036854775807 then (spec_JournalText.l0 k x0 ((x3++al)++(⟨#[10]⟩:ByteArray)) (wrap64 (x4+1))) else (none)) else (none))))) else (none)) else (some x3)
def spec_JournalText.f (k:Nat) (l0:List (S41)):Option (ByteArray):=spec_JournalText.l0 k l0 (⟨#[]⟩:ByteArray) 0
theorem spec_JournalText.calls (k:Nat) (A0:Option Addr) (c0:Nat) (l0:List (S41)) (r:ByteArray) (w:World) (hr0:Kd.C k41 w A0 l0.length l0) (hc0:l0.length≤c0) (h:spec_JournalText.f k l0=some r) :
  Calls Tryz.prog 17 #[.slice A0 l0.length c0] w fun e w'=>e=.returned (.string r)∧Below w.heap.size w w':=by
 have hu41:=Tryz.underlying41;have HR0:=A_ hr0;have HC0:=A_ hc0;clear hr0 hc0;have HB:=A_ (Below.refl w.heap.size w);have H:=h;clear h;unfold spec_JournalText.f at H;have H':=A_ H;clear H;go_enter Tryz.func17,Tryz.ntmps17;go_wp2
 go_loopg [3,4] k (fun kq v3 v4 w'=>∃(am:ByteArray) (aa:Int),v3=.string am∧v4=.int .i64 aa∧Aside0 (spec_JournalText.l0 kq l0 am aa=some r)∧Aside0 (kq≤k)∧Aside0 (Below w.heap.size w w'))
 case atStart=>exact ⟨((⟨#[]⟩:ByteArray)),(0),tx_,tx_,H',⟨Nat.le_refl _⟩,⟨(tb_ HB.out)⟩⟩
 case round =>
  clear H';obtain ⟨am,aa,rfl,rfl,HA,HK1,HB⟩:=hrel
  cases gk with
  |zero=>exact absurd HA.out (by simp [spec_JournalText.l0])
  |succ k1 =>
   have H:=HA.out;clear HA;simp only [spec_JournalText.l0] at H;replace H:=it_ H;rcases H with ⟨ar,H⟩|⟨ar,H⟩
   ·
    replace H:=in_ H;obtain ⟨aO,H⟩:=H;obtain ⟨an,A4,H⟩:=bnd_ H;(try dsimp only at H);by_cases c5:an.toList=([]:List UInt8)
    ·
     rw [if_pos c5] at H;have aZ:(an.toList == ([]:List UInt8))=true:=beq_iff_eq.mpr c5;have a3:(an.toList != ([]:List UInt8))=false:=bne_eq_false_iff_eq.mpr c5;clear c5;obtain rfl:=Option.some.inj H;obtain ⟨p120,q120,ad120,e120,ab,ac,ad⟩:=a2_ (at_T41 HR0.out aa);cases e120;replace ab:=(HB.out.cell (World.block_lt_of_cell? w _ ab)).trans ab;replace ac:=(HB.out.cell (World.block_lt_of_cell? w _ ac)).trans ac;replace ad:=(HB.out.cell (World.block_lt_of_cell? w _ ad)).trans ad;go_wp2_with (first|((with_reducible refine gc_ 36 ?_);refine gl_ (some 15) Tryz.func36 #[.agg #[.int .i64 ((rd_T41 l0 aa).f0),.int .i64 ((rd_T41 l0 aa).f1),.int .i64 ((rd_T41 l0 aa).f2)]] ?_;(with_reducible refine (spec_DeedText.calls k1 ((rd_T41 l0 aa).f0) ((rd_T41 l0 aa).f1) ((rd_T41 l0 aa).f2) an _ A4.out).mono ?_);rintro e w6 ⟨rfl,hb⟩;refine ⟨_,rfl,?_⟩;replace HB:=bs_ HB hb;(try clear hb)));go_ret;exact ⟨tw_,(tb_ HB.out)⟩
    ·
     rw [if_neg c5] at H;have aZ:(an.toList == ([]:List UInt8))=false:=beq_eq_false_iff_ne.mpr c5;have a3:(an.toList != ([]:List UInt8))=true:=bne_iff_ne.mpr c5;obtain ⟨al,A7,H⟩:=bnd_ H;(try dsimp only at H);replace H:=i0_ H;obtain ⟨c8,H⟩:=H;have aJ:=eq_true c8;have aK:decide (am.size+al.size≤9223372036854775807)=true:=decide_eq_true c8;(try have aL:(9223372036854775807<am.size+al.size)=False:=eq_false (Nat.not_lt.2 c8));replace H:=i0_ H;obtain ⟨c9,H⟩:=H;have bj:=eq_true c9;have bk:decide ((am++al).size+1≤9223372036854775807)=true:=decide_eq_true c9;(try have bl:(9223372036854775807<(am++al).size+1)=False:=eq_false (Nat.not_lt.2 c9));(try have bM:(9223372036854775807<am.size+al.size+1)=False:=eq_false (by have h:=c9;simp only [ByteArray.size_append] at h;simp only [ByteArray.size] at h ⊢;simp at h ⊢;omega));have H':=A_ H;clear H;obtain ⟨p120,q120,ad120,e120,ab,ac,ad⟩:=a2_ (at_T41 HR0.out aa);cases e120;replace ab:=(HB.out.cell (World.block_lt_of_cell? w _ ab)).trans ab;replace ac:=(HB.out.cell (World.block_lt_of_cell? w _ ac)).trans ac;replace ad:=(HB.out.cell (World.block_lt_of_cell? w _ ad)).trans ad;go_wp2_with (first|((with_reducible refine gc_ 36 ?_);refine gl_ (some 15) Tryz.func36 #[.agg #[.int .i64 ((rd_T41 l0 aa).f0),.int .i64 ((rd_T41 l0 aa).f1),.int .i64 ((rd_T41 l0 aa).f2)]] ?_;(with_reducible refine (spec_DeedText.calls k1 ((rd_T41 l0 aa).f0) ((rd_T41 l0 aa).f1) ((rd_T41 l0 aa).f2) an _ A4.out).mono ?_);rintro e bm ⟨rfl,hb⟩;refine ⟨_,rfl,?_⟩;replace HB:=bs_ HB hb;(try clear hb);have p122:0≤(aa:Int):=od_;have q122:aa<(l0.length:Int):=od_;obtain ⟨ad122,e122,ao,ap,aq⟩:=at_T41 HR0.out aa p122 q122;obtain rfl:ad120=ad122:=(by injection e122);replace ao:=(HB.out.cell (World.block_lt_of_cell? w _ ao)).trans ao;replace ap:=(HB.out.cell (World.block_lt_of_cell? w _ ap)).trans ap;replace aq:=(HB.out.cell (World.block_lt_of_cell? w _ aq)).trans aq;replace p122:=eq_true p122;replace q122:=eq_true q122)|((with_reducible refine gc_ 36 ?_);refine gl_ (some 22) Tryz.func36 #[.agg #[.int .i64 ((rd_T41 l0 aa).f0),.int .i64 ((rd_T41 l0 aa).f1),.int .i64 ((rd_T41 l0 aa).f2)]] ?_;(with_reducible refine (spec_DeedText.calls k1 ((rd_T41 l0 aa).f0) ((rd_T41 l0 aa).f1) ((rd_T41 l0 aa).f2) al _ A7.out).mono ?_);rintro e bw ⟨rfl,hb⟩;refine ⟨_,rfl,?_⟩;replace HB:=bs_ HB hb;(try clear hb)))
     go_roundg k1
     case measure=>have:=HK1.out;omega
     case rel=>exact ⟨((am++al)++(⟨#[10]⟩:ByteArray)),(wrap64 (aa+1)),tx_,tx_,H',⟨by have:=HK1.out;omega⟩,⟨(tb_ HB.out)⟩⟩
   ·
    obtain rfl:=Option.some.inj H;go_wp2;go_ret;exact ⟨tw_,(tb_ HB.out)⟩
end Go.Proofs.YtabknkhhlbanoaaGreatDoor.MFnReadJournal
