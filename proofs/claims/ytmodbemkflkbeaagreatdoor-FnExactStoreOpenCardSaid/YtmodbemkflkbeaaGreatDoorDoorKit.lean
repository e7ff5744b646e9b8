/- What a row of this seat that lists variables gives the walks: the shape of the world, the table of the powers of ten, the two errors; and a start that meets each list. The conditions stand in each statement. -/
import Derived.Test.YtmodbemkflkbeaaGreatDoorExt
import Derived.Test.YtmodbemkflkbeaaGreatDoorTie
import Derived.Test.YtmodbemkflkbeaaGreatDoorCards
import Derived.Lib.LaidTab
import Derived.LaidMore
import Derived.Lay
import Derived.LaidLaws
import Derived.LaidSub
import Derived.MakeChecks
import Derived.SevenTiedAt
import Derived.SizedLaws
namespace Go.Proofs.YtmodbemkflkbeaaGreatDoor
open Go.RowKit
set_option maxRecDepth 100000
section
variable {H : Type} {enc : TypeId × Value → H}
/-- The two wraps of the library's in one: the world's shape is kept, and a condition on the world. -/
theorem returns_and_shaped {a : Assume} {C : Checked} {os : Os} {f : FuncId} {fn : Func} {s : ChangeSpec} {conds : List PathCond} {apart fresh handsOn again : Bool} {X : World → Array Value → Prop}
    (hX : ∀ (w w' : World) (args : Array Value), w.heap = w'.heap → X w args → X w' args)
    (own : ownKnob C.prog.godebug = none) (started : os.Started) (noInit : C.prog.inits.idxOf? f = none) (hfn : C.prog.funcs[f]? = some fn)
    (witness : ∃ (w : World) (tape : Tape) (i : Input), w.os = os ∧ (w.forCall tape i).Shaped C.prog ∧ i.vars = [] ∧ Input.okWide C.prog (w.forCall tape i) .any w.heap.size f i ∧
      ((s.pre enc C.prog fn conds apart (w.forCall tape i).memory i.args ∧ X (w.forCall tape i).memory i.args) ∧ sizedMet enc C.prog fn (OpenSpec.ofChange s) apart (w.forCall tape i).memory i.args) ∧ a.holds C.prog (lone (Frame.enter C.prog f i.args .normal) [] (w.forCall tape i)))
    (contract : ∀ (W : World) (base : Nat) (args : Array Value) (ds gs : List (DataW H)) (before : List MemPlace),
      (∀ (j : Nat) t v, fn.params[j]? = some t → args[j]? = some v → Value.okWide C.prog W .any base t v) →
      DataW.Whole enc C.prog fn.params.toList s.vars apart W args.toList ds gs before →
      conds.all (PathCond.test C.prog ⟨fn.params.toList, ds, s.plain.varTypes C.prog, gs⟩) = true →
      (DataW.weightsEach C.prog (fn.params.toList ++ s.plain.varTypes C.prog) (ds ++ gs)).all (· ≤ reachBytes) = true → X W args →
      W.ShapedOpen C.prog →
      Calls C.prog f args W fun e W' => ∃ v, e = .returned v ∧ s.post enc C.prog fn apart fresh handsOn again W args v W') :
    ReturnsInHanded a C os f .any (fun w args => (s.pre enc C.prog fn conds apart w args ∧ X w args) ∧ sizedMet enc C.prog fn (OpenSpec.ofChange s) apart w args) (s.post enc C.prog fn apart fresh handsOn again) := by
  refine returnsInHanded_of_calls own started noInit witness ?_
  intro w tape i _ hsh _ hok hpre _
  obtain ⟨_, _, _, fn', hfn', _, _, _, _, hval⟩ := hok
  have e : fn' = fn := Option.some.inj (hfn'.symm.trans hfn)
  subst e
  obtain ⟨⟨⟨ds, gs, before, hw, hc⟩, hx⟩, hz⟩ := hpre
  have hw' := DataW.Whole.of_heap (w' := w.forCall tape i) (by rfl) hw
  refine (contract (w.forCall tape i) w.heap.size i.args ds gs before hval hw' hc (hz.weights hw) (hX _ _ _ (by rfl) hx) hsh).mono fun e W' ⟨v, he, hp⟩ => ?_
  subst he
  exact ChangeSpec.post_blind hp
end
theorem tab_of_laid {l : List (String × DataW Unit)} {W : World} (h : laidMetH Tryz.prog l W) (hl : (l.filter fun x => x.1 == "internal/strconv.uint64pow10") = [("internal/strconv.uint64pow10", Lib.tabData .u64 Lib.pow10Tab)] := by rfl) :
    Lib.TabIs Tryz.prog W "internal/strconv.uint64pow10" .u64 Lib.pow10Tab := by
  have h1 := h.filter (fun x => x.1 == "internal/strconv.uint64pow10")
  rw [hl, MakeChecks.laidMetH_plain _ _ _ (by kernel_rfl)] at h1
  exact Lib.tabIs_of_head gTab gTabT Tryz.underlying147 Tryz.underlying107 (by kernel_rfl) (by kernel_rfl) h1
theorem gwa_of_laid {l : List (String × DataW Unit)} {W : World} (hs : W.ShapedOpen Tryz.prog) (h : laidMetH Tryz.prog l W) (hl : (l.filter fun x => x.1 == "internal/strconv.uint64pow10") = [("internal/strconv.uint64pow10", Lib.tabData .u64 Lib.pow10Tab)] := by rfl) : GWa W := ⟨hs, tab_of_laid h hl⟩
-- errors
theorem errT0 : (Tryz.prog.globals[0]?).map (·.type) = some 73 := by kernel_rfl
theorem errT1 : (Tryz.prog.globals[1]?).map (·.type) = some 73 := by kernel_rfl
/-- A cell that reads as an interface's datum holds an interface that is not nil. -/
theorem iface_of_trod {H : Type} {enc : TypeId × Value → H} {P : Program} {w : World} {base : Nat} {sp : Nat → Bool} {held : Bool} {fuel : Nat} {t : TypeId} {ms : Array (String × TypeId)} {cs : List Value} {a : String} {d : DataW H} {p : List MemPlace}
    (ht : P.underlying t = some (.interface ms)) (h : DataW.trod enc P w base sp held fuel t cs = some (.iface a d, p)) : ∃ u v, cs = [.iface u v] := by
  cases fuel with
  | zero => simp [DataW.trod] at h
  | succ fuel =>
    unfold DataW.trod at h
    rw [ht] at h
    match cs, h with
    | [.nilIface], h => simp at h
    | [.iface u v], _ => exact ⟨u, v, rfl⟩
/-- A listed error: an interface that is not nil. -/
theorem err_of_laid {l : List (String × DataW Unit)} {W : World} {n : String} {g : Nat} {a : String} {d : DataW Unit} (h : laidMetH Tryz.prog l W) (hg : Tryz.prog.globalNamed n = some g) (ht : (Tryz.prog.globals[g]?).map (·.type) = some 73)
    (hl : (l.filter fun x => x.1 == n) = [(n, .iface a d)]) (hn : (DataW.iface a d).handleName?.isNone = true) : ∃ t p, W.var? Tryz.prog n = some #[.iface t p] := by
  have h1 := h.filter (fun x => x.1 == n)
  rw [hl, MakeChecks.laidMetH_plain _ _ _ (by simpa using hn)] at h1
  obtain ⟨ps, ⟨g', t', cs, fuel, p, q, hg', ht', hvar, hd, _, _⟩, _⟩ := h1
  obtain rfl := Option.some.inj (hg.symm.trans hg')
  obtain rfl := Option.some.inj (ht.symm.trans ht')
  obtain ⟨t, v, e⟩ := iface_of_trod Tryz.underlying73 hd
  exact ⟨t, v, hvar.trans (congrArg some (Array.toList_inj.1 e))⟩
theorem gwb_of_laid {l : List (String × DataW Unit)} {W : World} (hs : W.ShapedOpen Tryz.prog) (h : laidMetH Tryz.prog l W) (hl : (l.filter fun x => x.1 == "internal/strconv.uint64pow10") = [("internal/strconv.uint64pow10", Lib.tabData .u64 Lib.pow10Tab)] := by rfl)
    (h0 : (l.filter fun x => x.1 == "strconv.ErrSyntax") = [("strconv.ErrSyntax", Rows.laid_strconv_ErrSyntax)] := by rfl) (h1 : (l.filter fun x => x.1 == "strconv.ErrRange") = [("strconv.ErrRange", Rows.laid_strconv_ErrRange)] := by rfl) : GWb W :=
  ⟨hs, tab_of_laid h hl, err_of_laid h gSyn errT0 h0 (by kernel_rfl), err_of_laid h gRng errT1 h1 (by kernel_rfl)⟩
-- end errors
end Go.Proofs.YtmodbemkflkbeaaGreatDoor
