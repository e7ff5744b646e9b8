/-
  DERIVED: THE SHELF's CONTRACTS AT THIS DUMP,IN PLAIN WORDS (tools/lay-plain.mjs out of 'TryzShelf.lean',which tools/lay-shelf.mjs wrote): THE SAME DECLARATIONS UNDER THE SAME NAMES: 'import','namespace','open','def','theorem' AND NOTHING ELSE: no command of the shelf's: FOR A HAND-IN. Each laying: the table of numbers ('.._ren') and one theorem,a field a fact of the dump's own or the kernel's comparison;each contract: ONE APPLICATION.
-/
import Derived.Shelf.Strings.Builder1
import Derived.Shelf.Strings.Builder2
import Derived.Shelf.Strings.OnBuilder
import Derived.Shelf.Strconv.Atoi
import Derived.Shelf.Strconv.Itoa0
import Derived.Shelf.Strconv.Itoa1
import Derived.Shelf.LaysM
import Derived.Shelf.Strconv.Itoa2
import Derived.Shelf.Strconv.Itoa3
import Derived.Shelf.Strconv.AtoiErrFast
import Derived.Shelf.Strconv.ParseIntEmpty
import Derived.Shelf.Strconv.AtoiFail
import Derived.Shelf.Strconv.Clone
import Derived.Shelf.Strconv.SyntaxError
import Derived.Shelf.LaysC
import Derived.Shelf.Strconv.ToError
import Derived.Shelf.Strconv.Lower
import Derived.Shelf.Strconv.ParseUint10
import Derived.Shelf.Strconv.ParseUint10Empty
import Derived.Shelf.Strconv.ParseUint10Any
import Derived.Shelf.Strconv.ParseInt10
import Derived.Shelf.Strconv.AtoiLong
import Derived.Shelf.Strconv.AtoiInnerAll
import Derived.Shelf.Strconv.RangeError
import Derived.Shelf.Strconv.ToErrorRange
import Derived.Shelf.Strconv.AtoiAll
import Derived.Shelf.Strconv.ErrVarAll
import Derived.Shelf.Strings.Search1
import Derived.Shelf.Strings.Search2
import Derived.Shelf.Strings.Search3
import Derived.Shelf.Strings.Cut
import Derived.Shelf.Strings.Count
import Derived.Shelf.Strings.Shaped
import Derived.Shelf.Strings.Split
import Derived.Shelf.Strings.SplitShaped
import Derived.Shelf.Slices.Turned
import Derived.Ground.Names2Prog
import Derived.Shelf.Slices.Clone
import Derived.Test.YtabknkhhlbanoaaGreatDoorProg
namespace Go.Proofs.YtabknkhhlbanoaaGreatDoor.Sh
open Go.Shelf
def Tryz.lays156_ren:Go.Shelf.Ren:=⟨fun|156=>93|165=>126|166=>127|169=>128|240=>150|241=>151|276=>162|277=>163|n=>n,fun|31=>71|9=>9|3=>3|4=>4|0=>0|20=>20|72=>147|76=>76|70=>145|37=>22|75=>75|127=>172|164=>183|5=>5|80=>149|n=>n,fun|n=>n⟩
theorem Tryz.lays156:Go.Proofs.Lays.n156 Tryz.prog Tryz.lays156_ren:={
  mixed:=by kernel_rfl
  f156:=Tryz.func93.trans (congrArg some (by kernel_rfl))
  f165:=Tryz.func126.trans (congrArg some (by kernel_rfl))
  f166:=Tryz.func127.trans (congrArg some (by kernel_rfl))
  f169:=Tryz.func128.trans (congrArg some (by kernel_rfl))
  f240:=Tryz.func150.trans (congrArg some (by kernel_rfl))
  f241:=Tryz.func151.trans (congrArg some (by kernel_rfl))
  f276:=Tryz.func162.trans (congrArg some (by kernel_rfl))
  f277:=Tryz.func163.trans (congrArg some (by kernel_rfl))
  t0:=Tryz.underlying0
  a0:=Tryz.isAgg0
  z0:=Tryz.sizeOf0
  v0:=Tryz.zeroValue0
  t3:=Tryz.underlying3
  a3:=Tryz.isAgg3
  z3:=Tryz.sizeOf3
  v3:=Tryz.zeroValue3
  t4:=Tryz.underlying4
  a4:=Tryz.isAgg4
  z4:=Tryz.sizeOf4
  v4:=Tryz.zeroValue4
  t9:=Tryz.underlying9
  a9:=Tryz.isAgg9
  z9:=Tryz.sizeOf9
  v9:=Tryz.zeroValue9
  t20:=Tryz.underlying20
  a20:=Tryz.isAgg20
  z20:=Tryz.sizeOf20
  v20:=Tryz.zeroValue20
  t31:=Tryz.underlying71
  a31:=Tryz.isAgg71
  z31:=Tryz.sizeOf71
  v31:=Tryz.zeroValue71
  t37:=Tryz.underlying22
  a37:=Tryz.isAgg22
  z37:=Tryz.sizeOf22
  v37:=Tryz.zeroValue22
  t70:=Tryz.underlying145
  a70:=Tryz.isAgg145
  z70:=Tryz.sizeOf145
  v70:=Tryz.zeroValue145
  t72:=Tryz.underlying147
  a72:=Tryz.isAgg147
  z72:=Tryz.sizeOf147
  v72:=Tryz.zeroValue147
  t75:=Tryz.underlying75
  a75:=Tryz.isAgg75
  z75:=Tryz.sizeOf75
  v75:=Tryz.zeroValue75
  t76:=Tryz.underlying76
  a76:=Tryz.isAgg76
  z76:=Tryz.sizeOf76
  v76:=Tryz.zeroValue76
  t127:=Tryz.underlying172
  a127:=Tryz.isAgg172
  z127:=Tryz.sizeOf172
  v127:=Tryz.zeroValue172
  t164:=Tryz.underlying183
  a164:=Tryz.isAgg183
  z164:=Tryz.sizeOf183
  v164:=Tryz.zeroValue183 }
theorem Tryz.Builder_Extra_156:Builder.Extra Tryz.prog Tryz.lays156_ren:={
  sizeBuilder:=by kernel_rfl
  liesBuilder:=by kernel_rfl
  t5:=Tryz.underlying5
  a5:=Tryz.isAgg5
  z5:=Tryz.sizeOf5
  v5:=Tryz.zeroValue5
  infoByte:=by kernel_rfl
  cellsByte:=by kernel_rfl
  sizeByte:=by kernel_rfl
  neB5:=by decide }
open Go.RowKit in theorem Tryz.strings_Join_none (a : Option Addr) (c : Nat) (sep : ByteArray) (w : World) :
    Calls Tryz.prog 93 #[.slice a 0 c,.string sep] w fun e w'=>e=.returned (.string ⟨#[]⟩)∧w'=w:=Any.strings_Join_none Tryz.lays156 Tryz.Builder_Extra_156 a c sep w
open Go.RowKit in theorem Tryz.strings_Join (bk o c : Nat) (xs : List ByteArray) (sep : ByteArray) (w : World) (hcells : ∀ (j : Nat) x, xs[j]? = some x → w.cell? ⟨bk, o + j, none⟩ = some (.string x)) (hbk : bk < w.heap.size) (hN : xs.length ≤ 140737488355328) (hcap : xs.length ≤ c) (hlen : (Lib.join (xs.map (·.data.toList)) sep.data.toList).length ≤ 140737488355328) :
    Calls Tryz.prog 93 #[.slice (some ⟨bk,o,none⟩) xs.length c,.string sep] w fun e w'=>e=.returned (.string ⟨(Lib.join (xs.map (·.data.toList)) sep.data.toList).toArray⟩)∧Below w.heap.size w w':=Any.strings_Join Tryz.lays156 Tryz.Builder_Extra_156 bk o c xs sep w hcells hbk hN hcap hlen
def Tryz.laysM171_ren:Go.Shelf.Ren:=⟨fun|171=>32|243=>70|246=>110|283=>138|284=>139|285=>140|286=>141|129=>155|317=>154|318=>156|319=>157|320=>158|337=>164|338=>165|n=>n,fun|3=>3|9=>9|2=>2|4=>4|171=>155|0=>0|53=>156|37=>22|5=>5|173=>159|212=>175|51=>161|20=>20|213=>176|46=>137|232=>191|233=>192|n=>n,fun|17=>3|18=>6|19=>7|n=>n⟩
theorem Tryz.laysM171:Go.Proofs.LaysM.n171 Tryz.prog Tryz.laysM171_ren:={
  mixed:=by kernel_rfl
  f129:=Tryz.func155.trans (congrArg some (by kernel_rfl))
  f171:=Tryz.func32.trans (congrArg some (by kernel_rfl))
  f243:=Tryz.func70.trans (congrArg some (by kernel_rfl))
  f246:=Tryz.func110.trans (congrArg some (by kernel_rfl))
  f283:=Tryz.func138.trans (congrArg some (by kernel_rfl))
  f284:=Tryz.func139.trans (congrArg some (by kernel_rfl))
  f285:=Tryz.func140.trans (congrArg some (by kernel_rfl))
  f286:=Tryz.func141.trans (congrArg some (by kernel_rfl))
  f317:=Tryz.func154.trans (congrArg some (by kernel_rfl))
  f318:=Tryz.func156.trans (congrArg some (by kernel_rfl))
  f319:=Tryz.func157.trans (congrArg some (by kernel_rfl))
  f320:=Tryz.func158.trans (congrArg some (by kernel_rfl))
  f337:=Tryz.func164.trans (congrArg some (by kernel_rfl))
  f338:=Tryz.func165.trans (congrArg some (by kernel_rfl))
  t0:=Tryz.underlying0
  a0:=Tryz.isAgg0
  z0:=Tryz.sizeOf0
  v0:=Tryz.zeroValue0
  t2:=Tryz.underlying2
  a2:=Tryz.isAgg2
  z2:=Tryz.sizeOf2
  v2:=Tryz.zeroValue2
  t3:=Tryz.underlying3
  a3:=Tryz.isAgg3
  z3:=Tryz.sizeOf3
  v3:=Tryz.zeroValue3
  t4:=Tryz.underlying4
  a4:=Tryz.isAgg4
  z4:=Tryz.sizeOf4
  v4:=Tryz.zeroValue4
  t5:=Tryz.underlying5
  a5:=Tryz.isAgg5
  z5:=Tryz.sizeOf5
  v5:=Tryz.zeroValue5
  t9:=Tryz.underlying9
  a9:=Tryz.isAgg9
  z9:=Tryz.sizeOf9
  v9:=Tryz.zeroValue9
  t20:=Tryz.underlying20
  a20:=Tryz.isAgg20
  z20:=Tryz.sizeOf20
  v20:=Tryz.zeroValue20
  t37:=Tryz.underlying22
  a37:=Tryz.isAgg22
  z37:=Tryz.sizeOf22
  v37:=Tryz.zeroValue22
  t46:=Tryz.underlying137
  a46:=Tryz.isAgg137
  z46:=Tryz.sizeOf137
  v46:=Tryz.zeroValue137
  t51:=Tryz.underlying161
  a51:=Tryz.isAgg161
  z51:=Tryz.sizeOf161
  v51:=Tryz.zeroValue161
  t53:=Tryz.underlying156
  a53:=Tryz.isAgg156
  z53:=Tryz.sizeOf156
  v53:=Tryz.zeroValue156
  t171:=Tryz.underlying155
  a171:=Tryz.isAgg155
  z171:=Tryz.sizeOf155
  v171:=Tryz.zeroValue155
  t173:=Tryz.underlying159
  a173:=Tryz.isAgg159
  z173:=Tryz.sizeOf159
  v173:=Tryz.zeroValue159
  t212:=Tryz.underlying175
  a212:=Tryz.isAgg175
  z212:=Tryz.sizeOf175
  v212:=Tryz.zeroValue175
  t213:=Tryz.underlying176
  a213:=Tryz.isAgg176
  z213:=Tryz.sizeOf176
  t232:=Tryz.underlying191
  a232:=Tryz.isAgg191
  z232:=Tryz.sizeOf191
  v232:=Tryz.zeroValue191
  t233:=Tryz.underlying192
  a233:=Tryz.isAgg192
  z233:=Tryz.sizeOf192
  v233:=Tryz.zeroValue192
  g17:=by kernel_rfl
  g18:=by kernel_rfl
  g19:=by kernel_rfl
  i0:=by kernel_rfl
  i2:=by kernel_rfl
  i3:=by kernel_rfl
  i4:=by kernel_rfl
  i5:=by kernel_rfl
  i9:=by kernel_rfl
  i20:=by kernel_rfl
  i37:=by kernel_rfl
  i46:=by kernel_rfl
  i51:=by kernel_rfl
  i53:=by kernel_rfl
  i171:=by kernel_rfl
  i173:=by kernel_rfl
  i212:=by kernel_rfl
  i232:=by kernel_rfl
  i233:=by kernel_rfl
  m17:=by kernel_rfl
  m18:=by kernel_rfl
  m19:=by kernel_rfl }
open Go.RowKit Go.Sort Go.Lib in theorem Tryz.strconv_Itoa (n : Int) (h0 : -9223372036854775808 ≤ n) (h1 : n ≤ 9223372036854775807) (w : World) (htab : Lib.TabIs Tryz.prog w "internal/strconv.uint64pow10" .u64 Lib.pow10Tab) :
    Calls Tryz.prog 32 #[.int .i64 n] w fun e w'=>e=.returned (.string ⟨(Lib.itoa n).toArray⟩)∧∃k os,w'=grow (w.drewN k) os:=Any.strconv_Itoa Tryz.laysM171 n h0 h1 w htab
def Tryz.laysC172_ren:Go.Shelf.Ren:=⟨fun|172=>41|244=>77|245=>78|247=>119|279=>120|280=>121|281=>122|282=>123|287=>147|316=>148|171=>32|205=>149|321=>160|322=>161|243=>70|246=>110|283=>138|284=>139|285=>140|286=>141|129=>155|317=>154|318=>156|319=>157|320=>158|337=>164|338=>165|n=>n,fun|9=>9|3=>3|75=>75|76=>76|4=>4|5=>5|167=>139|37=>22|0=>0|85=>140|2=>2|168=>142|53=>156|175=>166|46=>137|210=>170|127=>172|145=>182|143=>180|21=>21|171=>155|173=>159|212=>175|51=>161|20=>20|213=>176|232=>191|233=>192|80=>149|n=>n,fun|15=>1|16=>2|17=>3|18=>6|19=>7|n=>n⟩
theorem Tryz.laysC172:Go.Proofs.LaysC.n172 Tryz.prog Tryz.laysC172_ren:={
  mixed:=by kernel_rfl
  f129:=Tryz.func155.trans (congrArg some (by kernel_rfl))
  f171:=Tryz.func32.trans (congrArg some (by kernel_rfl))
  f172:=Tryz.func41.trans (congrArg some (by kernel_rfl))
  f205:=Tryz.func149.trans (congrArg some (by kernel_rfl))
  f243:=Tryz.func70.trans (congrArg some (by kernel_rfl))
  f244:=Tryz.func77.trans (congrArg some (by kernel_rfl))
  f245:=Tryz.func78.trans (congrArg some (by kernel_rfl))
  f246:=Tryz.func110.trans (congrArg some (by kernel_rfl))
  f247:=Tryz.func119.trans (congrArg some (by kernel_rfl))
  f279:=Tryz.func120.trans (congrArg some (by kernel_rfl))
  f280:=Tryz.func121.trans (congrArg some (by kernel_rfl))
  f281:=Tryz.func122.trans (congrArg some (by kernel_rfl))
  f282:=Tryz.func123.trans (congrArg some (by kernel_rfl))
  f283:=Tryz.func138.trans (congrArg some (by kernel_rfl))
  f284:=Tryz.func139.trans (congrArg some (by kernel_rfl))
  f285:=Tryz.func140.trans (congrArg some (by kernel_rfl))
  f286:=Tryz.func141.trans (congrArg some (by kernel_rfl))
  f287:=Tryz.func147.trans (congrArg some (by kernel_rfl))
  f316:=Tryz.func148.trans (congrArg some (by kernel_rfl))
  f317:=Tryz.func154.trans (congrArg some (by kernel_rfl))
  f318:=Tryz.func156.trans (congrArg some (by kernel_rfl))
  f319:=Tryz.func157.trans (congrArg some (by kernel_rfl))
  f320:=Tryz.func158.trans (congrArg some (by kernel_rfl))
  f321:=Tryz.func160.trans (congrArg some (by kernel_rfl))
  f322:=Tryz.func161.trans (congrArg some (by kernel_rfl))
  f337:=Tryz.func164.trans (congrArg some (by kernel_rfl))
  f338:=Tryz.func165.trans (congrArg some (by kernel_rfl))
  t0:=Tryz.underlying0
  a0:=Tryz.isAgg0
  z0:=Tryz.sizeOf0
  v0:=Tryz.zeroValue0
  t2:=Tryz.underlying2
  a2:=Tryz.isAgg2
  z2:=Tryz.sizeOf2
  v2:=Tryz.zeroValue2
  t3:=Tryz.underlying3
  a3:=Tryz.isAgg3
  z3:=Tryz.sizeOf3
  v3:=Tryz.zeroValue3
  t4:=Tryz.underlying4
  a4:=Tryz.isAgg4
  z4:=Tryz.sizeOf4
  v4:=Tryz.zeroValue4
  t5:=Tryz.underlying5
  a5:=Tryz.isAgg5
  z5:=Tryz.sizeOf5
  v5:=Tryz.zeroValue5
  t9:=Tryz.underlying9
  a9:=Tryz.isAgg9
  z9:=Tryz.sizeOf9
  v9:=Tryz.zeroValue9
  t20:=Tryz.underlying20
  a20:=Tryz.isAgg20
  z20:=Tryz.sizeOf20
  v20:=Tryz.zeroValue20
  t21:=Tryz.underlying21
  a21:=Tryz.isAgg21
  z21:=Tryz.sizeOf21
  v21:=Tryz.zeroValue21
  t37:=Tryz.underlying22
  a37:=Tryz.isAgg22
  z37:=Tryz.sizeOf22
  v37:=Tryz.zeroValue22
  t46:=Tryz.underlying137
  a46:=Tryz.isAgg137
  z46:=Tryz.sizeOf137
  v46:=Tryz.zeroValue137
  t51:=Tryz.underlying161
  a51:=Tryz.isAgg161
  z51:=Tryz.sizeOf161
  v51:=Tryz.zeroValue161
  t53:=Tryz.underlying156
  a53:=Tryz.isAgg156
  z53:=Tryz.sizeOf156
  v53:=Tryz.zeroValue156
  t75:=Tryz.underlying75
  a75:=Tryz.isAgg75
  z75:=Tryz.sizeOf75
  v75:=Tryz.zeroValue75
  t76:=Tryz.underlying76
  a76:=Tryz.isAgg76
  z76:=Tryz.sizeOf76
  v76:=Tryz.zeroValue76
  t85:=Tryz.underlying140
  a85:=Tryz.isAgg140
  z85:=Tryz.sizeOf140
  v85:=Tryz.zeroValue140
  t127:=Tryz.underlying172
  a127:=Tryz.isAgg172
  z127:=Tryz.sizeOf172
  v127:=Tryz.zeroValue172
  t143:=Tryz.underlying180
  a143:=Tryz.isAgg180
  z143:=Tryz.sizeOf180
  v143:=Tryz.zeroValue180
  t145:=Tryz.underlying182
  a145:=Tryz.isAgg182
  z145:=Tryz.sizeOf182
  v145:=Tryz.zeroValue182
  t167:=Tryz.underlying139
  a167:=Tryz.isAgg139
  z167:=Tryz.sizeOf139
  v167:=Tryz.zeroValue139
  t168:=Tryz.underlying142
  a168:=Tryz.isAgg142
  z168:=Tryz.sizeOf142
  v168:=Tryz.zeroValue142
  t171:=Tryz.underlying155
  a171:=Tryz.isAgg155
  z171:=Tryz.sizeOf155
  v171:=Tryz.zeroValue155
  t173:=Tryz.underlying159
  a173:=Tryz.isAgg159
  z173:=Tryz.sizeOf159
  v173:=Tryz.zeroValue159
  t175:=Tryz.underlying166
  a175:=Tryz.isAgg166
  z175:=Tryz.sizeOf166
  v175:=Tryz.zeroValue166
  t210:=Tryz.underlying170
  a210:=Tryz.isAgg170
  z210:=Tryz.sizeOf170
  v210:=Tryz.zeroValue170
  t212:=Tryz.underlying175
  a212:=Tryz.isAgg175
  z212:=Tryz.sizeOf175
  v212:=Tryz.zeroValue175
  t213:=Tryz.underlying176
  a213:=Tryz.isAgg176
  z213:=Tryz.sizeOf176
  t232:=Tryz.underlying191
  a232:=Tryz.isAgg191
  z232:=Tryz.sizeOf191
  v232:=Tryz.zeroValue191
  t233:=Tryz.underlying192
  a233:=Tryz.isAgg192
  z233:=Tryz.sizeOf192
  v233:=Tryz.zeroValue192
  g15:=by kernel_rfl
  g16:=by kernel_rfl
  g17:=by kernel_rfl
  g18:=by kernel_rfl
  g19:=by kernel_rfl
  t80:=Tryz.underlying149
  a80:=Tryz.isAgg149
  z80:=Tryz.sizeOf149
  v80:=Tryz.zeroValue149
  i0:=by kernel_rfl
  i2:=by kernel_rfl
  i3:=by kernel_rfl
  i4:=by kernel_rfl
  i5:=by kernel_rfl
  i9:=by kernel_rfl
  i20:=by kernel_rfl
  i21:=by kernel_rfl
  i37:=by kernel_rfl
  i46:=by kernel_rfl
  i51:=by kernel_rfl
  i53:=by kernel_rfl
  i75:=by kernel_rfl
  i76:=by kernel_rfl
  i80:=by kernel_rfl
  i85:=by kernel_rfl
  i127:=by kernel_rfl
  i143:=by kernel_rfl
  i145:=by kernel_rfl
  i167:=by kernel_rfl
  i168:=by kernel_rfl
  i171:=by kernel_rfl
  i173:=by kernel_rfl
  i175:=by kernel_rfl
  i210:=by kernel_rfl
  i212:=by kernel_rfl
  i232:=by kernel_rfl
  i233:=by kernel_rfl
  m15:=by kernel_rfl
  m16:=by kernel_rfl
  m17:=by kernel_rfl
  m18:=by kernel_rfl
  m19:=by kernel_rfl
  c0:=by kernel_rfl
  c2:=by kernel_rfl
  c3:=by kernel_rfl
  c4:=by kernel_rfl
  c5:=by kernel_rfl
  c9:=by kernel_rfl
  c20:=by kernel_rfl
  c21:=by kernel_rfl
  c37:=by kernel_rfl
  c46:=by kernel_rfl
  c51:=by kernel_rfl
  c53:=by kernel_rfl
  c75:=by kernel_rfl
  c76:=by kernel_rfl
  c80:=by kernel_rfl
  c85:=by kernel_rfl
  c127:=by kernel_rfl
  c143:=by kernel_rfl
  c145:=by kernel_rfl
  c167:=by kernel_rfl
  c168:=by kernel_rfl
  c171:=by kernel_rfl
  c173:=by kernel_rfl
  c175:=by kernel_rfl
  c210:=by kernel_rfl
  c212:=by kernel_rfl
  c213:=by kernel_rfl
  c232:=by kernel_rfl
  c233:=by kernel_rfl }
open Go.RowKit in theorem Tryz.strconv_Atoi_ok (s : ByteArray) (hmax : s.size ≤ 9223372036854775806) (v : Int) (h : Lib.atoiAll s.data.toList = .ok v) (w : World) :
    Calls Tryz.prog 41 #[.string s] w fun e w'=>e=.returned (.tuple #[.int .i64 v,.nilIface])∧(w'=w∨∃t,w'=Lib.bytesWorld w 5 t):=Any.strconv_Atoi_ok Tryz.laysC172 s hmax v h w
open Go.RowKit in theorem Tryz.strconv_Atoi_syntax_var (s : ByteArray) (hlim : s.size ≤ 281474976710656) (h : Lib.atoiAll s.data.toList = Lib.NumEnd.syntax) (tp : TypeId) (p : Value) (w : World) (hvar : w.var? Tryz.prog "strconv.ErrSyntax" = some #[.iface tp p]) :
    Calls Tryz.prog 41 #[.string s] w fun e w'=>∃N,e=.returned (.tuple #[.int .i64 0,.iface 142 (.pointer (some ⟨N,0,none⟩))])∧w.heap.size≤N∧w'.heap[N]?=some (.cells #[.string ⟨#[65,116,111,105]⟩,.string s,.iface tp p] 170 (0,0))∧Below w.heap.size w w':=Any.strconv_Atoi_syntax_var Tryz.laysC172 s hlim h tp p w hvar
open Go.RowKit in theorem Tryz.strconv_Atoi_range_var (s : ByteArray) (hlim : s.size ≤ 281474976710656) (h : Lib.atoiAll s.data.toList = .range) (tp : TypeId) (p : Value) (w : World) (hvar : w.var? Tryz.prog "strconv.ErrRange" = some #[.iface tp p]) :
    Calls Tryz.prog 41 #[.string s] w fun e w'=>∃N,e=.returned (.tuple #[.int .i64 (Lib.atoiSat s.data.toList),.iface 142 (.pointer (some ⟨N,0,none⟩))])∧w.heap.size≤N∧w'.heap[N]?=some (.cells #[.string ⟨#[65,116,111,105]⟩,.string s,.iface tp p] 170 (0,0))∧Below w.heap.size w w':=Any.strconv_Atoi_range_var Tryz.laysC172 s hlim h tp p w hvar
def Tryz.laysM145_ren:Go.Shelf.Ren:=⟨fun|145=>21|220=>38|219=>75|217=>112|225=>113|224=>114|267=>115|266=>142|314=>143|n=>n,fun|9=>9|4=>4|59=>53|3=>3|5=>5|46=>137|146=>162|51=>161|n=>n,fun|1=>0|n=>n⟩
theorem Tryz.laysM145:Go.Proofs.LaysM.n145 Tryz.prog Tryz.laysM145_ren:={
  mixed:=by kernel_rfl
  f145:=Tryz.func21.trans (congrArg some (by kernel_rfl))
  f217:=Tryz.func112.trans (congrArg some (by kernel_rfl))
  f219:=Tryz.func75.trans (congrArg some (by kernel_rfl))
  f220:=Tryz.func38.trans (congrArg some (by kernel_rfl))
  f224:=Tryz.func114.trans (congrArg some (by kernel_rfl))
  f225:=Tryz.func113.trans (congrArg some (by kernel_rfl))
  f266:=Tryz.func142.trans (congrArg some (by kernel_rfl))
  f267:=Tryz.func115.trans (congrArg some (by kernel_rfl))
  f314:=Tryz.func143.trans (congrArg some (by kernel_rfl))
  t3:=Tryz.underlying3
  a3:=Tryz.isAgg3
  z3:=Tryz.sizeOf3
  v3:=Tryz.zeroValue3
  t4:=Tryz.underlying4
  a4:=Tryz.isAgg4
  z4:=Tryz.sizeOf4
  v4:=Tryz.zeroValue4
  t5:=Tryz.underlying5
  a5:=Tryz.isAgg5
  z5:=Tryz.sizeOf5
  v5:=Tryz.zeroValue5
  t9:=Tryz.underlying9
  a9:=Tryz.isAgg9
  z9:=Tryz.sizeOf9
  v9:=Tryz.zeroValue9
  t46:=Tryz.underlying137
  a46:=Tryz.isAgg137
  z46:=Tryz.sizeOf137
  v46:=Tryz.zeroValue137
  t51:=Tryz.underlying161
  a51:=Tryz.isAgg161
  z51:=Tryz.sizeOf161
  v51:=Tryz.zeroValue161
  t59:=Tryz.underlying53
  a59:=Tryz.isAgg53
  z59:=Tryz.sizeOf53
  v59:=Tryz.zeroValue53
  t146:=Tryz.underlying162
  a146:=Tryz.isAgg162
  z146:=Tryz.sizeOf162
  v146:=Tryz.zeroValue162
  g1:=by kernel_rfl
  i3:=by kernel_rfl
  i4:=by kernel_rfl
  i5:=by kernel_rfl
  i9:=by kernel_rfl
  i46:=by kernel_rfl
  i51:=by kernel_rfl
  i59:=by kernel_rfl
  i146:=by kernel_rfl
  m1:=by kernel_rfl
  s1_3:=fun w h=>Go.Proofs.cell_of_shapedOpen_int (zero:=#[.int .i64 0]) (t:=3) h (of_decide_eq_true (by kernel_rfl)) (by kernel_rfl) rfl (by kernel_rfl) (by kernel_rfl) Tryz.underlying3 }
open Go.RowKit Go.Lib in theorem Tryz.strings_Cut_shaped (s sep : ByteArray) (w : World) (h : w.ShapedOpen Tryz.prog) (hs : s.size < 4294967281) :
    Calls Tryz.prog 21 #[.string s,.string sep] w fun e w'=>e=.returned (.tuple #[.string ⟨(Lib.cut s.data.toList sep.data.toList).1.toArray⟩,.string ⟨(Lib.cut s.data.toList sep.data.toList).2.1.toArray⟩,.bool (Lib.cut s.data.toList sep.data.toList).2.2])∧∃n,w'=w.drewN n:=Any.strings_Cut_shaped Tryz.laysM145 s sep w h hs
def Tryz.laysM146_ren:Go.Shelf.Ren:=⟨fun|146=>39|221=>76|268=>116|138=>117|143=>118|195=>144|197=>145|218=>146|219=>75|260=>159|217=>112|225=>113|224=>114|267=>115|266=>142|314=>143|n=>n,fun|9=>9|31=>71|3=>3|4=>4|0=>0|105=>164|21=>21|5=>5|46=>137|119=>187|139=>190|138=>189|146=>162|51=>161|n=>n,fun|1=>0|3=>4|4=>5|n=>n⟩
theorem Tryz.laysM146:Go.Proofs.LaysM.n146 Tryz.prog Tryz.laysM146_ren:={
  mixed:=by kernel_rfl
  f138:=Tryz.func117.trans (congrArg some (by kernel_rfl))
  f143:=Tryz.func118.trans (congrArg some (by kernel_rfl))
  f146:=Tryz.func39.trans (congrArg some (by kernel_rfl))
  f195:=Tryz.func144.trans (congrArg some (by kernel_rfl))
  f197:=Tryz.func145.trans (congrArg some (by kernel_rfl))
  f217:=Tryz.func112.trans (congrArg some (by kernel_rfl))
  f218:=Tryz.func146.trans (congrArg some (by kernel_rfl))
  f219:=Tryz.func75.trans (congrArg some (by kernel_rfl))
  f221:=Tryz.func76.trans (congrArg some (by kernel_rfl))
  f224:=Tryz.func114.trans (congrArg some (by kernel_rfl))
  f225:=Tryz.func113.trans (congrArg some (by kernel_rfl))
  f260:=Tryz.func159.trans (congrArg some (by kernel_rfl))
  f266:=Tryz.func142.trans (congrArg some (by kernel_rfl))
  f267:=Tryz.func115.trans (congrArg some (by kernel_rfl))
  f268:=Tryz.func116.trans (congrArg some (by kernel_rfl))
  f314:=Tryz.func143.trans (congrArg some (by kernel_rfl))
  t0:=Tryz.underlying0
  a0:=Tryz.isAgg0
  z0:=Tryz.sizeOf0
  v0:=Tryz.zeroValue0
  t3:=Tryz.underlying3
  a3:=Tryz.isAgg3
  z3:=Tryz.sizeOf3
  v3:=Tryz.zeroValue3
  t4:=Tryz.underlying4
  a4:=Tryz.isAgg4
  z4:=Tryz.sizeOf4
  v4:=Tryz.zeroValue4
  t5:=Tryz.underlying5
  a5:=Tryz.isAgg5
  z5:=Tryz.sizeOf5
  v5:=Tryz.zeroValue5
  t9:=Tryz.underlying9
  a9:=Tryz.isAgg9
  z9:=Tryz.sizeOf9
  v9:=Tryz.zeroValue9
  t21:=Tryz.underlying21
  a21:=Tryz.isAgg21
  z21:=Tryz.sizeOf21
  v21:=Tryz.zeroValue21
  t31:=Tryz.underlying71
  a31:=Tryz.isAgg71
  z31:=Tryz.sizeOf71
  v31:=Tryz.zeroValue71
  t46:=Tryz.underlying137
  a46:=Tryz.isAgg137
  z46:=Tryz.sizeOf137
  v46:=Tryz.zeroValue137
  t51:=Tryz.underlying161
  a51:=Tryz.isAgg161
  z51:=Tryz.sizeOf161
  v51:=Tryz.zeroValue161
  t105:=Tryz.underlying164
  a105:=Tryz.isAgg164
  z105:=Tryz.sizeOf164
  v105:=Tryz.zeroValue164
  t119:=Tryz.underlying187
  a119:=Tryz.isAgg187
  z119:=Tryz.sizeOf187
  t138:=Tryz.underlying189
  a138:=Tryz.isAgg189
  z138:=Tryz.sizeOf189
  v138:=Tryz.zeroValue189
  t139:=Tryz.underlying190
  a139:=Tryz.isAgg190
  z139:=Tryz.sizeOf190
  v139:=Tryz.zeroValue190
  t146:=Tryz.underlying162
  a146:=Tryz.isAgg162
  z146:=Tryz.sizeOf162
  v146:=Tryz.zeroValue162
  g1:=by kernel_rfl
  g3:=by kernel_rfl
  g4:=by kernel_rfl
  i0:=by kernel_rfl
  i3:=by kernel_rfl
  i4:=by kernel_rfl
  i5:=by kernel_rfl
  i9:=by kernel_rfl
  i21:=by kernel_rfl
  i31:=by kernel_rfl
  i46:=by kernel_rfl
  i51:=by kernel_rfl
  i105:=by kernel_rfl
  i138:=by kernel_rfl
  i139:=by kernel_rfl
  i146:=by kernel_rfl
  m1:=by kernel_rfl
  s1_3:=fun w h=>Go.Proofs.cell_of_shapedOpen_int (zero:=#[.int .i64 0]) (t:=3) h (of_decide_eq_true (by kernel_rfl)) (by kernel_rfl) rfl (by kernel_rfl) (by kernel_rfl) Tryz.underlying3
  m3:=by kernel_rfl
  m4:=by kernel_rfl }
open Go.RowKit Go.Lib in theorem Tryz.strings_Split_shaped (s sep : ByteArray) (w : World) (h : w.ShapedOpen Tryz.prog) (hs : s.size < 4294967281) (h1 : 1 ≤ sep.size) :
    Calls Tryz.prog 39 #[.string s,.string sep] w fun e w' =>
      e=.returned (.slice (some ⟨w.heap.size,0,none⟩) (Lib.countB s sep+1) (Lib.countB s sep+1))∧w'=w.alloc (.cells ((Lib.splitB sep 0 (Lib.countB s sep) s).map Value.string).toArray 9):=Any.strings_Split_shaped Tryz.laysM146 s sep w h hs h1
def Tryz.laysNm215_ren:Go.Shelf.Ren:=⟨fun|15=>91|n=>n,fun|22=>28|3=>3|4=>4|n=>n,fun|n=>n⟩
theorem Tryz.laysNm215:Go.Proofs.Lays2.n15 Tryz.prog Tryz.laysNm215_ren:={
  mixed:=by kernel_rfl
  f15:=Tryz.func91.trans (congrArg some (by kernel_rfl))
  t3:=Tryz.underlying3
  a3:=Tryz.isAgg3
  z3:=Tryz.sizeOf3
  v3:=Tryz.zeroValue3
  t4:=Tryz.underlying4
  a4:=Tryz.isAgg4
  z4:=Tryz.sizeOf4
  v4:=Tryz.zeroValue4
  t22:=Tryz.underlying28
  a22:=Tryz.isAgg28
  z22:=Tryz.sizeOf28
  v22:=Tryz.zeroValue28
  i3:=by kernel_rfl }
open Go.RowKit Go.Lib in theorem Tryz.slices_Clone_int (b off n c : Nat) (zs : List Int) (w : World) (hz : n ≤ zs.length) (hbig : n * 8 ≤ 140737488355328) (hc : ∀ j, j < zs.length → w.cell? ⟨b, off + j, none⟩ = some (.int .i64 (zs.getD j 0))) :
    Calls Tryz.prog 91 #[.slice (some ⟨b,off,none⟩) n c] w fun e w'=>∃v',e=.returned v'∧w'.ownsRow w.heap.size 3 1 v' n ((zs.take n).map (Value.int .i64))∧v'≠.slice none 0 0∧Below w.heap.size w w':=Any.slices_Clone_int Tryz.laysNm215 b off n c zs w hz hbig hc
open Go.RowKit Go.Lib in theorem Tryz.slices_Clone_int_nil (n c : Nat) (w : World) :
    Calls Tryz.prog 91 #[.slice none n c] w fun e w'=>e=.returned (.slice none 0 0)∧w'=w:=Any.slices_Clone_int_nil Tryz.laysNm215 n c w
open Go.RowKit Go.Lib in theorem Tryz.slices_Clone_int_zero (a : Addr) (c : Nat) (w : World) :
    Calls Tryz.prog 91 #[.slice (some a) 0 c] w fun e w'=>∃v',e=.returned v'∧w'.ownsRow w.heap.size 3 1 v' 0 []∧v'≠.slice none 0 0∧Below w.heap.size w w':=Any.slices_Clone_int_zero Tryz.laysNm215 a c w
end Go.Proofs.YtabknkhhlbanoaaGreatDoor.Sh
