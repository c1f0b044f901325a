/-
  DERIVED: THE SHELF's CONTRACTS AT THIS DUMP, IN PLAIN WORDS (tools/lay-plain.mjs out of 'YtnbpmjfemeeecaaShelf.lean', which tools/lay-shelf.mjs wrote): THE SAME DECLARATIONS UNDER THE SAME NAMES: 'import', 'namespace', 'open', 'def', 'theorem' AND NOTHING ELSE: no command of the shelf's: FOR A HAND-IN. Each laying: the table of numbers ('.._ren') and one theorem, a field a fact of the dump's own or the kernel's comparison; each contract: ONE APPLICATION.
-/
import Derived.Shelf.Strings.Builder1
import Derived.Shelf.Strings.Builder2
import Derived.Shelf.Small.Strs
import Derived.Shelf.Strings.BuilderF
import Derived.Shelf.Strings.Search1
import Derived.Shelf.Strings.Search2
import Derived.Shelf.Strings.Search3
import Derived.Shelf.LaysM
import Derived.Shelf.Strings.Shaped
import Derived.Shelf.Strings.Prefix
import Derived.Shelf.Bits.Mul64
import Derived.Shelf.Strings.Repeat
import Derived.Test.YtnbpmjfemeeecaaProg
namespace Go.Proofs
open Go.Shelf
def Try.lays105_ren:Go.Shelf.Ren:=⟨fun|105=>142|212=>189|99=>190|165=>191|166=>140|170=>192|169=>143|263=>212|264=>213|206=>214|240=>188|241=>215|276=>211|277=>222|n=>n,fun|9=>9|3=>3|4=>4|20=>20|0=>0|46=>266|109=>267|5=>5|72=>206|76=>209|51=>289|146=>290|53=>292|148=>293|70=>204|37=>199|75=>208|127=>269|164=>287|80=>212|n=>n,fun|n=>n⟩
theorem Try.lays105:Go.Proofs.Lays.n105 Try.prog Try.lays105_ren:={
 mixed:=by kernel_rfl
 f99:=Try.func190.trans (congrArg some (by kernel_rfl))
 f105:=Try.func142.trans (congrArg some (by kernel_rfl))
 f165:=Try.func191.trans (congrArg some (by kernel_rfl))
 f166:=Try.func140.trans (congrArg some (by kernel_rfl))
 f169:=Try.func143.trans (congrArg some (by kernel_rfl))
 f170:=Try.func192.trans (congrArg some (by kernel_rfl))
 f206:=Try.func214.trans (congrArg some (by kernel_rfl))
 f212:=Try.func189.trans (congrArg some (by kernel_rfl))
 f240:=Try.func188.trans (congrArg some (by kernel_rfl))
 f241:=Try.func215.trans (congrArg some (by kernel_rfl))
 f263:=Try.func212.trans (congrArg some (by kernel_rfl))
 f264:=Try.func213.trans (congrArg some (by kernel_rfl))
 f276:=Try.func211.trans (congrArg some (by kernel_rfl))
 f277:=Try.func222.trans (congrArg some (by kernel_rfl))
 t0:=Try.underlying0
 a0:=Try.isAgg0
 z0:=Try.sizeOf0
 v0:=Try.zeroValue0
 t3:=Try.underlying3
 a3:=Try.isAgg3
 z3:=Try.sizeOf3
 v3:=Try.zeroValue3
 t4:=Try.underlying4
 a4:=Try.isAgg4
 z4:=Try.sizeOf4
 v4:=Try.zeroValue4
 t5:=Try.underlying5
 a5:=Try.isAgg5
 z5:=Try.sizeOf5
 v5:=Try.zeroValue5
 t9:=Try.underlying9
 a9:=Try.isAgg9
 z9:=Try.sizeOf9
 v9:=Try.zeroValue9
 t20:=Try.underlying20
 a20:=Try.isAgg20
 z20:=Try.sizeOf20
 v20:=Try.zeroValue20
 t37:=Try.underlying199
 a37:=Try.isAgg199
 z37:=Try.sizeOf199
 v37:=Try.zeroValue199
 t46:=Try.underlying266
 a46:=Try.isAgg266
 z46:=Try.sizeOf266
 v46:=Try.zeroValue266
 t51:=Try.underlying289
 a51:=Try.isAgg289
 z51:=Try.sizeOf289
 v51:=Try.zeroValue289
 t53:=Try.underlying292
 a53:=Try.isAgg292
 z53:=Try.sizeOf292
 v53:=Try.zeroValue292
 t70:=Try.underlying204
 a70:=Try.isAgg204
 z70:=Try.sizeOf204
 v70:=Try.zeroValue204
 t72:=Try.underlying206
 a72:=Try.isAgg206
 z72:=Try.sizeOf206
 v72:=Try.zeroValue206
 t75:=Try.underlying208
 a75:=Try.isAgg208
 z75:=Try.sizeOf208
 v75:=Try.zeroValue208
 t76:=Try.underlying209
 a76:=Try.isAgg209
 z76:=Try.sizeOf209
 v76:=Try.zeroValue209
 t109:=Try.underlying267
 a109:=Try.isAgg267
 z109:=Try.sizeOf267
 v109:=Try.zeroValue267
 t127:=Try.underlying269
 a127:=Try.isAgg269
 z127:=Try.sizeOf269
 v127:=Try.zeroValue269
 t146:=Try.underlying290
 a146:=Try.isAgg290
 z146:=Try.sizeOf290
 v146:=Try.zeroValue290
 t148:=Try.underlying293
 a148:=Try.isAgg293
 z148:=Try.sizeOf293
 v148:=Try.zeroValue293
 t164:=Try.underlying287
 a164:=Try.isAgg287
 z164:=Try.sizeOf287
 v164:=Try.zeroValue287 }
theorem Try.Builder_Extra_105:Builder.Extra Try.prog Try.lays105_ren:={
 sizeBuilder:=by kernel_rfl
 liesBuilder:=by kernel_rfl
 t5:=Try.underlying5
 a5:=Try.isAgg5
 z5:=Try.sizeOf5
 v5:=Try.zeroValue5
 infoByte:=by kernel_rfl
 cellsByte:=by kernel_rfl
 sizeByte:=by kernel_rfl
 neB5:=by decide }
open Go.RowKit Go.Lib in
theorem Try.strings_Repeat (s:ByteArray) (c:Nat) (w:World) (hc:c≤9223372036854775807) (hlen:s.size*c≤140737488355328) :
 Calls Try.prog 142 #[.string s,.int .i64 c] w fun e w'=>e=.returned (.string ⟨(Lib.repeatL s.data.toList c).toArray⟩)∧Below w.heap.size w w':=Any.strings_Repeat Try.lays105 Try.Builder_Extra_105 s c w hc hlen
end Go.Proofs
