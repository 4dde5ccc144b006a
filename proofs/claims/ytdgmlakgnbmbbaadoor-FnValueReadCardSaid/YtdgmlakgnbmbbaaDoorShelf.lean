-- squeezed
/-
 DERIVED: THE SHELF's CONTRACTS AT THIS DUMP,IN PLAIN WORDS (tools/lay-plain.mjs out of 'TrydShelf.lean',which tools/lay-shelf.mjs wrote): THE SAME DECLARATIONS UNDER THE SAME NAMES: 'import','namespace','open','def','theorem' AND NOTHING ELSE: no command of the shelf's: FOR A HAND-IN. Each laying: the table of numbers ('.._ren') and one theorem,a field a fact of the dump's own or the kernel's comparison;each contract: ONE APPLICATION.
-/
import Derived.Shelf.Strings.Builder1
import Derived.Shelf.Strings.Builder2
import Derived.Shelf.Strings.OnBuilder
import Derived.Shelf.Strings.BuilderF
import Derived.Shelf.Strings.BuilderK
import Derived.Shelf.Strconv.Itoa0
import Derived.Shelf.Strconv.Itoa1
import Derived.Shelf.LaysM
import Derived.Shelf.Strconv.Itoa2
import Derived.Shelf.Strconv.Itoa3
import Derived.Shelf.Strings.Prefix
import Derived.Test.YtdgmlakgnbmbbaaDoorProg
namespace Go.Proofs
open Go.Shelf
def Tryd.lays156_ren : Go.Shelf.Ren:=⟨fun | 156=>61 | 165=>74 | 166=>75 | 169=>76 | 240=>87 | 241=>88 | 276=>97 | 277=>98 | n=>n,fun | 31=>73 | 9=>9 | 3=>3 | 4=>4 | 0=>0 | 20=>20 | 72=>106 | 76=>110 | 70=>104 | 37=>22 | 75=>109 | 127=>122 | 164=>131 | 5=>5 | 80=>112 | n=>n,fun | n=>n⟩
theorem Tryd.lays156 : Go.Proofs.Lays.n156 Tryd.prog Tryd.lays156_ren:={
 mixed:=by kernel_rfl
 f156:=Tryd.func61.trans (congrArg some (by kernel_rfl))
 f165:=Tryd.func74.trans (congrArg some (by kernel_rfl))
 f166:=Tryd.func75.trans (congrArg some (by kernel_rfl))
 f169:=Tryd.func76.trans (congrArg some (by kernel_rfl))
 f240:=Tryd.func87.trans (congrArg some (by kernel_rfl))
 f241:=Tryd.func88.trans (congrArg some (by kernel_rfl))
 f276:=Tryd.func97.trans (congrArg some (by kernel_rfl))
 f277:=Tryd.func98.trans (congrArg some (by kernel_rfl))
 t0:=Tryd.underlying0
 a0:=Tryd.isAgg0
 z0:=Tryd.sizeOf0
 v0:=Tryd.zeroValue0
 t3:=Tryd.underlying3
 a3:=Tryd.isAgg3
 z3:=Tryd.sizeOf3
 v3:=Tryd.zeroValue3
 t4:=Tryd.underlying4
 a4:=Tryd.isAgg4
 z4:=Tryd.sizeOf4
 v4:=Tryd.zeroValue4
 t9:=Tryd.underlying9
 a9:=Tryd.isAgg9
 z9:=Tryd.sizeOf9
 v9:=Tryd.zeroValue9
 t20:=Tryd.underlying20
 a20:=Tryd.isAgg20
 z20:=Tryd.sizeOf20
 v20:=Tryd.zeroValue20
 t31:=Tryd.underlying73
 a31:=Tryd.isAgg73
 z31:=Tryd.sizeOf73
 v31:=Tryd.zeroValue73
 t37:=Tryd.underlying22
 a37:=Tryd.isAgg22
 z37:=Tryd.sizeOf22
 v37:=Tryd.zeroValue22
 t70:=Tryd.underlying104
 a70:=Tryd.isAgg104
 z70:=Tryd.sizeOf104
 v70:=Tryd.zeroValue104
 t72:=Tryd.underlying106
 a72:=Tryd.isAgg106
 z72:=Tryd.sizeOf106
 v72:=Tryd.zeroValue106
 t75:=Tryd.underlying109
 a75:=Tryd.isAgg109
 z75:=Tryd.sizeOf109
 v75:=Tryd.zeroValue109
 t76:=Tryd.underlying110
 a76:=Tryd.isAgg110
 z76:=Tryd.sizeOf110
 v76:=Tryd.zeroValue110
 t127:=Tryd.underlying122
 a127:=Tryd.isAgg122
 z127:=Tryd.sizeOf122
 v127:=Tryd.zeroValue122
 t164:=Tryd.underlying131
 a164:=Tryd.isAgg131
 z164:=Tryd.sizeOf131
 v164:=Tryd.zeroValue131 }
theorem Tryd.Builder_Extra_156 : Builder.Extra Tryd.prog Tryd.lays156_ren:={
 sizeBuilder:=by kernel_rfl
 liesBuilder:=by kernel_rfl
 t5:=Tryd.underlying5
 a5:=Tryd.isAgg5
 z5:=Tryd.sizeOf5
 v5:=Tryd.zeroValue5
 infoByte:=by kernel_rfl
 cellsByte:=by kernel_rfl
 sizeByte:=by kernel_rfl
 neB5:=by decide }
open Go.RowKit in
theorem Tryd.strings_Join_none (a : Option Addr) (c : Nat) (sep : ByteArray) (w : World) :
  Calls Tryd.prog 61 #[.slice a 0 c,.string sep] w fun e w'=>e = .returned (.string ⟨#[]⟩) ∧ w' = w:=Any.strings_Join_none Tryd.lays156 Tryd.Builder_Extra_156 a c sep w
open Go.RowKit in
theorem Tryd.strings_Join (bk o c : Nat) (xs : List ByteArray) (sep : ByteArray) (w : World) (hcells : ∀ (j : Nat) x,xs[j]? = some x → w.cell? ⟨bk,o + j,none⟩ = some (.string x)) (hbk : bk < w.heap.size) (hN : xs.length ≤ 140737488355328) (hcap : xs.length ≤ c) (hlen : (Lib.join (xs.map (·.data.toList)) sep.data.toList).length ≤ 140737488355328) :
  Calls Tryd.prog 61 #[.slice (some ⟨bk,o,none⟩) xs.length c,.string sep] w fun e w'=>e = .returned (.string ⟨(Lib.join (xs.map (·.data.toList)) sep.data.toList).toArray⟩) ∧ Below w.heap.size w w':=Any.strings_Join Tryd.lays156 Tryd.Builder_Extra_156 bk o c xs sep w hcells hbk hN hcap hlen
def Tryd.laysM171_ren : Go.Shelf.Ren:=⟨fun | 171=>60 | 243=>73 | 246=>86 | 283=>93 | 284=>94 | 285=>95 | 286=>96 | 129=>100 | 317=>99 | 318=>101 | 319=>102 | 320=>103 | 337=>104 | 338=>105 | n=>n,fun | 3=>3 | 9=>9 | 2=>2 | 4=>4 | 171=>125 | 0=>0 | 53=>126 | 37=>22 | 5=>5 | 173=>129 | 212=>135 | 51=>136 | 20=>20 | 213=>137 | 46=>139 | 232=>142 | 233=>143 | n=>n,fun | 17=>0 | 18=>2 | 19=>3 | n=>n⟩
theorem Tryd.laysM171 : Go.Proofs.LaysM.n171 Tryd.prog Tryd.laysM171_ren:={
 mixed:=by kernel_rfl
 f129:=Tryd.func100.trans (congrArg some (by kernel_rfl))
 f171:=Tryd.func60.trans (congrArg some (by kernel_rfl))
 f243:=Tryd.func73.trans (congrArg some (by kernel_rfl))
 f246:=Tryd.func86.trans (congrArg some (by kernel_rfl))
 f283:=Tryd.func93.trans (congrArg some (by kernel_rfl))
 f284:=Tryd.func94.trans (congrArg some (by kernel_rfl))
 f285:=Tryd.func95.trans (congrArg some (by kernel_rfl))
 f286:=Tryd.func96.trans (congrArg some (by kernel_rfl))
 f317:=Tryd.func99.trans (congrArg some (by kernel_rfl))
 f318:=Tryd.func101.trans (congrArg some (by kernel_rfl))
 f319:=Tryd.func102.trans (congrArg some (by kernel_rfl))
 f320:=Tryd.func103.trans (congrArg some (by kernel_rfl))
 f337:=Tryd.func104.trans (congrArg some (by kernel_rfl))
 f338:=Tryd.func105.trans (congrArg some (by kernel_rfl))
 t0:=Tryd.underlying0
 a0:=Tryd.isAgg0
 z0:=Tryd.sizeOf0
 v0:=Tryd.zeroValue0
 t2:=Tryd.underlying2
 a2:=Tryd.isAgg2
 z2:=Tryd.sizeOf2
 v2:=Tryd.zeroValue2
 t3:=Tryd.underlying3
 a3:=Tryd.isAgg3
 z3:=Tryd.sizeOf3
 v3:=Tryd.zeroValue3
 t4:=Tryd.underlying4
 a4:=Tryd.isAgg4
 z4:=Tryd.sizeOf4
 v4:=Tryd.zeroValue4
 t5:=Tryd.underlying5
 a5:=Tryd.isAgg5
 z5:=Tryd.sizeOf5
 v5:=Tryd.zeroValue5
 t9:=Tryd.underlying9
 a9:=Tryd.isAgg9
 z9:=Tryd.sizeOf9
 v9:=Tryd.zeroValue9
 t20:=Tryd.underlying20
 a20:=Tryd.isAgg20
 z20:=Tryd.sizeOf20
 v20:=Tryd.zeroValue20
 t37:=Tryd.underlying22
 a37:=Tryd.isAgg22
 z37:=Tryd.sizeOf22
 v37:=Tryd.zeroValue22
 t46:=Tryd.underlying139
 a46:=Tryd.isAgg139
 z46:=Tryd.sizeOf139
 v46:=Tryd.zeroValue139
 t51:=Tryd.underlying136
 a51:=Tryd.isAgg136
 z51:=Tryd.sizeOf136
 v51:=Tryd.zeroValue136
 t53:=Tryd.underlying126
 a53:=Tryd.isAgg126
 z53:=Tryd.sizeOf126
 v53:=Tryd.zeroValue126
 t171:=Tryd.underlying125
 a171:=Tryd.isAgg125
 z171:=Tryd.sizeOf125
 v171:=Tryd.zeroValue125
 t173:=Tryd.underlying129
 a173:=Tryd.isAgg129
 z173:=Tryd.sizeOf129
 v173:=Tryd.zeroValue129
 t212:=Tryd.underlying135
 a212:=Tryd.isAgg135
 z212:=Tryd.sizeOf135
 v212:=Tryd.zeroValue135
 t213:=Tryd.underlying137
 a213:=Tryd.isAgg137
 z213:=Tryd.sizeOf137
 t232:=Tryd.underlying142
 a232:=Tryd.isAgg142
 z232:=Tryd.sizeOf142
 v232:=Tryd.zeroValue142
 t233:=Tryd.underlying143
 a233:=Tryd.isAgg143
 z233:=Tryd.sizeOf143
 v233:=Tryd.zeroValue143
 g17:=by kernel_rfl
 g18:=by kernel_rfl
 g19:=by kernel_rfl
 i0:=by kernel_rfl
 i2:=by kernel_rfl
 i3:=by kernel_rfl
 i4:=by kernel_rfl
 i5:=by kernel_rfl
 i9:=by kernel_rfl
 i20:=by kernel_rfl
 i37:=by kernel_rfl
 i46:=by kernel_rfl
 i51:=by kernel_rfl
 i53:=by kernel_rfl
 i171:=by kernel_rfl
 i173:=by kernel_rfl
 i212:=by kernel_rfl
 i232:=by kernel_rfl
 i233:=by kernel_rfl
 m17:=by kernel_rfl
 m18:=by kernel_rfl
 m19:=by kernel_rfl }
open Go.RowKit Go.Sort Go.Lib in
theorem Tryd.strconv_Itoa (n : Int) (h0 : -9223372036854775808 ≤ n) (h1 : n ≤ 9223372036854775807) (w : World) (htab : Lib.TabIs Tryd.prog w "internal/strconv.uint64pow10" .u64 Lib.pow10Tab) :
  Calls Tryd.prog 60 #[.int .i64 n] w fun e w'=>e = .returned (.string ⟨(Lib.itoa n).toArray⟩) ∧ ∃ k os,w' = grow (w.drewN k) os:=Any.strconv_Itoa Tryd.laysM171 n h0 h1 w htab
end Go.Proofs
