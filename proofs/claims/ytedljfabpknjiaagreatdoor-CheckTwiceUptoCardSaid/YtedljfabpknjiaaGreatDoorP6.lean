/- Texts of this proof, joined: Shelf, AbsZ, AbsPA, AbsPB, AbsPC, AbsPD. -/
import Derived.Shelf.Strings.Builder1
import Derived.Shelf.Strings.Builder2
import Derived.Shelf.Strings.OnBuilder
import Derived.Shelf.Small.Bits
import Derived.Shelf.Strings.BuilderF
import Derived.Shelf.Strings.BuilderK
import Derived.Shelf.Strconv.Atoi
import Derived.Shelf.Strconv.Itoa0
import Derived.Shelf.Strconv.Itoa1
import Derived.Shelf.LaysM
import Derived.Shelf.Strconv.Itoa2
import Derived.Shelf.Strconv.Itoa3
import Derived.Shelf.Strconv.AtoiErrFast
import Derived.Shelf.Strconv.ParseIntEmpty
import Derived.Shelf.Strconv.AtoiFail
import Derived.Shelf.Strconv.Clone
import Derived.Shelf.Strconv.SyntaxError
import Derived.Shelf.LaysC
import Derived.Shelf.Strconv.ToError
import Derived.Shelf.Strconv.Lower
import Derived.Shelf.Strconv.ParseUint10
import Derived.Shelf.Strconv.ParseUint10Empty
import Derived.Shelf.Strconv.ParseUint10Any
import Derived.Shelf.Strconv.ParseInt10
import Derived.Shelf.Strconv.AtoiLong
import Derived.Shelf.Strconv.AtoiInnerAll
import Derived.Shelf.Strconv.RangeError
import Derived.Shelf.Strconv.ToErrorRange
import Derived.Shelf.Strconv.AtoiAll
import Derived.Shelf.Strconv.ErrVarAll
import Derived.Shelf.Strings.Prefix
import Derived.Shelf.Bits.Mul64
import Derived.Shelf.Strings.Repeat
import Derived.Shelf.Slices.Reverse
import Derived.Ground.Names2Prog
import Derived.Shelf.Slices.Clone
import Derived.Shelf.Slices.CompactS
import Derived.Shelf.Slices.Cells
import Derived.Ground.SlgnProg
import Derived.Shelf.SlicesE.Clone
import Derived.Test.YtedljfabpknjiaaGreatDoorProg
import Derived.Test.YtedljfabpknjiaaGreatDoorP5
section
namespace Go.Proofs
open Go.Shelf
def Tryz.lays169_ren:Go.Shelf.Ren:=⟨fun|169=>82|n=>n,fun|70=>162|9=>9|0=>0|72=>165|37=>163|127=>269|3=>3|5=>5|n=>n,fun|n=>n⟩
theorem Tryz.lays169:Go.Proofs.Lays.n169 Tryz.prog Tryz.lays169_ren:={
 mixed:=by kernel_rfl
 f169:=Tryz.func82.trans (congrArg some (by kernel_rfl))
 t0:=Tryz.underlying0
 a0:=Tryz.isAgg0
 z0:=Tryz.sizeOf0
 v0:=Tryz.zeroValue0
 t3:=Tryz.underlying3
 a3:=Tryz.isAgg3
 z3:=Tryz.sizeOf3
 v3:=Tryz.zeroValue3
 t9:=Tryz.underlying9
 a9:=Tryz.isAgg9
 z9:=Tryz.sizeOf9
 v9:=Tryz.zeroValue9
 t37:=Tryz.underlying163
 a37:=Tryz.isAgg163
 z37:=Tryz.sizeOf163
 v37:=Tryz.zeroValue163
 t70:=Tryz.underlying162
 a70:=Tryz.isAgg162
 z70:=Tryz.sizeOf162
 v70:=Tryz.zeroValue162
 t72:=Tryz.underlying165
 a72:=Tryz.isAgg165
 z72:=Tryz.sizeOf165
 v72:=Tryz.zeroValue165
 t127:=Tryz.underlying269
 a127:=Tryz.isAgg269
 z127:=Tryz.sizeOf269
 v127:=Tryz.zeroValue269 }
def Tryz.lays156_ren:Go.Shelf.Ren:=⟨fun|156=>78|165=>152|166=>148|169=>82|240=>207|241=>212|276=>250|277=>259|n=>n,fun|31=>23|9=>9|3=>3|4=>4|0=>0|20=>20|72=>165|76=>264|70=>162|37=>163|75=>30|127=>269|164=>306|5=>5|80=>139|n=>n,fun|n=>n⟩
theorem Tryz.lays156:Go.Proofs.Lays.n156 Tryz.prog Tryz.lays156_ren:={
 mixed:=by kernel_rfl
 f156:=Tryz.func78.trans (congrArg some (by kernel_rfl))
 f165:=Tryz.func152.trans (congrArg some (by kernel_rfl))
 f166:=Tryz.func148.trans (congrArg some (by kernel_rfl))
 f169:=Tryz.func82.trans (congrArg some (by kernel_rfl))
 f240:=Tryz.func207.trans (congrArg some (by kernel_rfl))
 f241:=Tryz.func212.trans (congrArg some (by kernel_rfl))
 f276:=Tryz.func250.trans (congrArg some (by kernel_rfl))
 f277:=Tryz.func259.trans (congrArg some (by kernel_rfl))
 t0:=Tryz.underlying0
 a0:=Tryz.isAgg0
 z0:=Tryz.sizeOf0
 v0:=Tryz.zeroValue0
 t3:=Tryz.underlying3
 a3:=Tryz.isAgg3
 z3:=Tryz.sizeOf3
 v3:=Tryz.zeroValue3
 t4:=Tryz.underlying4
 a4:=Tryz.isAgg4
 z4:=Tryz.sizeOf4
 v4:=Tryz.zeroValue4
 t9:=Tryz.underlying9
 a9:=Tryz.isAgg9
 z9:=Tryz.sizeOf9
 v9:=Tryz.zeroValue9
 t20:=Tryz.underlying20
 a20:=Tryz.isAgg20
 z20:=Tryz.sizeOf20
 v20:=Tryz.zeroValue20
 t31:=Tryz.underlying23
 a31:=Tryz.isAgg23
 z31:=Tryz.sizeOf23
 v31:=Tryz.zeroValue23
 t37:=Tryz.underlying163
 a37:=Tryz.isAgg163
 z37:=Tryz.sizeOf163
 v37:=Tryz.zeroValue163
 t70:=Tryz.underlying162
 a70:=Tryz.isAgg162
 z70:=Tryz.sizeOf162
 v70:=Tryz.zeroValue162
 t72:=Tryz.underlying165
 a72:=Tryz.isAgg165
 z72:=Tryz.sizeOf165
 v72:=Tryz.zeroValue165
 t75:=Tryz.underlying30
 a75:=Tryz.isAgg30
 z75:=Tryz.sizeOf30
 v75:=Tryz.zeroValue30
 t76:=Tryz.underlying264
 a76:=Tryz.isAgg264
 z76:=Tryz.sizeOf264
 v76:=Tryz.zeroValue264
 t127:=Tryz.underlying269
 a127:=Tryz.isAgg269
 z127:=Tryz.sizeOf269
 v127:=Tryz.zeroValue269
 t164:=Tryz.underlying306
 a164:=Tryz.isAgg306
 z164:=Tryz.sizeOf306
 v164:=Tryz.zeroValue306 }
theorem Tryz.Builder_Extra_156:Builder.Extra Tryz.prog Tryz.lays156_ren:={
 sizeBuilder:=by kernel_rfl
 liesBuilder:=by kernel_rfl
 t5:=Tryz.underlying5
 a5:=Tryz.isAgg5
 z5:=Tryz.sizeOf5
 v5:=Tryz.zeroValue5
 infoByte:=by kernel_rfl
 cellsByte:=by kernel_rfl
 sizeByte:=by kernel_rfl
 neB5:=by decide }
open Go.RowKit in
/-- No element: the empty string; the world is as it was. (Whatever the slice's address and capacity: a nil slice too.) (LAID: no walk: one application.) -/
theorem Tryz.strings_Join_none(a:Option Addr)(c:Nat)(sep:ByteArray)(w:World):
  Calls Tryz.prog 78 #[.slice a 0 c,.string sep] w fun e w'=>e=.returned (.string ⟨#[]⟩)∧w'=w:=Any.strings_Join_none Tryz.lays156 Tryz.Builder_Extra_156 a c sep w
open Go.RowKit in
/-- strings.Join: "Join concatenates the elements of its first argument to create a single string. The separator string sep is placed between elements in the resulting string.": HOWEVER MANY ELEMENTS. Below the heap's end the world is as it was. (LAID: no walk: one application.) -/
theorem Tryz.strings_Join(bk o c:Nat)(xs:List ByteArray)(sep:ByteArray)(w:World)(hcells:∀(j:Nat) x,xs[j]? = some x→w.cell? ⟨bk,o+j,none⟩=some (.string x))(hbk:bk<w.heap.size)(hN:xs.length≤140737488355328)(hcap:xs.length≤c)(hlen:(Lib.join (xs.map (·.data.toList)) sep.data.toList).length≤140737488355328):
  Calls Tryz.prog 78 #[.slice (some ⟨bk,o,none⟩) xs.length c,.string sep] w fun e w'=>e=.returned (.string ⟨(Lib.join (xs.map (·.data.toList)) sep.data.toList).toArray⟩)∧Below w.heap.size w w':=Any.strings_Join Tryz.lays156 Tryz.Builder_Extra_156 bk o c xs sep w hcells hbk hN hcap hlen
def Tryz.laysM171_ren:Go.Shelf.Ren:=⟨fun|171=>77|243=>151|246=>211|283=>255|284=>256|285=>257|286=>258|129=>237|317=>278|318=>279|319=>280|320=>281|337=>286|338=>287|n=>n,fun|3=>3|9=>9|2=>2|4=>4|171=>373|0=>0|53=>345|37=>163|5=>5|173=>375|212=>397|51=>343|20=>20|213=>398|46=>286|232=>412|233=>413|n=>n,fun|17=>9|18=>13|19=>14|n=>n⟩
theorem Tryz.laysM171:Go.Proofs.LaysM.n171 Tryz.prog Tryz.laysM171_ren:={
 mixed:=by kernel_rfl
 f129:=Tryz.func237.trans (congrArg some (by kernel_rfl))
 f171:=Tryz.func77.trans (congrArg some (by kernel_rfl))
 f243:=Tryz.func151.trans (congrArg some (by kernel_rfl))
 f246:=Tryz.func211.trans (congrArg some (by kernel_rfl))
 f283:=Tryz.func255.trans (congrArg some (by kernel_rfl))
 f284:=Tryz.func256.trans (congrArg some (by kernel_rfl))
 f285:=Tryz.func257.trans (congrArg some (by kernel_rfl))
 f286:=Tryz.func258.trans (congrArg some (by kernel_rfl))
 f317:=Tryz.func278.trans (congrArg some (by kernel_rfl))
 f318:=Tryz.func279.trans (congrArg some (by kernel_rfl))
 f319:=Tryz.func280.trans (congrArg some (by kernel_rfl))
 f320:=Tryz.func281.trans (congrArg some (by kernel_rfl))
 f337:=Tryz.func286.trans (congrArg some (by kernel_rfl))
 f338:=Tryz.func287.trans (congrArg some (by kernel_rfl))
 t0:=Tryz.underlying0
 a0:=Tryz.isAgg0
 z0:=Tryz.sizeOf0
 v0:=Tryz.zeroValue0
 t2:=Tryz.underlying2
 a2:=Tryz.isAgg2
 z2:=Tryz.sizeOf2
 v2:=Tryz.zeroValue2
 t3:=Tryz.underlying3
 a3:=Tryz.isAgg3
 z3:=Tryz.sizeOf3
 v3:=Tryz.zeroValue3
 t4:=Tryz.underlying4
 a4:=Tryz.isAgg4
 z4:=Tryz.sizeOf4
 v4:=Tryz.zeroValue4
 t5:=Tryz.underlying5
 a5:=Tryz.isAgg5
 z5:=Tryz.sizeOf5
 v5:=Tryz.zeroValue5
 t9:=Tryz.underlying9
 a9:=Tryz.isAgg9
 z9:=Tryz.sizeOf9
 v9:=Tryz.zeroValue9
 t20:=Tryz.underlying20
 a20:=Tryz.isAgg20
 z20:=Tryz.sizeOf20
 v20:=Tryz.zeroValue20
 t37:=Tryz.underlying163
 a37:=Tryz.isAgg163
 z37:=Tryz.sizeOf163
 v37:=Tryz.zeroValue163
 t46:=Tryz.underlying286
 a46:=Tryz.isAgg286
 z46:=Tryz.sizeOf286
 v46:=Tryz.zeroValue286
 t51:=Tryz.underlying343
 a51:=Tryz.isAgg343
 z51:=Tryz.sizeOf343
 v51:=Tryz.zeroValue343
 t53:=Tryz.underlying345
 a53:=Tryz.isAgg345
 z53:=Tryz.sizeOf345
 v53:=Tryz.zeroValue345
 t171:=Tryz.underlying373
 a171:=Tryz.isAgg373
 z171:=Tryz.sizeOf373
 v171:=Tryz.zeroValue373
 t173:=Tryz.underlying375
 a173:=Tryz.isAgg375
 z173:=Tryz.sizeOf375
 v173:=Tryz.zeroValue375
 t212:=Tryz.underlying397
 a212:=Tryz.isAgg397
 z212:=Tryz.sizeOf397
 v212:=Tryz.zeroValue397
 t213:=Tryz.underlying398
 a213:=Tryz.isAgg398
 z213:=Tryz.sizeOf398
 t232:=Tryz.underlying412
 a232:=Tryz.isAgg412
 z232:=Tryz.sizeOf412
 v232:=Tryz.zeroValue412
 t233:=Tryz.underlying413
 a233:=Tryz.isAgg413
 z233:=Tryz.sizeOf413
 v233:=Tryz.zeroValue413
 g17:=by kernel_rfl
 g18:=by kernel_rfl
 g19:=by kernel_rfl
 i0:=by kernel_rfl
 i2:=by kernel_rfl
 i3:=by kernel_rfl
 i4:=by kernel_rfl
 i5:=by kernel_rfl
 i9:=by kernel_rfl
 i20:=by kernel_rfl
 i37:=by kernel_rfl
 i46:=by kernel_rfl
 i51:=by kernel_rfl
 i53:=by kernel_rfl
 i171:=by kernel_rfl
 i173:=by kernel_rfl
 i212:=by kernel_rfl
 i232:=by kernel_rfl
 i233:=by kernel_rfl
 m17:=by kernel_rfl
 m18:=by kernel_rfl
 m19:=by kernel_rfl }
open Go.RowKit Go.Sort Go.Lib in
/-- strconv.Itoa: "Itoa is equivalent to FormatInt(int64(i), 10).": i's DECIMAL NUMERAL ('Lib.itoa': a '-' where i is negative, then the digits), FOR EVERY int. The world behind the call: the world before it, new blocks behind the heap (the library's 'var a [24]byte'), draws. (LAID: no walk: one application.) -/
theorem Tryz.strconv_Itoa(n:Int)(h0 : -9223372036854775808≤n)(h1:n≤9223372036854775807)(w:World)(htab:Lib.TabIs Tryz.prog w "internal/strconv.uint64pow10" .u64 Lib.pow10Tab):
  Calls Tryz.prog 77 #[.int .i64 n] w fun e w'=>e=.returned (.string ⟨(Lib.itoa n).toArray⟩)∧∃k os,w'=grow (w.drewN k) os:=Any.strconv_Itoa Tryz.laysM171 n h0 h1 w htab
def Tryz.laysC172_ren:Go.Shelf.Ren:=⟨fun|172=>196|244=>243|245=>244|247=>271|279=>272|280=>273|281=>274|282=>275|287=>283|316=>284|171=>77|205=>285|321=>288|322=>289|243=>151|246=>211|283=>255|284=>256|285=>257|286=>258|129=>237|317=>278|318=>279|319=>280|320=>281|337=>286|338=>287|n=>n,fun|9=>9|3=>3|75=>30|76=>264|4=>4|5=>5|167=>388|37=>163|0=>0|85=>389|2=>2|168=>391|53=>345|175=>403|46=>286|210=>406|127=>269|145=>411|143=>409|21=>21|171=>373|173=>375|212=>397|51=>343|20=>20|213=>398|232=>412|233=>413|80=>139|n=>n,fun|15=>11|16=>12|17=>9|18=>13|19=>14|n=>n⟩
theorem Tryz.laysC172:Go.Proofs.LaysC.n172 Tryz.prog Tryz.laysC172_ren:={
 mixed:=by kernel_rfl
 f129:=Tryz.func237.trans (congrArg some (by kernel_rfl))
 f171:=Tryz.func77.trans (congrArg some (by kernel_rfl))
 f172:=Tryz.func196.trans (congrArg some (by kernel_rfl))
 f205:=Tryz.func285.trans (congrArg some (by kernel_rfl))
 f243:=Tryz.func151.trans (congrArg some (by kernel_rfl))
 f244:=Tryz.func243.trans (congrArg some (by kernel_rfl))
 f245:=Tryz.func244.trans (congrArg some (by kernel_rfl))
 f246:=Tryz.func211.trans (congrArg some (by kernel_rfl))
 f247:=Tryz.func271.trans (congrArg some (by kernel_rfl))
 f279:=Tryz.func272.trans (congrArg some (by kernel_rfl))
 f280:=Tryz.func273.trans (congrArg some (by kernel_rfl))
 f281:=Tryz.func274.trans (congrArg some (by kernel_rfl))
 f282:=Tryz.func275.trans (congrArg some (by kernel_rfl))
 f283:=Tryz.func255.trans (congrArg some (by kernel_rfl))
 f284:=Tryz.func256.trans (congrArg some (by kernel_rfl))
 f285:=Tryz.func257.trans (congrArg some (by kernel_rfl))
 f286:=Tryz.func258.trans (congrArg some (by kernel_rfl))
 f287:=Tryz.func283.trans (congrArg some (by kernel_rfl))
 f316:=Tryz.func284.trans (congrArg some (by kernel_rfl))
 f317:=Tryz.func278.trans (congrArg some (by kernel_rfl))
 f318:=Tryz.func279.trans (congrArg some (by kernel_rfl))
 f319:=Tryz.func280.trans (congrArg some (by kernel_rfl))
 f320:=Tryz.func281.trans (congrArg some (by kernel_rfl))
 f321:=Tryz.func288.trans (congrArg some (by kernel_rfl))
 f322:=Tryz.func289.trans (congrArg some (by kernel_rfl))
 f337:=Tryz.func286.trans (congrArg some (by kernel_rfl))
 f338:=Tryz.func287.trans (congrArg some (by kernel_rfl))
 t0:=Tryz.underlying0
 a0:=Tryz.isAgg0
 z0:=Tryz.sizeOf0
 v0:=Tryz.zeroValue0
 t2:=Tryz.underlying2
 a2:=Tryz.isAgg2
 z2:=Tryz.sizeOf2
 v2:=Tryz.zeroValue2
 t3:=Tryz.underlying3
 a3:=Tryz.isAgg3
 z3:=Tryz.sizeOf3
 v3:=Tryz.zeroValue3
 t4:=Tryz.underlying4
 a4:=Tryz.isAgg4
 z4:=Tryz.sizeOf4
 v4:=Tryz.zeroValue4
 t5:=Tryz.underlying5
 a5:=Tryz.isAgg5
 z5:=Tryz.sizeOf5
 v5:=Tryz.zeroValue5
 t9:=Tryz.underlying9
 a9:=Tryz.isAgg9
 z9:=Tryz.sizeOf9
 v9:=Tryz.zeroValue9
 t20:=Tryz.underlying20
 a20:=Tryz.isAgg20
 z20:=Tryz.sizeOf20
 v20:=Tryz.zeroValue20
 t21:=Tryz.underlying21
 a21:=Tryz.isAgg21
 z21:=Tryz.sizeOf21
 v21:=Tryz.zeroValue21
 t37:=Tryz.underlying163
 a37:=Tryz.isAgg163
 z37:=Tryz.sizeOf163
 v37:=Tryz.zeroValue163
 t46:=Tryz.underlying286
 a46:=Tryz.isAgg286
 z46:=Tryz.sizeOf286
 v46:=Tryz.zeroValue286
 t51:=Tryz.underlying343
 a51:=Tryz.isAgg343
 z51:=Tryz.sizeOf343
 v51:=Tryz.zeroValue343
 t53:=Tryz.underlying345
 a53:=Tryz.isAgg345
 z53:=Tryz.sizeOf345
 v53:=Tryz.zeroValue345
 t75:=Tryz.underlying30
 a75:=Tryz.isAgg30
 z75:=Tryz.sizeOf30
 v75:=Tryz.zeroValue30
 t76:=Tryz.underlying264
 a76:=Tryz.isAgg264
 z76:=Tryz.sizeOf264
 v76:=Tryz.zeroValue264
 t85:=Tryz.underlying389
 a85:=Tryz.isAgg389
 z85:=Tryz.sizeOf389
 v85:=Tryz.zeroValue389
 t127:=Tryz.underlying269
 a127:=Tryz.isAgg269
 z127:=Tryz.sizeOf269
 v127:=Tryz.zeroValue269
 t143:=Tryz.underlying409
 a143:=Tryz.isAgg409
 z143:=Tryz.sizeOf409
 v143:=Tryz.zeroValue409
 t145:=Tryz.underlying411
 a145:=Tryz.isAgg411
 z145:=Tryz.sizeOf411
 v145:=Tryz.zeroValue411
 t167:=Tryz.underlying388
 a167:=Tryz.isAgg388
 z167:=Tryz.sizeOf388
 v167:=Tryz.zeroValue388
 t168:=Tryz.underlying391
 a168:=Tryz.isAgg391
 z168:=Tryz.sizeOf391
 v168:=Tryz.zeroValue391
 t171:=Tryz.underlying373
 a171:=Tryz.isAgg373
 z171:=Tryz.sizeOf373
 v171:=Tryz.zeroValue373
 t173:=Tryz.underlying375
 a173:=Tryz.isAgg375
 z173:=Tryz.sizeOf375
 v173:=Tryz.zeroValue375
 t175:=Tryz.underlying403
 a175:=Tryz.isAgg403
 z175:=Tryz.sizeOf403
 v175:=Tryz.zeroValue403
 t210:=Tryz.underlying406
 a210:=Tryz.isAgg406
 z210:=Tryz.sizeOf406
 v210:=Tryz.zeroValue406
 t212:=Tryz.underlying397
 a212:=Tryz.isAgg397
 z212:=Tryz.sizeOf397
 v212:=Tryz.zeroValue397
 t213:=Tryz.underlying398
 a213:=Tryz.isAgg398
 z213:=Tryz.sizeOf398
 t232:=Tryz.underlying412
 a232:=Tryz.isAgg412
 z232:=Tryz.sizeOf412
 v232:=Tryz.zeroValue412
 t233:=Tryz.underlying413
 a233:=Tryz.isAgg413
 z233:=Tryz.sizeOf413
 v233:=Tryz.zeroValue413
 g15:=by kernel_rfl
 g16:=by kernel_rfl
 g17:=by kernel_rfl
 g18:=by kernel_rfl
 g19:=by kernel_rfl
 t80:=Tryz.underlying139
 a80:=Tryz.isAgg139
 z80:=Tryz.sizeOf139
 v80:=Tryz.zeroValue139
 i0:=by kernel_rfl
 i2:=by kernel_rfl
 i3:=by kernel_rfl
 i4:=by kernel_rfl
 i5:=by kernel_rfl
 i9:=by kernel_rfl
 i20:=by kernel_rfl
 i21:=by kernel_rfl
 i37:=by kernel_rfl
 i46:=by kernel_rfl
 i51:=by kernel_rfl
 i53:=by kernel_rfl
 i75:=by kernel_rfl
 i76:=by kernel_rfl
 i80:=by kernel_rfl
 i85:=by kernel_rfl
 i127:=by kernel_rfl
 i143:=by kernel_rfl
 i145:=by kernel_rfl
 i167:=by kernel_rfl
 i168:=by kernel_rfl
 i171:=by kernel_rfl
 i173:=by kernel_rfl
 i175:=by kernel_rfl
 i210:=by kernel_rfl
 i212:=by kernel_rfl
 i232:=by kernel_rfl
 i233:=by kernel_rfl
 m15:=by kernel_rfl
 m16:=by kernel_rfl
 m17:=by kernel_rfl
 m18:=by kernel_rfl
 m19:=by kernel_rfl
 c0:=by kernel_rfl
 c2:=by kernel_rfl
 c3:=by kernel_rfl
 c4:=by kernel_rfl
 c5:=by kernel_rfl
 c9:=by kernel_rfl
 c20:=by kernel_rfl
 c21:=by kernel_rfl
 c37:=by kernel_rfl
 c46:=by kernel_rfl
 c51:=by kernel_rfl
 c53:=by kernel_rfl
 c75:=by kernel_rfl
 c76:=by kernel_rfl
 c80:=by kernel_rfl
 c85:=by kernel_rfl
 c127:=by kernel_rfl
 c143:=by kernel_rfl
 c145:=by kernel_rfl
 c167:=by kernel_rfl
 c168:=by kernel_rfl
 c171:=by kernel_rfl
 c173:=by kernel_rfl
 c175:=by kernel_rfl
 c210:=by kernel_rfl
 c212:=by kernel_rfl
 c213:=by kernel_rfl
 c232:=by kernel_rfl
 c233:=by kernel_rfl }
open Go.RowKit in
/-- strconv.Atoi, AT EVERY STRING THAT SPELLS AN int ('Lib.atoiAll .. = .ok v'; of whatever length: leading zeros count): v, AND NO ERROR. The world: as it was, or with the one new row that '[]byte(..)' lays. (LAID: no walk: one application.) -/
theorem Tryz.strconv_Atoi_ok(s:ByteArray)(hmax:s.size≤9223372036854775806)(v:Int)(h:Lib.atoiAll s.data.toList=.ok v)(w:World):
  Calls Tryz.prog 196 #[.string s] w fun e w'=>e=.returned (.tuple #[.int .i64 v,.nilIface])∧(w'=w∨∃t,w'=Lib.bytesWorld w 5 t):=Any.strconv_Atoi_ok Tryz.laysC172 s hmax v h w
open Go.RowKit in
/-- strconv.Atoi, AT EVERY STRING THAT IS NO DECIMAL NUMERAL ('.syntax'): 0, AND AN ERROR THAT IS NOT nil: a *NumError in a new block N: {Func: "Atoi", Num: s's bytes, Err: what the variable ErrSyntax holds}. Of what was there nothing has turned. (LAID: no walk: one application.) -/
theorem Tryz.strconv_Atoi_syntax(s:ByteArray)(hlim:s.size≤281474976710656)(h:Lib.atoiAll s.data.toList=Lib.atoiAll [])(ev:Value)(w:World)(hv:w.cell? ⟨11,0,none⟩=some ev)(hev:ev=.nilIface∨∃te pe,ev=.iface te pe):
  Calls Tryz.prog 196 #[.string s] w fun e w'=>∃N,e=.returned (.tuple #[.int .i64 (0),.iface 391 (.pointer (some ⟨N,0,none⟩))])∧w.heap.size≤N∧w'.heap[N]? = some (.cells #[.string ⟨#[65,116,111,105]⟩,.string s,ev] 406 (0,0))∧Below w.heap.size w w':=Any.strconv_Atoi_syntax Tryz.laysC172 s hlim h ev w hv hev
open Go.RowKit in
/-- strconv.Atoi, AT EVERY NUMERAL THAT NO int HOLDS ('.range'): THE GREATEST OR THE LEAST int, BY THE SIGN ('Lib.atoiSat'), AND AN ERROR THAT IS NOT nil: a *NumError in a new block N: {Func: "Atoi", Num: s's bytes, Err: what the variable ErrRange holds}. Of what was there nothing has turned. (LAID: no walk: one application.) -/
theorem Tryz.strconv_Atoi_range(s:ByteArray)(hlim:s.size≤281474976710656)(h:Lib.atoiAll s.data.toList=.range)(ev:Value)(w:World)(hv:w.cell? ⟨12,0,none⟩=some ev)(hev:ev=.nilIface∨∃te pe,ev=.iface te pe):
  Calls Tryz.prog 196 #[.string s] w fun e w'=>∃N,e=.returned (.tuple #[.int .i64 (Lib.atoiSat s.data.toList),.iface 391 (.pointer (some ⟨N,0,none⟩))])∧w.heap.size≤N∧w'.heap[N]? = some (.cells #[.string ⟨#[65,116,111,105]⟩,.string s,ev] 406 (0,0))∧Below w.heap.size w w':=Any.strconv_Atoi_range Tryz.laysC172 s hlim h ev w hv hev
def Tryz.lays105_ren:Go.Shelf.Ren:=⟨fun|105=>149|212=>208|99=>209|165=>152|166=>148|170=>81|169=>82|263=>251|264=>252|206=>253|240=>207|241=>212|276=>250|277=>259|n=>n,fun|9=>9|3=>3|4=>4|20=>20|0=>0|46=>286|109=>320|5=>5|72=>165|76=>264|51=>343|146=>368|53=>345|148=>370|70=>162|37=>163|75=>30|127=>269|164=>306|80=>139|n=>n,fun|n=>n⟩
theorem Tryz.lays105:Go.Proofs.Lays.n105 Tryz.prog Tryz.lays105_ren:={
 mixed:=by kernel_rfl
 f99:=Tryz.func209.trans (congrArg some (by kernel_rfl))
 f105:=Tryz.func149.trans (congrArg some (by kernel_rfl))
 f165:=Tryz.func152.trans (congrArg some (by kernel_rfl))
 f166:=Tryz.func148.trans (congrArg some (by kernel_rfl))
 f169:=Tryz.func82.trans (congrArg some (by kernel_rfl))
 f170:=Tryz.func81.trans (congrArg some (by kernel_rfl))
 f206:=Tryz.func253.trans (congrArg some (by kernel_rfl))
 f212:=Tryz.func208.trans (congrArg some (by kernel_rfl))
 f240:=Tryz.func207.trans (congrArg some (by kernel_rfl))
 f241:=Tryz.func212.trans (congrArg some (by kernel_rfl))
 f263:=Tryz.func251.trans (congrArg some (by kernel_rfl))
 f264:=Tryz.func252.trans (congrArg some (by kernel_rfl))
 f276:=Tryz.func250.trans (congrArg some (by kernel_rfl))
 f277:=Tryz.func259.trans (congrArg some (by kernel_rfl))
 t0:=Tryz.underlying0
 a0:=Tryz.isAgg0
 z0:=Tryz.sizeOf0
 v0:=Tryz.zeroValue0
 t3:=Tryz.underlying3
 a3:=Tryz.isAgg3
 z3:=Tryz.sizeOf3
 v3:=Tryz.zeroValue3
 t4:=Tryz.underlying4
 a4:=Tryz.isAgg4
 z4:=Tryz.sizeOf4
 v4:=Tryz.zeroValue4
 t5:=Tryz.underlying5
 a5:=Tryz.isAgg5
 z5:=Tryz.sizeOf5
 v5:=Tryz.zeroValue5
 t9:=Tryz.underlying9
 a9:=Tryz.isAgg9
 z9:=Tryz.sizeOf9
 v9:=Tryz.zeroValue9
 t20:=Tryz.underlying20
 a20:=Tryz.isAgg20
 z20:=Tryz.sizeOf20
 v20:=Tryz.zeroValue20
 t37:=Tryz.underlying163
 a37:=Tryz.isAgg163
 z37:=Tryz.sizeOf163
 v37:=Tryz.zeroValue163
 t46:=Tryz.underlying286
 a46:=Tryz.isAgg286
 z46:=Tryz.sizeOf286
 v46:=Tryz.zeroValue286
 t51:=Tryz.underlying343
 a51:=Tryz.isAgg343
 z51:=Tryz.sizeOf343
 v51:=Tryz.zeroValue343
 t53:=Tryz.underlying345
 a53:=Tryz.isAgg345
 z53:=Tryz.sizeOf345
 v53:=Tryz.zeroValue345
 t70:=Tryz.underlying162
 a70:=Tryz.isAgg162
 z70:=Tryz.sizeOf162
 v70:=Tryz.zeroValue162
 t72:=Tryz.underlying165
 a72:=Tryz.isAgg165
 z72:=Tryz.sizeOf165
 v72:=Tryz.zeroValue165
 t75:=Tryz.underlying30
 a75:=Tryz.isAgg30
 z75:=Tryz.sizeOf30
 v75:=Tryz.zeroValue30
 t76:=Tryz.underlying264
 a76:=Tryz.isAgg264
 z76:=Tryz.sizeOf264
 v76:=Tryz.zeroValue264
 t109:=Tryz.underlying320
 a109:=Tryz.isAgg320
 z109:=Tryz.sizeOf320
 v109:=Tryz.zeroValue320
 t127:=Tryz.underlying269
 a127:=Tryz.isAgg269
 z127:=Tryz.sizeOf269
 v127:=Tryz.zeroValue269
 t146:=Tryz.underlying368
 a146:=Tryz.isAgg368
 z146:=Tryz.sizeOf368
 v146:=Tryz.zeroValue368
 t148:=Tryz.underlying370
 a148:=Tryz.isAgg370
 z148:=Tryz.sizeOf370
 v148:=Tryz.zeroValue370
 t164:=Tryz.underlying306
 a164:=Tryz.isAgg306
 z164:=Tryz.sizeOf306
 v164:=Tryz.zeroValue306 }
theorem Tryz.Builder_Extra_105:Builder.Extra Tryz.prog Tryz.lays105_ren:={
 sizeBuilder:=by kernel_rfl
 liesBuilder:=by kernel_rfl
 t5:=Tryz.underlying5
 a5:=Tryz.isAgg5
 z5:=Tryz.sizeOf5
 v5:=Tryz.zeroValue5
 infoByte:=by kernel_rfl
 cellsByte:=by kernel_rfl
 sizeByte:=by kernel_rfl
 neB5:=by decide }
open Go.RowKit Go.Lib in
/-- **strings.Repeat: count ≥ 0, the result within one allocation: count copies of s.** (LAID: no walk: one application.) -/
theorem Tryz.strings_Repeat(s:ByteArray)(c:Nat)(w:World)(hc:c≤9223372036854775807)(hlen:s.size * c≤140737488355328):
  Calls Tryz.prog 149 #[.string s,.int .i64 c] w fun e w'=>e=.returned (.string ⟨(Lib.repeatL s.data.toList c).toArray⟩)∧Below w.heap.size w w':=Any.strings_Repeat Tryz.lays105 Tryz.Builder_Extra_105 s c w hc hlen
def Tryz.laysNm216_ren:Go.Shelf.Ren:=⟨fun|16=>95|n=>n,fun|24=>23|9=>9|4=>4|n=>n,fun|n=>n⟩
theorem Tryz.laysNm216:Go.Proofs.Lays2.n16 Tryz.prog Tryz.laysNm216_ren:={
 mixed:=by kernel_rfl
 f16:=Tryz.func95.trans (congrArg some (by kernel_rfl))
 t4:=Tryz.underlying4
 a4:=Tryz.isAgg4
 z4:=Tryz.sizeOf4
 v4:=Tryz.zeroValue4
 t9:=Tryz.underlying9
 a9:=Tryz.isAgg9
 z9:=Tryz.sizeOf9
 v9:=Tryz.zeroValue9
 t24:=Tryz.underlying23
 a24:=Tryz.isAgg23
 z24:=Tryz.sizeOf23
 v24:=Tryz.zeroValue23
 i9:=by kernel_rfl }
open Go.RowKit Go.Lib in
/-- slices.Clone at []string: "Clone returns a copy of the slice. The elements are copied using assignment, so this is a shallow clone. The result may have additional unused capacity. The result preserves the nilness of s.": OF A SLICE THAT IS NOT nil IT RETURNS A SLICE THAT IS NOT nil, OF THE SAME ELEMENTS, IN MEMORY OF THE CALL's OWN: in the how-to's words (6f): 'w'.ownsRow B e 1 v' n cells': v' begins at the head of a row among the blocks from B on (B: the heap's size at the call), not frozen, whose first cells are the elements · 'Below B w w'': below B all is as it was. The capacity is whatever the run-time gives. 'zs': what the cells behind the slice's address hold; 'zs.take n': its elements. (LAID: no walk: one application.) -/
theorem Tryz.slices_Clone_string(b off n c:Nat)(zs:List ByteArray)(w:World)(hz:n≤zs.length)(hbig:n * 16≤140737488355328)(hc:∀j,j<zs.length→w.cell? ⟨b,off+j,none⟩=some (.string (zs.getD j ByteArray.empty))):
  Calls Tryz.prog 95 #[.slice (some ⟨b,off,none⟩) n c] w fun e w'=>∃v',e=.returned v'∧w'.ownsRow w.heap.size 9 1 v' n ((zs.take n).map (Value.string))∧v'≠.slice none 0 0∧Below w.heap.size w w':=Any.slices_Clone_string Tryz.laysNm216 b off n c zs w hz hbig hc
open Go.RowKit Go.Lib in
/-- The same at nil: nil comes back; the world is as it was. (LAID: no walk: one application.) -/
theorem Tryz.slices_Clone_string_nil(n c:Nat)(w:World):
  Calls Tryz.prog 95 #[.slice none n c] w fun e w'=>e=.returned (.slice none 0 0)∧w'=w:=Any.slices_Clone_string_nil Tryz.laysNm216 n c w
open Go.RowKit Go.Lib in
/-- The same at a slice of length 0 that is not nil, WHATEVER ITS ADDRESS (no cell is asked for): a slice that is not nil and owns nothing comes back. (LAID: no walk: one application.) -/
theorem Tryz.slices_Clone_string_zero(a:Addr)(c:Nat)(w:World):
  Calls Tryz.prog 95 #[.slice (some a) 0 c] w fun e w'=>∃v',e=.returned v'∧w'.ownsRow w.heap.size 9 1 v' 0 []∧v'≠.slice none 0 0∧Below w.heap.size w w':=Any.slices_Clone_string_zero Tryz.laysNm216 a c w
def Tryz.lays194_ren:Go.Shelf.Ren:=⟨fun|194=>162|n=>n,fun|31=>23|9=>9|3=>3|4=>4|0=>0|n=>n,fun|n=>n⟩
theorem Tryz.lays194:Go.Proofs.Lays.n194 Tryz.prog Tryz.lays194_ren:={
 mixed:=by kernel_rfl
 f194:=Tryz.func162.trans (congrArg some (by kernel_rfl))
 t0:=Tryz.underlying0
 a0:=Tryz.isAgg0
 z0:=Tryz.sizeOf0
 v0:=Tryz.zeroValue0
 t3:=Tryz.underlying3
 a3:=Tryz.isAgg3
 z3:=Tryz.sizeOf3
 v3:=Tryz.zeroValue3
 t4:=Tryz.underlying4
 a4:=Tryz.isAgg4
 z4:=Tryz.sizeOf4
 v4:=Tryz.zeroValue4
 t9:=Tryz.underlying9
 a9:=Tryz.isAgg9
 z9:=Tryz.sizeOf9
 v9:=Tryz.zeroValue9
 t31:=Tryz.underlying23
 a31:=Tryz.isAgg23
 z31:=Tryz.sizeOf23
 v31:=Tryz.zeroValue23 }
open Go.RowKit Go.Lib Go.Sort in
/-- slices.Compact at []string: "Compact replaces consecutive runs of equal elements with a single copy. This is like the uniq command found on Unix. Compact modifies the contents of the slice s and returns the modified slice, which may have a smaller length. Compact zeroes the elements between the new length and the original length. The result preserves the nilness of s.": IT RETURNS THE SLICE CUT TO 'Lib.compact zs'; ITS CELLS HOLD 'Lib.compact zs', THEN ZERO VALUES up to the old length; all else is as it was, but for the count of draws. IN THE WORDS OF slices.Sort's CONTRACT ('Holds', 'putRow'): so the everyday 'slices.Sort(xs); xs = slices.Compact(xs)' goes from the one contract to the other. It asks 'zs.length ≤ cap' (every slice's: the reslicing 's[:k]' looks at it). Length 0, nil: '.._empty'. (LAID: no walk: one application.) -/
theorem Tryz.slices_Compact_string(blk off cap:Nat)(zs:List (List UInt8))(w:World)(hH:Holds encStr w blk off zs.toArray)(hsz:zs.length≤9223372036854775807)(hcap:zs.length≤cap):
  Calls Tryz.prog 162 #[.slice (some ⟨blk,off,none⟩) zs.length cap] w fun e w'=>e=.returned (.slice (some ⟨blk,off,none⟩) (Lib.compact zs).length cap)∧∃q,w'=putRow encStr (Sort.ahead w q) blk off (Lib.compact zs++List.replicate (zs.length - (Lib.compact zs).length) []).toArray:=Any.slices_Compact_string Tryz.lays194 blk off cap zs w hH hsz hcap
open Go.RowKit Go.Lib Go.Sort in
/-- The same at a slice of length 0, a nil one too: it comes back as it is. (LAID: no walk: one application.) -/
theorem Tryz.slices_Compact_string_empty(a:Option Addr)(cap:Nat)(w:World):
  Calls Tryz.prog 162 #[.slice a 0 cap] w fun e w'=>e=.returned (.slice a 0 cap)∧w'=w:=Any.slices_Compact_string_empty Tryz.lays194 a cap w
end Go.Proofs
end
section
namespace Go.Abs
open Go Go.Proofs
theorem below_Fr{lim:Nat→Nat}{w w':World}(h:RowKit.Below w.heap.size w w'):Fr (fun _=>False) lim w lim w':=
 ⟨h.os,h.tape,h.output,h.size,fun b hb=>⟨Nat.le_refl _,fun _o _=>World.cell?_of_block (w:=w) (h.block b hb)⟩,fun b hb _=>⟨h.block b hb,rfl⟩⟩
/-- A contract over pure values from a contract of the kit's that turns nothing of what was there. -/
theorem spec_of_below {P:Program}{G:Glob}{f:FuncId}{fn:Func}{c:Code}{args:List PV}{p:PV}(hf:P.funcs[f]? = some fn) (hb:fn.body=some c) (hname:(fn.name== "runtime.NumGoroutine")=false)
  (h:∀(H:Nat→Option Value) (lim:Nat→Nat) (w:World) (vs:List Value),(∀i,H i=none)→GlobOk G H lim w→Vs H lim w args vs→
   Calls P f vs.toArray w fun e w'=>(∃v,e=.returned v∧∀lim',Fr (fun _=>False) lim w lim' w'→V H lim' w' p v)∧RowKit.Below w.heap.size w w'):Spec P G f args [] (.ret p) []:=by
 refine ⟨fun av w=>?_,Nat.le_refl _,fun H lim w vs hrows hglob hvs=>?_⟩
 ·have hne:¬fn.name = "runtime.NumGoroutine":=by simpa using hname
  simp [callFunc,hf,hne,hb,program,Sem.run]
 have hn:∀i,H i=none:=fun i=>hrows.dom i (Nat.zero_le _);refine Calls.mono (h H lim w vs hn hglob hvs) ?_;intro e w' ⟨⟨v,he,hv⟩,hbl⟩;exact ⟨H,lim,⟨fun id r q=>(by simp at q),fun i j b _ q=>(absurd q (ow_none (hn i))),fun id _=>hn id⟩,(below_Fr hbl).weaken fun _ q=>q.elim,fun _ _ _ _=>rfl,fun b q=>.inl q,v,he,hv lim (below_Fr hbl)⟩
theorem bytesWorld_below(w:World)(e:TypeId)(s:ByteArray):RowKit.Below w.heap.size w (Lib.bytesWorld w e s):=
 ⟨rfl,rfl,rfl,by rw [Lib.bytesWorld_size];omega,fun j hj=>Lib.bytesWorld_at_old w e s j hj⟩
/-- What Atoi tells: the number, and is there an error? -/
def atoiF(w:ByteArray):PV:=match Lib.atoiAll w.data.toList with
 |.ok v=>.tup [.d (num v),.d (.s .nilIface)]
 |.range=>.tup [.d (num (Lib.atoiSat w.data.toList)),.ifc 391 .any]
 |_=>.tup [.d (num 0),.ifc 391 .any]
theorem glob_cell{G:Glob}{H:Nat→Option Value}{lim:Nat→Nat}{w:World}(h:GlobOk G H lim w){g:Nat}{v:Value}(hg:G g=some v)(h9:Nat.ble g 999=true:=by rfl)(hv:oneV v=true:=by rfl):w.cell? ⟨g,0,none⟩=some v:=((h.holds g v h9 hg).one hv).1
theorem atoi_spec(t:Nat→TypeId)(u:Nat→Value)(w:ByteArray)(hw:w.size≤281474976710656):Spec Tryz.prog (GV t u) 196 [.d (str w)] [] (.ret (atoiF w)) []:=by
 refine spec_of_below Tryz.func196 rfl (by rfl) ?_;intro H lim W vs hn hglob hvs;simp only [Vs,V,str,VD] at hvs;obtain ⟨_,_,rfl,rfl,rfl⟩:=hvs
 unfold atoiF
 cases h:Lib.atoiAll w.data.toList with
 |ok v=>
  refine (Tryz.strconv_Atoi_ok w (by omega) v h W).mono ?_;rintro e w' ⟨rfl,hw'⟩;refine ⟨⟨_,rfl,fun lim' _=>?_⟩,?_⟩
  ·simp only [V,Vs,VD,num]
   exact ⟨[.int .i64 v,.nilIface],rfl,_,_,rfl,rfl,_,_,rfl,rfl,rfl⟩
  rcases hw' with rfl|⟨_,rfl⟩
  ·exact RowKit.Below.refl _ _
  exact bytesWorld_below _ _ _
 |range=>
  refine (Tryz.strconv_Atoi_range w hw h _ W (glob_cell hglob (show GV t u 12=some (.iface (t 12) (u 12)) from rfl)) (Or.inr ⟨_,_,rfl⟩)).mono ?_;rintro e w' ⟨N,rfl,_,_,hb⟩;refine ⟨⟨_,rfl,fun lim' _=>?_⟩,hb⟩;simp only [V,Vs,VD,num];exact ⟨[.int .i64 _,.iface 391 (.pointer (some ⟨N,0,none⟩))],rfl,_,_,rfl,rfl,_,_,rfl,⟨_,rfl,trivial⟩,rfl⟩
 |_=>
  refine (Tryz.strconv_Atoi_syntax w hw h _ W (glob_cell hglob (show GV t u 11=some (.iface (t 11) (u 11)) from rfl)) (Or.inr ⟨_,_,rfl⟩)).mono ?_;rintro e w' ⟨N,rfl,_,_,hb⟩;refine ⟨⟨_,rfl,fun lim' _=>?_⟩,hb⟩;simp only [V,Vs,VD,num];exact ⟨[.int .i64 0,.iface 391 (.pointer (some ⟨N,0,none⟩))],rfl,_,_,rfl,rfl,_,_,rfl,⟨_,rfl,trivial⟩,rfl⟩
theorem repeat_spec(G:Glob)(s:ByteArray)(c:Nat)(hc:s.size * c≤140737488355328)(h63:c≤9223372036854775807):Spec Tryz.prog G 149 [.d (str s),.d (num c)] [] (.ret (.d (str ⟨(Lib.repeatL s.data.toList c).toArray⟩))) []:=by
 refine spec_of_below Tryz.func149 rfl (by rfl) ?_;intro H lim W vs hn hglob hvs;simp only [Vs,V,str,num,VD] at hvs;obtain ⟨_,_,rfl,rfl,_,_,rfl,rfl,rfl⟩:=hvs;refine (Tryz.strings_Repeat s c W h63 hc).mono ?_;rintro e w' ⟨rfl,hb⟩;exact ⟨⟨_,rfl,fun lim' _=>by simp only [V,str,VD]⟩,hb⟩
end Go.Abs
end
section
namespace Go.Abs
open Go Go.Proofs
attribute [local irreducible] aCall AWp Sub Spec
/-- Terms. -/
inductive Ex where
 |mk (op:ByteArray) (n:Int) (name:ByteArray) (l:List Ex)
mutual
def Ex.cs:Ex→List Data
 |.mk op n name l=>[str op,num n,str name,.sl 4 (exs l)]
def exs:List Ex→List (List Data)
 |[]=>[]
 |e::r=>e.cs::exs r
end
/-- Tests, statements, programs. -/
structure Ts where
 a:Ex
 rel:ByteArray
 b:Ex
def Ts.cs(t:Ts):List Data:=t.a.cs++(str t.rel::t.b.cs)
def tss(l:List Ts):List (List Data):=l.map Ts.cs
def cnd(c:List (List Ts)):List (List Data):=c.map fun r=>[.sl 9 (tss r)]
inductive Sm where
 |mk (kind name proc:ByteArray) (args:List Ex) (cond:List (List Ts)) (body els:List Sm)
mutual
def Sm.cs:Sm→List Data
 |.mk kind name proc args cond body els=>[str kind,str name,str proc,.sl 4 (exs args),.sl 1 (cnd cond),.sl 7 (sms body),.sl 7 (sms els)]
def sms:List Sm→List (List Data)
 |[]=>[]
 |e::r=>e.cs::sms r
end
structure Ar where
 name:ByteArray
 size:Int
def Ar.cs(a:Ar):List Data:=[str a.name,num a.size]
structure Pc where
 name:ByteArray
 params:List ByteArray
 body:List Sm
 ret:Ex
def Pc.cs(p:Pc):List Data:=[str p.name,.sl 1 (strs p.params),.sl 7 (sms p.body)]++p.ret.cs
structure Pg where
 vars:List ByteArray
 arrays:List Ar
 procs:List Pc
 main:List Sm
def Pg.cs(p:Pg):List Data:=[.sl 1 (strs p.vars),.sl 2 (p.arrays.map Ar.cs),.sl 7 (p.procs.map Pc.cs),.sl 7 (sms p.main)]

/-- Where the reader stands: at a word of the text. -/
structure PS (s:ByteArray) where
 i:Nat
 w:ByteArray
 ok:i+w.size≤s.size
/-- What reading comes to: it is read; a fault; no answer within so many steps. -/
inductive R (s:ByteArray) (α:Type) where
 |ok (a:α) (p:PS s)
 |bad (p:PS s) (c:Nat)
 |out
def R.bind{s:ByteArray}{α β:Type}(r:R s α)(f:α→PS s→R s β):R s β:=match r with
 |.ok a p=>f a p
 |.bad p c=>.bad p c
 |.out=>.out
def rd(s:ByteArray)(p:PS s):Row:=rdr 132 s p.i p.w
theorem spaceF_le(s:ByteArray):∀(n i:Nat),i≤s.size→i≤spaceF s n i∧spaceF s n i≤s.size
 |0,i,h=>⟨Nat.le_refl _,h⟩
 |n+1,i,h=>by
  simp only [spaceF]
  split
  ·rename_i hd
   have:=of_decide_eq_true hd
   split
   ·have:=spaceF_le s n (i+1) (by omega)
    exact ⟨by omega,this.2⟩
   exact ⟨Nat.le_refl _,h⟩
  exact ⟨Nat.le_refl _,h⟩
/-- The next word. -/
def nx(s:ByteArray)(p:PS s):PS s where
 i:=spaceF s (s.size - (p.i+p.w.size)) (p.i+p.w.size)
 w:=(s.extract (spaceF s (s.size - (p.i+p.w.size)) (p.i+p.w.size)) s.size).extract 0 (wordLen (s.extract (spaceF s (s.size - (p.i+p.w.size)) (p.i+p.w.size)) s.size))
 ok:=by
  have:=spaceF_le s (s.size - (p.i+p.w.size)) _ p.ok;simp only [ByteArray.size_extract];omega
def eqW(w x:ByteArray):Bool:=w.toList==x.toList
theorem eqW_eq{w x:ByteArray}(h:(w.toList==x.toList)=true):w=x:=(MapKept.bytes_beq w x).1 (by rw [beq_toListBytes];exact h)
def takeF(s x:ByteArray)(p:PS s):R s Unit:=match eqW p.w x with
 |true=>.ok () (nx s p)
 |false=>.bad p 3
def nameF(s:ByteArray)(p:PS s):R s ByteArray:=match isNameF p.w with
 |true=>.ok p.w (nx s p)
 |false=>.bad p 3
/-- The number that a word is. -/
def numBad(w:ByteArray)(n:Int)(err:Bool):Bool:=(eqW w ⟨#[]⟩||!isD (byteAt w 0))||(decide ((w.size:Int)>1)&&(byteAt w 0==48))||err||decide (n>1099511627776)
def numV(w:ByteArray):Option Int:=match Lib.atoiAll w.data.toList with
 |.ok v=>match numBad w v false with
  |true=>none
  |false=>some v
 |_=>none
def numberF(s:ByteArray)(p:PS s):R s Int:=match numV p.w with
 |some n=>.ok n (nx s p)
 |none=>.bad p 3
def deepF(s:ByteArray)(d:Int)(p:PS s):R s Int:=match decide (d≥12) with
 |true=>.bad p 0
 |false=>.ok (IntKind.i64.wrap (d+1)) p
section
variable (t:Nat→TypeId) (u:Nat→Value)
def outR{s:ByteArray}{α:Type}(enc:α→PV):R s α→Out
 |.ok a _=>.ret (enc a)
 |.bad _ _=>.pan (.ifc 128 (.box 1 0))
 |.out=>.ret (.tup [])
def rowsR{s:ByteArray}{α:Type}:R s α→List Row
 |.ok _ p=>[rd s p]
 |.bad p c=>[rd s p,flt p.i (t c) (u c)]
 |.out=>[]
/-- The contract of a function of the reader. -/
def PSpec{α:Type}(f:FuncId)(args:List PV)(s:ByteArray)(p:PS s)(enc:α→PV)(r:R s α):Prop:=
 r≠.out→Spec Tryz.prog (GV t u) f args [rd s p] (outR enc r) (rowsR t u r)
end
def encU:Unit→PV:=fun _=>.tup []
def encS:ByteArray→PV:=fun w=>.d (str w)
def encI:Int→PV:=fun n=>.d (num n)
def encE:Ex→PV:=fun e=>.d (.agg e.cs)
theorem nextP_spec(G:Glob)(s:ByteArray)(p:PS s)(hs:s.size<4611686018427387904):Spec Tryz.prog G 55 [.box 0 0] [rd s p] (.ret (.tup [])) [rd s (nx s p)]:=next_spec G 132 s p.w p.i hs p.ok
section
variable (t:Nat→TypeId) (u:Nat→Value)
theorem takeP_spec(s x:ByteArray)(p:PS s)(hs:s.size<4611686018427387904):PSpec t u 136 [.box 0 0,.d (str x)] s p encU (takeF s x p):=by
 intro _
 unfold takeF eqW
 cases h:(p.w.toList==x.toList) with
 |true=>
  have e:p.w=x:=eqW_eq h;subst e;exact take_ok (GV t u) 132 s p.w p.i hs p.ok
 |false=>exact take_bad t u 132 s p.w x p.i h
end
end Go.Abs
end
section
namespace Go.Abs
open Go Go.Proofs
attribute [local irreducible] aCall AWp Sub Spec
section
variable (t:Nat→TypeId) (u:Nat→Value)
theorem deepP_spec(s:ByteArray)(p:PS s)(d:Int):PSpec t u 277 [.box 0 0,.d (num d)] s p encI (deepF s d p):=by
 intro hne;obtain ⟨r,hG⟩:∃r,deepF s d p=r:=⟨_,rfl⟩;rw [hG] at hne ⊢
 refine spec_of_awp2 TT_ok (N:=12) Tryz.func277 rfl (by rfl) ((by cases r <;> simp [rowsR] at hne ⊢)) rfl ?_
 refine rz [0,1] ?_;refine awp_seq ?_;refine rz [0,1,6] ?_;refine awp_cond2 rfl (onB_intro (fun h1=>?_) (fun h1=>?_))
 ·refine rgn fun E K J O=>?_;show aCall _ _ _ _ _ _ _
  refine aP [0] rfl rfl rfl (fail_spec (GV t u) 132 s _ _ (t 0) (u 0)) rfl rfl rfl rfl ?_;refine J _ _ ?_;simp only [deepF,h1] at hG;subst hG;exact ⟨[0,1],_,rfl,rfl,rfl,rfl,rfl⟩
 refine awp_skip ?_;refine rz [4] ?_;refine awp_ret ?_;simp only [deepF,h1] at hG;subst hG;exact ⟨_,[0],_,[encI _],rfl,rfl,rfl,rfl,rfl,(by first|exact PWs.refl _|(refine PWs.cons (PW.d ?_) PWs.nil;repeat (first|exact DW.refl _|refine DW.agg ?_|refine DWs.cons ?_ ?_|exact DWs.nil|exact DW.nil _))),rfl⟩
theorem nameP_spec(s:ByteArray)(p:PS s)(hs:s.size<4611686018427387904):PSpec t u 135 [.box 0 0] s p encS (nameF s p):=by
 intro hne;obtain ⟨r,hG⟩:∃r,nameF s p=r:=⟨_,rfl⟩;rw [hG] at hne ⊢
 refine spec_of_awp2 TT_ok (N:=17) Tryz.func135 rfl (by rfl) ((by cases r <;> simp [rowsR] at hne ⊢)) rfl ?_
 refine rz [0] ?_;refine rz [0,3] ?_;refine awp_seq ?_;refine rgs fun E K J O=>?_;show aCall _ _ _ _ _ _ _;refine aR [] rfl rfl rfl (isName_spec _ p.w (by have:=p.ok;omega)) rfl rfl rfl rfl ?_;refine O _ (aN [0,3,10] rfl rfl ?_);clear O J K E;refine awp_cond2 rfl (onB_intro (fun h1=>?_) (fun h1=>?_))
 ·have h1:=Bool.not_eq_true' _▸h1
  refine rgn fun E K J O=>?_;show aCall _ _ _ _ _ _ _;refine aP [0] rfl rfl rfl (fail_spec (GV t u) 132 s _ _ (t 3) (u 3)) rfl rfl rfl rfl ?_;refine J _ _ ?_;simp only [nameF,h1] at hG;subst hG;exact ⟨[0,1],_,rfl,rfl,rfl,rfl,rfl⟩
 have h1:=Bool.not_eq_false' _▸h1;refine awp_skip ?_;refine rgs fun E K J O=>?_;refine aS [0] (nextP_spec _ s p hs) ?_;refine O _ (aN [3] rfl rfl ?_);clear O J K E;refine rz [2] ?_;refine awp_ret ?_;simp only [nameF,h1] at hG;subst hG;exact ⟨_,[0],_,[encS _],rfl,rfl,rfl,rfl,rfl,(by first|exact PWs.refl _|(refine PWs.cons (PW.d ?_) PWs.nil;repeat (first|exact DW.refl _|refine DW.agg ?_|refine DWs.cons ?_ ?_|exact DWs.nil|exact DW.nil _))),rfl⟩
theorem hasP_yes(G:Glob)(s x:ByteArray)(p:PS s)(hs:s.size<4611686018427387904)(h:eqW p.w x=true):Spec Tryz.prog G 134 [.box 0 0,.d (str x)] [rd s p] (.ret (.d (.s (.bool true)))) [rd s (nx s p)]:=by
 have e:p.w=x:=eqW_eq h;subst e;exact has_yes G 132 s p.w p.i hs p.ok
theorem hasP_no(G:Glob)(s x:ByteArray)(p:PS s)(h:eqW p.w x=false):Spec Tryz.prog G 134 [.box 0 0,.d (str x)] [rd s p] (.ret (.d (.s (.bool false)))) [rd s p]:=has_no G 132 s p.w x p.i h
theorem size_pos{w:ByteArray}(h:(w.toList==(⟨#[]⟩:ByteArray).toList)=false):0<w.size:=by
 rcases Nat.eq_zero_or_pos w.size with h0|h0
 ·have:w=⟨#[]⟩:=ByteArray.size_eq_zero_iff.1 h0
  rw [this] at h
  simp at h
 exact h0
theorem numberP_ok(s:ByteArray)(p:PS s)(hs:s.size≤4000)(v:Int)(ha:Lib.atoiAll p.w.data.toList=.ok v):PSpec t u 137 [.box 0 0] s p encI (numberF s p):=by
 intro hne;obtain ⟨r,hG⟩:∃r,numberF s p=r:=⟨_,rfl⟩;rw [hG] at hne ⊢
 refine spec_of_awp2 TT_ok (N:=57) Tryz.func137 rfl (by rfl) ((by cases r <;> simp [rowsR] at hne ⊢)) rfl ?_
 refine rz [0] ?_;refine rgs fun E K J O=>?_;show aCall _ _ _ _ _ _ _;refine aR [] rfl rfl rfl (show Spec _ _ _ _ _ (.ret (.tup [.d (num v),.d (.s .nilIface)])) _ from by have:=atoi_spec t u p.w (by have:=p.ok;omega);unfold atoiF at this;rw [ha] at this;exact this) rfl rfl rfl rfl ?_;refine O _ (aN [0,3,4] rfl rfl ?_);clear O J K E;refine awp_seq ?_;refine rgs fun E K J O=>?_;refine onB_intro (fun h1=>?_) (fun h1=>?_)
 ·refine O _ (aN [0,3,50] rfl rfl ?_);clear O J K E;refine awp_cond rfl ?_;refine rgn fun E K J O=>?_;show aCall _ _ _ _ _ _ _
  refine aP [0] rfl rfl rfl (fail_spec (GV t u) 132 s _ _ (t 3) (u 3)) rfl rfl rfl rfl ?_;refine J _ _ ?_;simp only [numberF,numV,numBad,ha,eqW,isD,bz,h1] at hG;subst hG;exact ⟨[0,1],_,rfl,rfl,rfl,rfl,rfl⟩
 have hpos:=size_pos h1;refine And.intro (by omega) (And.intro (by omega) ?_);refine aS [] (digit_spec _ _) ?_;refine onB_intro (fun h2=>?_) (fun h2=>?_)
 ·refine O _ (aN [0,3,50] rfl rfl ?_);clear O J K E;refine awp_cond rfl ?_;refine rgn fun E K J O=>?_;show aCall _ _ _ _ _ _ _
  refine aP [0] rfl rfl rfl (fail_spec (GV t u) 132 s _ _ (t 3) (u 3)) rfl rfl rfl rfl ?_;refine J _ _ ?_;simp only [numberF,numV,numBad,ha,eqW,isD,bz,h1,h2] at hG;subst hG;exact ⟨[0,1],_,rfl,rfl,rfl,rfl,rfl⟩
 refine onB_intro (fun h3=>?_) (fun h3=>?_)
 ·refine And.intro (by omega) (And.intro (by omega) ?_)
  refine onB_intro (fun h4=>?_) (fun h4=>?_)
  ·refine O _ (aN [0,3,50] rfl rfl ?_);clear O J K E;refine awp_cond rfl ?_;refine rgn fun E K J O=>?_;show aCall _ _ _ _ _ _ _
   refine aP [0] rfl rfl rfl (fail_spec (GV t u) 132 s _ _ (t 3) (u 3)) rfl rfl rfl rfl ?_;refine J _ _ ?_;simp only [numberF,numV,numBad,ha,eqW,isD,bz,h1,h2,h3,h4] at hG;subst hG;exact ⟨[0,1],_,rfl,rfl,rfl,rfl,rfl⟩
  refine O _ (aN [0,3,50] rfl rfl ?_);clear O J K E;refine awp_cond2 rfl (onB_intro (fun h5=>?_) (fun h5=>?_))
  ·refine rgn fun E K J O=>?_;show aCall _ _ _ _ _ _ _
   refine aP [0] rfl rfl rfl (fail_spec (GV t u) 132 s _ _ (t 3) (u 3)) rfl rfl rfl rfl ?_;refine J _ _ ?_;simp only [numberF,numV,numBad,ha,eqW,isD,bz,h1,h2,h3,h4,h5] at hG;subst hG;exact ⟨[0,1],_,rfl,rfl,rfl,rfl,rfl⟩
  refine awp_skip ?_;refine rgs fun E K J O=>?_;show aCall _ _ _ _ _ _ _
  have hs:s.size<4611686018427387904:=by omega
  refine aS [0] (nextP_spec _ s p hs) ?_;refine O _ (aN [3] rfl rfl ?_);clear O J K E;refine rz [2] ?_;refine awp_ret ?_;simp only [numberF,numV,numBad,ha,eqW,isD,bz,h1,h2,h3,h4,h5] at hG;subst hG;exact ⟨_,[0],_,[encI _],rfl,rfl,rfl,rfl,rfl,(by first|exact PWs.refl _|(refine PWs.cons (PW.d ?_) PWs.nil;repeat (first|exact DW.refl _|refine DW.agg ?_|refine DWs.cons ?_ ?_|exact DWs.nil|exact DW.nil _))),rfl⟩
 refine O _ (aN [0,3,50] rfl rfl ?_);clear O J K E;refine awp_cond2 rfl (onB_intro (fun h4=>?_) (fun h4=>?_))
 ·refine rgn fun E K J O=>?_;show aCall _ _ _ _ _ _ _
  refine aP [0] rfl rfl rfl (fail_spec (GV t u) 132 s _ _ (t 3) (u 3)) rfl rfl rfl rfl ?_;refine J _ _ ?_;simp only [numberF,numV,numBad,ha,eqW,isD,bz,h1,h2,h3,h4] at hG;subst hG;exact ⟨[0,1],_,rfl,rfl,rfl,rfl,rfl⟩
 refine awp_skip ?_;refine rgs fun E K J O=>?_;show aCall _ _ _ _ _ _ _
 have hs:s.size<4611686018427387904:=by omega
 refine aS [0] (nextP_spec _ s p hs) ?_;refine O _ (aN [3] rfl rfl ?_);clear O J K E;refine rz [2] ?_;refine awp_ret ?_;simp only [numberF,numV,numBad,ha,eqW,isD,bz,h1,h2,h3,h4] at hG;subst hG;exact ⟨_,[0],_,[encI _],rfl,rfl,rfl,rfl,rfl,(by first|exact PWs.refl _|(refine PWs.cons (PW.d ?_) PWs.nil;repeat (first|exact DW.refl _|refine DW.agg ?_|refine DWs.cons ?_ ?_|exact DWs.nil|exact DW.nil _))),rfl⟩
theorem numberP_syn(s:ByteArray)(p:PS s)(hs:s.size≤4000)(ha:Lib.atoiAll p.w.data.toList=Lib.atoiAll []):PSpec t u 137 [.box 0 0] s p encI (numberF s p):=by
 cases hz:Lib.atoiAll p.w.data.toList with
 |ok v=>rw [hz] at ha;cases ha
 |range=>rw [hz] at ha;cases ha
 |_=>
  rw [hz] at ha;have ha:=hz;intro hne;obtain ⟨r,hG⟩:∃r,numberF s p=r:=⟨_,rfl⟩;rw [hG] at hne ⊢
  refine spec_of_awp2 TT_ok (N:=57) Tryz.func137 rfl (by rfl) ((by cases r <;> simp [rowsR] at hne ⊢)) rfl ?_
  refine rz [0] ?_;refine rgs fun E K J O=>?_;show aCall _ _ _ _ _ _ _;refine aR [] rfl rfl rfl (show Spec _ _ _ _ _ (.ret (.tup [.d (num 0),.ifc 391 .any])) _ from by have:=atoi_spec t u p.w (by have:=p.ok;omega);unfold atoiF at this;rw [ha] at this;exact this) rfl rfl rfl rfl ?_;refine O _ (aN [0,3,4] rfl rfl ?_);clear O J K E;refine awp_seq ?_;refine rgs fun E K J O=>?_;refine onB_intro (fun h1=>?_) (fun h1=>?_)
  ·refine O _ (aN [0,3,50] rfl rfl ?_);clear O J K E;refine awp_cond rfl ?_;refine rgn fun E K J O=>?_;show aCall _ _ _ _ _ _ _
   refine aP [0] rfl rfl rfl (fail_spec (GV t u) 132 s _ _ (t 3) (u 3)) rfl rfl rfl rfl ?_;refine J _ _ ?_;simp only [numberF,numV,ha] at hG;subst hG;exact ⟨[0,1],_,rfl,rfl,rfl,rfl,rfl⟩
  have hpos:=size_pos h1;refine And.intro (by omega) (And.intro (by omega) ?_);refine aS [] (digit_spec _ _) ?_;refine onB_intro (fun h2=>?_) (fun h2=>?_)
  ·refine O _ (aN [0,3,50] rfl rfl ?_);clear O J K E;refine awp_cond rfl ?_;refine rgn fun E K J O=>?_;show aCall _ _ _ _ _ _ _
   refine aP [0] rfl rfl rfl (fail_spec (GV t u) 132 s _ _ (t 3) (u 3)) rfl rfl rfl rfl ?_;refine J _ _ ?_;simp only [numberF,numV,ha] at hG;subst hG;exact ⟨[0,1],_,rfl,rfl,rfl,rfl,rfl⟩
  refine onB_intro (fun h3=>?_) (fun h3=>?_)
  ·refine And.intro (by omega) (And.intro (by omega) ?_)
   refine onB_intro (fun h4=>?_) (fun h4=>?_)
   ·refine O _ (aN [0,3,50] rfl rfl ?_);clear O J K E;refine awp_cond rfl ?_;refine rgn fun E K J O=>?_;show aCall _ _ _ _ _ _ _
    refine aP [0] rfl rfl rfl (fail_spec (GV t u) 132 s _ _ (t 3) (u 3)) rfl rfl rfl rfl ?_;refine J _ _ ?_;simp only [numberF,numV,ha] at hG;subst hG;exact ⟨[0,1],_,rfl,rfl,rfl,rfl,rfl⟩
   refine O _ (aN [0,3,50] rfl rfl ?_);clear O J K E;refine awp_cond rfl ?_;refine rgn fun E K J O=>?_;show aCall _ _ _ _ _ _ _;refine aP [0] rfl rfl rfl (fail_spec (GV t u) 132 s _ _ (t 3) (u 3)) rfl rfl rfl rfl ?_;refine J _ _ ?_;simp only [numberF,numV,ha] at hG;subst hG;exact ⟨[0,1],_,rfl,rfl,rfl,rfl,rfl⟩
  refine O _ (aN [0,3,50] rfl rfl ?_);clear O J K E;refine awp_cond rfl ?_;refine rgn fun E K J O=>?_;show aCall _ _ _ _ _ _ _;refine aP [0] rfl rfl rfl (fail_spec (GV t u) 132 s _ _ (t 3) (u 3)) rfl rfl rfl rfl ?_;refine J _ _ ?_;simp only [numberF,numV,ha] at hG;subst hG;exact ⟨[0,1],_,rfl,rfl,rfl,rfl,rfl⟩
theorem numberP_rng(s:ByteArray)(p:PS s)(hs:s.size≤4000)(ha:Lib.atoiAll p.w.data.toList=.range):PSpec t u 137 [.box 0 0] s p encI (numberF s p):=by
 intro hne;obtain ⟨r,hG⟩:∃r,numberF s p=r:=⟨_,rfl⟩;rw [hG] at hne ⊢
 refine spec_of_awp2 TT_ok (N:=57) Tryz.func137 rfl (by rfl) ((by cases r <;> simp [rowsR] at hne ⊢)) rfl ?_
 refine rz [0] ?_;refine rgs fun E K J O=>?_;show aCall _ _ _ _ _ _ _;refine aR [] rfl rfl rfl (show Spec _ _ _ _ _ (.ret (.tup [.d (num (Lib.atoiSat p.w.data.toList)),.ifc 391 .any])) _ from by have:=atoi_spec t u p.w (by have:=p.ok;omega);unfold atoiF at this;rw [ha] at this;exact this) rfl rfl rfl rfl ?_;refine O _ (aN [0,3,4] rfl rfl ?_);clear O J K E;refine awp_seq ?_;refine rgs fun E K J O=>?_;refine onB_intro (fun h1=>?_) (fun h1=>?_)
 ·refine O _ (aN [0,3,50] rfl rfl ?_);clear O J K E;refine awp_cond rfl ?_;refine rgn fun E K J O=>?_;show aCall _ _ _ _ _ _ _
  refine aP [0] rfl rfl rfl (fail_spec (GV t u) 132 s _ _ (t 3) (u 3)) rfl rfl rfl rfl ?_;refine J _ _ ?_;simp only [numberF,numV,ha] at hG;subst hG;exact ⟨[0,1],_,rfl,rfl,rfl,rfl,rfl⟩
 have hpos:=size_pos h1;refine And.intro (by omega) (And.intro (by omega) ?_);refine aS [] (digit_spec _ _) ?_;refine onB_intro (fun h2=>?_) (fun h2=>?_)
 ·refine O _ (aN [0,3,50] rfl rfl ?_);clear O J K E;refine awp_cond rfl ?_;refine rgn fun E K J O=>?_;show aCall _ _ _ _ _ _ _
  refine aP [0] rfl rfl rfl (fail_spec (GV t u) 132 s _ _ (t 3) (u 3)) rfl rfl rfl rfl ?_;refine J _ _ ?_;simp only [numberF,numV,ha] at hG;subst hG;exact ⟨[0,1],_,rfl,rfl,rfl,rfl,rfl⟩
 refine onB_intro (fun h3=>?_) (fun h3=>?_)
 ·refine And.intro (by omega) (And.intro (by omega) ?_)
  refine onB_intro (fun h4=>?_) (fun h4=>?_)
  ·refine O _ (aN [0,3,50] rfl rfl ?_);clear O J K E;refine awp_cond rfl ?_;refine rgn fun E K J O=>?_;show aCall _ _ _ _ _ _ _
   refine aP [0] rfl rfl rfl (fail_spec (GV t u) 132 s _ _ (t 3) (u 3)) rfl rfl rfl rfl ?_;refine J _ _ ?_;simp only [numberF,numV,ha] at hG;subst hG;exact ⟨[0,1],_,rfl,rfl,rfl,rfl,rfl⟩
  refine O _ (aN [0,3,50] rfl rfl ?_);clear O J K E;refine awp_cond rfl ?_;refine rgn fun E K J O=>?_;show aCall _ _ _ _ _ _ _;refine aP [0] rfl rfl rfl (fail_spec (GV t u) 132 s _ _ (t 3) (u 3)) rfl rfl rfl rfl ?_;refine J _ _ ?_;simp only [numberF,numV,ha] at hG;subst hG;exact ⟨[0,1],_,rfl,rfl,rfl,rfl,rfl⟩
 refine O _ (aN [0,3,50] rfl rfl ?_);clear O J K E;refine awp_cond rfl ?_;refine rgn fun E K J O=>?_;show aCall _ _ _ _ _ _ _;refine aP [0] rfl rfl rfl (fail_spec (GV t u) 132 s _ _ (t 3) (u 3)) rfl rfl rfl rfl ?_;refine J _ _ ?_;simp only [numberF,numV,ha] at hG;subst hG;exact ⟨[0,1],_,rfl,rfl,rfl,rfl,rfl⟩
theorem numberP_spec(s:ByteArray)(p:PS s)(hs:s.size≤4000):PSpec t u 137 [.box 0 0] s p encI (numberF s p):=by
 cases ha:Lib.atoiAll p.w.data.toList with
 |ok v=>exact numberP_ok t u s p hs v ha
 |range=>exact numberP_rng t u s p hs ha
 |_=>exact numberP_syn t u s p hs ha
end
end Go.Abs
end
section
namespace Go.Abs
open Go Go.Proofs
attribute [local irreducible] aCall AWp Sub Spec
mutual
def factorF(s:ByteArray):Nat→Int→PS s→R s Ex
 |0,_,_=>.out
 |n+1,d,p=>match eqW p.w ⟨#[45]⟩ with
  |true=>(deepF s d p).bind fun d1 q=>(factorF s n d1 (nx s q)).bind fun e q=>.ok (.mk ⟨#[110,101,103]⟩ 0 ⟨#[]⟩ [e]) q
  |false=>match eqW p.w ⟨#[40]⟩ with
   |true=>(deepF s d p).bind fun d1 q=>(termF s n d1 (nx s q)).bind fun e q=>(takeF s ⟨#[41]⟩ q).bind fun _ q=>.ok e q
   |false=>match (!eqW p.w ⟨#[]⟩&&isD (byteAt p.w 0)) with
    |true=>(numberF s p).bind fun k q=>.ok (.mk ⟨#[110,117,109]⟩ k ⟨#[]⟩ []) q
    |false=>(nameF s p).bind fun m q=>match eqW q.w ⟨#[91]⟩ with
     |true=>(deepF s d q).bind fun d1 q=>(termF s n d1 (nx s q)).bind fun e q=>(takeF s ⟨#[93]⟩ q).bind fun _ q=>.ok (.mk ⟨#[97,116]⟩ 0 m [e]) q
     |false=>.ok (.mk ⟨#[118,97,114]⟩ 0 m []) q
def productF(s:ByteArray):Nat→Int→PS s→R s Ex
 |0,_,_=>.out
 |n+1,d,p=>(factorF s n d p).bind fun e q=>prodL s n d e q
def prodL(s:ByteArray):Nat→Int→Ex→PS s→R s Ex
 |0,_,_,_=>.out
 |n+1,d,e,p=>match (eqW p.w ⟨#[42]⟩||eqW p.w ⟨#[47]⟩||eqW p.w ⟨#[37]⟩) with
  |true=>(factorF s n d (nx s p)).bind fun f q=>prodL s n d (.mk p.w 0 ⟨#[]⟩ [e,f]) q
  |false=>.ok e p
def termF(s:ByteArray):Nat→Int→PS s→R s Ex
 |0,_,_=>.out
 |n+1,d,p=>(productF s n d p).bind fun e q=>termL s n d e q
def termL(s:ByteArray):Nat→Int→Ex→PS s→R s Ex
 |0,_,_,_=>.out
 |n+1,d,e,p=>match (eqW p.w ⟨#[43]⟩||eqW p.w ⟨#[45]⟩) with
  |true=>(productF s n d (nx s p)).bind fun f q=>termL s n d (.mk p.w 0 ⟨#[]⟩ [e,f]) q
  |false=>.ok e p
end
def zE:List PV:=[.d (str ⟨#[]⟩),.d (num 0),.d (str ⟨#[]⟩),.d (.s (.slice none 0 0))]
def cE(op:ByteArray)(n:Int)(m:ByteArray)(l:List Ex):List PV:=[.d (str op),.d (num n),.d (str m),.d (.sl 4 (exs l))]
section
variable (t:Nat→TypeId) (u:Nat→Value)
def FacOk(s:ByteArray)(n:Nat):Prop:=∀(d:Int) (p:PS s),PSpec t u 246 [.box 0 0,.d (num d)] s p encE (factorF s n d p)
def ProdOk(s:ByteArray)(n:Nat):Prop:=∀(d:Int) (p:PS s),PSpec t u 198 [.box 0 0,.d (num d)] s p encE (productF s n d p)
def TermOk(s:ByteArray)(n:Nat):Prop:=∀(d:Int) (p:PS s),PSpec t u 140 [.box 0 0,.d (num d)] s p encE (termF s n d p)
def p198_5:Plan:=(.take 0 (.load 1 (.take 2 (.take 3 (.one 4 (.one 5 (.one 6 (.one 7 .done))))))))
theorem prod_step(s:ByteArray)(hs:s.size<4611686018427387904)(n:Nat)(ih:∀m,m≤n→FacOk t u s m):ProdOk t u s (n+1):=by
 intro d p hne;obtain ⟨r,hG⟩:∃r,productF s (n+1) d p=r:=⟨_,rfl⟩;rw [hG] at hne ⊢
 refine spec_of_awp2 TT_ok (N:=43) Tryz.func198 rfl (by rfl) ((by cases r <;> simp [rowsR] at hne ⊢)) rfl ?_
 refine rz [0,1,4] ?_;refine rgs fun E K J O=>?_;show aCall _ _ _ _ _ _ _;have sp1:=ih n (by omega) d p
 cases hr1:factorF s n d p with
 |out=>
  simp only [productF,R.bind,hr1] at hG;exact absurd hG.symm hne
 |bad q1 c1=>
  rw [hr1] at sp1;refine aP [0] rfl rfl rfl (sp1 nofun) rfl rfl rfl rfl ?_;refine J _ _ ?_;simp only [productF,R.bind,hr1] at hG;subst hG;exact ⟨[0,2],_,rfl,rfl,rfl,rfl,rfl⟩
 |ok a1 q1=>
  obtain ⟨o1,n1,m1,l1⟩:=a1;rw [hr1] at sp1;refine aS [0] (sp1 nofun) ?_;refine O _ (aN [0,1,4,5] rfl rfl ?_);clear O J K E;refine awp_seq ?_;refine awp_block ?_;simp only [productF,R.bind,hr1] at hG;clear hr1 sp1;refine awp_loop (fun k Y=>∃o1 n1 m1 l1 q,k≤n∧prodL s k d (.mk o1 n1 m1 l1) q=r∧Y=⟨[(0,.box 0 0),(1,.d (num d)),(4,.box 1 0),(5,.box 2 0)],[rd s q,.box 157 zE,.box 157 (cE o1 n1 m1 l1)]⟩) (n) (⟨_,_,_,_,_,Nat.le_refl _,hG,rfl⟩) ?_;clear hG q1 o1 n1 m1 l1;rintro k Y ⟨o1,n1,m1,l1,q,hk,hG,rfl⟩
  cases k with
  |zero=>simp only [prodL] at hG;exact absurd hG.symm hne
  |succ m=>
   refine awp_seq ?_;refine rgs fun E K J O=>?_;refine onB_intro (fun h1=>?_) (fun h1=>?_)
   ·refine O _ (aN [0,1,4,5,28] rfl rfl ?_);clear O J K E;refine awp_cond rfl ?_;refine awp_skip ?_;refine awp_block ?_;refine rz [0,1,4,5,6] ?_;refine rgs fun E K J O=>?_
    refine aS [0] (nextP_spec _ s q hs) ?_;refine O _ (aN [0,1,4,5,6] rfl rfl ?_);clear O J K E;refine (awp_draw TT_ok mixed p198_5 [7] (fun i=>Nat.beq i 2) (by kernel_rfl) fun E K J O=>?_)
    show aCall _ _ _ _ _ _ _
    have sp2:=ih m (by omega) d (nx s q)
    cases hr2:factorF s m d (nx s q) with
    |out=>
     simp only [prodL,eqW,bz,R.bind,h1,hr2] at hG;exact absurd hG.symm hne
    |bad q2 c2=>
     rw [hr2] at sp2;refine aP [0] rfl rfl rfl (sp2 nofun) rfl rfl rfl rfl ?_;refine J _ _ ?_;simp only [prodL,eqW,bz,R.bind,h1,hr2] at hG;subst hG;exact ⟨[0,3],_,rfl,rfl,rfl,rfl,rfl⟩
    |ok a2 q2=>
     obtain ⟨o2,n2,m2,l2⟩:=a2;rw [hr2] at sp2;refine aS [0] (sp2 nofun) ?_;refine O _ ?_;clear O J K E;simp only [prodL,eqW,bz,R.bind,h1,hr2] at hG;exact ⟨m,Nat.lt_succ_self m,_,sub_norm (slots:=[0,1,4,5]) rfl rfl,_,_,_,_,_,by omega,hG,rfl⟩
   refine onB_intro (fun h2=>?_) (fun h2=>?_)
   ·refine O _ (aN [0,1,4,5,28] rfl rfl ?_);clear O J K E;refine awp_cond rfl ?_;refine awp_skip ?_;refine awp_block ?_;refine rz [0,1,4,5,6] ?_;refine rgs fun E K J O=>?_
    refine aS [0] (nextP_spec _ s q hs) ?_;refine O _ (aN [0,1,4,5,6] rfl rfl ?_);clear O J K E;refine (awp_draw TT_ok mixed p198_5 [7] (fun i=>Nat.beq i 2) (by kernel_rfl) fun E K J O=>?_)
    show aCall _ _ _ _ _ _ _
    have sp2:=ih m (by omega) d (nx s q)
    cases hr2:factorF s m d (nx s q) with
    |out=>
     simp only [prodL,eqW,bz,R.bind,h1,h2,hr2] at hG;exact absurd hG.symm hne
    |bad q2 c2=>
     rw [hr2] at sp2;refine aP [0] rfl rfl rfl (sp2 nofun) rfl rfl rfl rfl ?_;refine J _ _ ?_;simp only [prodL,eqW,bz,R.bind,h1,h2,hr2] at hG;subst hG;exact ⟨[0,3],_,rfl,rfl,rfl,rfl,rfl⟩
    |ok a2 q2=>
     obtain ⟨o2,n2,m2,l2⟩:=a2;rw [hr2] at sp2;refine aS [0] (sp2 nofun) ?_;refine O _ ?_;clear O J K E;simp only [prodL,eqW,bz,R.bind,h1,h2,hr2] at hG;exact ⟨m,Nat.lt_succ_self m,_,sub_norm (slots:=[0,1,4,5]) rfl rfl,_,_,_,_,_,by omega,hG,rfl⟩
   refine O _ (aN [0,1,4,5,28] rfl rfl ?_);clear O J K E;refine awp_cond2 rfl (onB_intro (fun h3=>?_) (fun h3=>?_))
   ·refine awp_skip ?_;refine awp_block ?_;refine rz [0,1,4,5,6] ?_;refine rgs fun E K J O=>?_
    refine aS [0] (nextP_spec _ s q hs) ?_;refine O _ (aN [0,1,4,5,6] rfl rfl ?_);clear O J K E;refine (awp_draw TT_ok mixed p198_5 [7] (fun i=>Nat.beq i 2) (by kernel_rfl) fun E K J O=>?_)
    show aCall _ _ _ _ _ _ _
    have sp2:=ih m (by omega) d (nx s q)
    cases hr2:factorF s m d (nx s q) with
    |out=>
     simp only [prodL,eqW,bz,R.bind,h1,h2,h3,hr2] at hG;exact absurd hG.symm hne
    |bad q2 c2=>
     rw [hr2] at sp2;refine aP [0] rfl rfl rfl (sp2 nofun) rfl rfl rfl rfl ?_;refine J _ _ ?_;simp only [prodL,eqW,bz,R.bind,h1,h2,h3,hr2] at hG;subst hG;exact ⟨[0,3],_,rfl,rfl,rfl,rfl,rfl⟩
    |ok a2 q2=>
     obtain ⟨o2,n2,m2,l2⟩:=a2;rw [hr2] at sp2;refine aS [0] (sp2 nofun) ?_;refine O _ ?_;clear O J K E;simp only [prodL,eqW,bz,R.bind,h1,h2,h3,hr2] at hG;exact ⟨m,Nat.lt_succ_self m,_,sub_norm (slots:=[0,1,4,5]) rfl rfl,_,_,_,_,_,by omega,hG,rfl⟩
   refine awp_exit ?_;refine rz [4] ?_;refine awp_ret ?_;simp only [prodL,eqW,bz,h1,h2,h3] at hG;subst hG;exact ⟨_,[0],_,[encE _],rfl,rfl,rfl,rfl,rfl,(by first|exact PWs.refl _|(refine PWs.cons (PW.d ?_) PWs.nil;repeat (first|exact DW.refl _|refine DW.agg ?_|refine DWs.cons ?_ ?_|exact DWs.nil|exact DW.nil _))),rfl⟩
def p140_5:Plan:=(.take 0 (.load 1 (.take 2 (.take 3 (.one 4 (.one 5 (.one 6 (.one 7 .done))))))))
theorem term_step(s:ByteArray)(hs:s.size<4611686018427387904)(n:Nat)(ih:∀m,m≤n→ProdOk t u s m):TermOk t u s (n+1):=by
 intro d p hne;obtain ⟨r,hG⟩:∃r,termF s (n+1) d p=r:=⟨_,rfl⟩;rw [hG] at hne ⊢
 refine spec_of_awp2 TT_ok (N:=36) Tryz.func140 rfl (by rfl) ((by cases r <;> simp [rowsR] at hne ⊢)) rfl ?_
 refine rz [0,1,4] ?_;refine rgs fun E K J O=>?_;show aCall _ _ _ _ _ _ _;have sp1:=ih n (by omega) d p
 cases hr1:productF s n d p with
 |out=>
  simp only [termF,R.bind,hr1] at hG;exact absurd hG.symm hne
 |bad q1 c1=>
  rw [hr1] at sp1;refine aP [0] rfl rfl rfl (sp1 nofun) rfl rfl rfl rfl ?_;refine J _ _ ?_;simp only [termF,R.bind,hr1] at hG;subst hG;exact ⟨[0,2],_,rfl,rfl,rfl,rfl,rfl⟩
 |ok a1 q1=>
  obtain ⟨o1,n1,m1,l1⟩:=a1;rw [hr1] at sp1;refine aS [0] (sp1 nofun) ?_;refine O _ (aN [0,1,4,5] rfl rfl ?_);clear O J K E;refine awp_seq ?_;refine awp_block ?_;simp only [termF,R.bind,hr1] at hG;clear hr1 sp1;refine awp_loop (fun k Y=>∃o1 n1 m1 l1 q,k≤n∧termL s k d (.mk o1 n1 m1 l1) q=r∧Y=⟨[(0,.box 0 0),(1,.d (num d)),(4,.box 1 0),(5,.box 2 0)],[rd s q,.box 157 zE,.box 157 (cE o1 n1 m1 l1)]⟩) (n) (⟨_,_,_,_,_,Nat.le_refl _,hG,rfl⟩) ?_;clear hG q1 o1 n1 m1 l1;rintro k Y ⟨o1,n1,m1,l1,q,hk,hG,rfl⟩
  cases k with
  |zero=>simp only [termL] at hG;exact absurd hG.symm hne
  |succ m=>
   refine awp_seq ?_;refine rgs fun E K J O=>?_;refine onB_intro (fun h1=>?_) (fun h1=>?_)
   ·refine O _ (aN [0,1,4,5,21] rfl rfl ?_);clear O J K E;refine awp_cond rfl ?_;refine awp_skip ?_;refine awp_block ?_;refine rz [0,1,4,5,6] ?_;refine rgs fun E K J O=>?_
    refine aS [0] (nextP_spec _ s q hs) ?_;refine O _ (aN [0,1,4,5,6] rfl rfl ?_);clear O J K E;refine (awp_draw TT_ok mixed p140_5 [7] (fun i=>Nat.beq i 2) (by kernel_rfl) fun E K J O=>?_)
    show aCall _ _ _ _ _ _ _
    have sp2:=ih m (by omega) d (nx s q)
    cases hr2:productF s m d (nx s q) with
    |out=>
     simp only [termL,eqW,bz,R.bind,h1,hr2] at hG;exact absurd hG.symm hne
    |bad q2 c2=>
     rw [hr2] at sp2;refine aP [0] rfl rfl rfl (sp2 nofun) rfl rfl rfl rfl ?_;refine J _ _ ?_;simp only [termL,eqW,bz,R.bind,h1,hr2] at hG;subst hG;exact ⟨[0,3],_,rfl,rfl,rfl,rfl,rfl⟩
    |ok a2 q2=>
     obtain ⟨o2,n2,m2,l2⟩:=a2;rw [hr2] at sp2;refine aS [0] (sp2 nofun) ?_;refine O _ ?_;clear O J K E;simp only [termL,eqW,bz,R.bind,h1,hr2] at hG;exact ⟨m,Nat.lt_succ_self m,_,sub_norm (slots:=[0,1,4,5]) rfl rfl,_,_,_,_,_,by omega,hG,rfl⟩
   refine O _ (aN [0,1,4,5,21] rfl rfl ?_);clear O J K E;refine awp_cond2 rfl (onB_intro (fun h2=>?_) (fun h2=>?_))
   ·refine awp_skip ?_;refine awp_block ?_;refine rz [0,1,4,5,6] ?_;refine rgs fun E K J O=>?_
    refine aS [0] (nextP_spec _ s q hs) ?_;refine O _ (aN [0,1,4,5,6] rfl rfl ?_);clear O J K E;refine (awp_draw TT_ok mixed p140_5 [7] (fun i=>Nat.beq i 2) (by kernel_rfl) fun E K J O=>?_)
    show aCall _ _ _ _ _ _ _
    have sp2:=ih m (by omega) d (nx s q)
    cases hr2:productF s m d (nx s q) with
    |out=>
     simp only [termL,eqW,bz,R.bind,h1,h2,hr2] at hG;exact absurd hG.symm hne
    |bad q2 c2=>
     rw [hr2] at sp2;refine aP [0] rfl rfl rfl (sp2 nofun) rfl rfl rfl rfl ?_;refine J _ _ ?_;simp only [termL,eqW,bz,R.bind,h1,h2,hr2] at hG;subst hG;exact ⟨[0,3],_,rfl,rfl,rfl,rfl,rfl⟩
    |ok a2 q2=>
     obtain ⟨o2,n2,m2,l2⟩:=a2;rw [hr2] at sp2;refine aS [0] (sp2 nofun) ?_;refine O _ ?_;clear O J K E;simp only [termL,eqW,bz,R.bind,h1,h2,hr2] at hG;exact ⟨m,Nat.lt_succ_self m,_,sub_norm (slots:=[0,1,4,5]) rfl rfl,_,_,_,_,_,by omega,hG,rfl⟩
   refine awp_exit ?_;refine rz [4] ?_;refine awp_ret ?_;simp only [termL,eqW,bz,h1,h2] at hG;subst hG;exact ⟨_,[0],_,[encE _],rfl,rfl,rfl,rfl,rfl,(by first|exact PWs.refl _|(refine PWs.cons (PW.d ?_) PWs.nil;repeat (first|exact DW.refl _|refine DW.agg ?_|refine DWs.cons ?_ ?_|exact DWs.nil|exact DW.nil _))),rfl⟩
def p246_17:Plan:=(.take 0 (.load 1 (.take 2 (.take 3 (.one 4 (.one 5 (.one 6 (.one 7 .done))))))))
theorem fac_step(s:ByteArray)(hs4:s.size≤4000)(n:Nat)(ihF:∀m,m≤n→FacOk t u s m)(ihT:∀m,m≤n→TermOk t u s m):FacOk t u s (n+1):=by
 intro d p hne;obtain ⟨r,hG⟩:∃r,factorF s (n+1) d p=r:=⟨_,rfl⟩;rw [hG] at hne ⊢
 have hs:s.size<4611686018427387904:=by omega
 refine spec_of_awp2 TT_ok (N:=83) Tryz.func246 rfl (by rfl) ((by cases r <;> simp [rowsR] at hne ⊢)) rfl ?_
 refine rz [0,1,4] ?_;refine awp_seq ?_;refine awp_block ?_;refine rz [0,1,4,10] ?_;refine awp_cond2 rfl (onB_intro (fun h1=>?_) (fun h1=>?_))
 ·refine rgs fun E K J O=>?_;show aCall _ _ _ _ _ _ _
  have sp1:=deepP_spec t u s p d
  cases hr1:deepF s d p with
  |out=>
   simp only [factorF,eqW,R.bind,h1,hr1] at hG;exact absurd hG.symm hne
  |bad q1 c1=>
   rw [hr1] at sp1;refine aP [0] rfl rfl rfl (sp1 nofun) rfl rfl rfl rfl ?_;refine J _ _ ?_;simp only [factorF,eqW,R.bind,h1,hr1] at hG;subst hG;exact ⟨[0,2],_,rfl,rfl,rfl,rfl,rfl⟩
  |ok a1 q1=>
   rw [hr1] at sp1;refine aS [0] (sp1 nofun) ?_;refine O _ (aN [0,4,5] rfl rfl ?_);clear O J K E;refine rgs fun E K J O=>?_;refine aS [0] (nextP_spec _ s q1 hs) ?_;refine O _ (aN [0,4,5] rfl rfl ?_);clear O J K E;refine rgs fun E K J O=>?_;show aCall _ _ _ _ _ _ _;have sp2:=ihF n (by omega) a1 (nx s q1)
   cases hr2:factorF s n a1 (nx s q1) with
   |out=>
    simp only [factorF,eqW,R.bind,h1,hr1,hr2] at hG;exact absurd hG.symm hne
   |bad q2 c2=>
    rw [hr2] at sp2;refine aP [0] rfl rfl rfl (sp2 nofun) rfl rfl rfl rfl ?_;refine J _ _ ?_;simp only [factorF,eqW,R.bind,h1,hr1,hr2] at hG;subst hG;exact ⟨[0,2],_,rfl,rfl,rfl,rfl,rfl⟩
   |ok a2 q2=>
    obtain ⟨o2,n2,m2,l2⟩:=a2;rw [hr2] at sp2;refine aS [0] (sp2 nofun) ?_;refine O _ (aN [4] rfl rfl ?_);clear O J K E;refine awp_ret ?_;simp only [factorF,eqW,R.bind,h1,hr1,hr2] at hG;subst hG;exact ⟨_,[0],_,[encE _],rfl,rfl,rfl,rfl,rfl,(by first|exact PWs.refl _|(refine PWs.cons (PW.d ?_) PWs.nil;repeat (first|exact DW.refl _|refine DW.agg ?_|refine DWs.cons ?_ ?_|exact DWs.nil|exact DW.nil _))),rfl⟩
 refine rz [0,1,4,26] ?_;refine awp_cond2 rfl (onB_intro (fun h2=>?_) (fun h2=>?_))
 ·refine rgs fun E K J O=>?_;show aCall _ _ _ _ _ _ _
  have sp1:=deepP_spec t u s p d
  cases hr1:deepF s d p with
  |out=>
   simp only [factorF,eqW,R.bind,h1,h2,hr1] at hG;exact absurd hG.symm hne
  |bad q1 c1=>
   rw [hr1] at sp1;refine aP [0] rfl rfl rfl (sp1 nofun) rfl rfl rfl rfl ?_;refine J _ _ ?_;simp only [factorF,eqW,R.bind,h1,h2,hr1] at hG;subst hG;exact ⟨[0,2],_,rfl,rfl,rfl,rfl,rfl⟩
  |ok a1 q1=>
   rw [hr1] at sp1;refine aS [0] (sp1 nofun) ?_;refine O _ (aN [0,4,6] rfl rfl ?_);clear O J K E;refine rgs fun E K J O=>?_;refine aS [0] (nextP_spec _ s q1 hs) ?_;refine O _ (aN [0,4,6] rfl rfl ?_);clear O J K E;refine rgs fun E K J O=>?_;show aCall _ _ _ _ _ _ _;have sp2:=ihT n (by omega) a1 (nx s q1)
   cases hr2:termF s n a1 (nx s q1) with
   |out=>
    simp only [factorF,eqW,R.bind,h1,h2,hr1,hr2] at hG;exact absurd hG.symm hne
   |bad q2 c2=>
    rw [hr2] at sp2;refine aP [0] rfl rfl rfl (sp2 nofun) rfl rfl rfl rfl ?_;refine J _ _ ?_;simp only [factorF,eqW,R.bind,h1,h2,hr1,hr2] at hG;subst hG;exact ⟨[0,2],_,rfl,rfl,rfl,rfl,rfl⟩
   |ok a2 q2=>
    obtain ⟨o2,n2,m2,l2⟩:=a2;rw [hr2] at sp2;refine aS [0] (sp2 nofun) ?_;refine O _ (aN [0,4,7] rfl rfl ?_);clear O J K E;refine rgs fun E K J O=>?_;show aCall _ _ _ _ _ _ _;have sp3:=takeP_spec t u s ⟨#[41]⟩ q2 hs
    cases hr3:takeF s ⟨#[41]⟩ q2 with
    |out=>
     simp only [factorF,eqW,R.bind,h1,h2,hr1,hr2,hr3] at hG;exact absurd hG.symm hne
    |bad q3 c3=>
     rw [hr3] at sp3;refine aP [0] rfl rfl rfl (sp3 nofun) rfl rfl rfl rfl ?_;refine J _ _ ?_;simp only [factorF,eqW,R.bind,h1,h2,hr1,hr2,hr3] at hG;subst hG;exact ⟨[0,3],_,rfl,rfl,rfl,rfl,rfl⟩
    |ok a3 q3=>
     rw [hr3] at sp3;refine aS [0] (sp3 nofun) ?_;refine O _ (aN [4,7] rfl rfl ?_);clear O J K E;refine rz [4] ?_;refine awp_ret ?_;simp only [factorF,eqW,R.bind,h1,h2,hr1,hr2,hr3] at hG;subst hG;exact ⟨_,[0],_,[encE _],rfl,rfl,rfl,rfl,rfl,(by first|exact PWs.refl _|(refine PWs.cons (PW.d ?_) PWs.nil;repeat (first|exact DW.refl _|refine DW.agg ?_|refine DWs.cons ?_ ?_|exact DWs.nil|exact DW.nil _))),rfl⟩
 refine rgs fun E K J O=>?_;refine onB_intro (fun h3=>?_) (fun h3=>?_)
 ·have hpos:=size_pos (by simpa using h3)
  refine And.intro (by omega) (And.intro (by omega) ?_);refine aS [] (digit_spec _ _) ?_;refine O _ (aN [0,1,4,43] rfl rfl ?_);clear O J K E;refine awp_cond2 rfl (onB_intro (fun h4=>?_) (fun h4=>?_))
  ·refine rgs fun E K J O=>?_;show aCall _ _ _ _ _ _ _
   have sp1:=numberP_spec t u s p hs4
   cases hr1:numberF s p with
   |out=>
    simp only [factorF,eqW,isD,bz,R.bind,h1,h2,h3,h4,hr1] at hG;exact absurd hG.symm hne
   |bad q1 c1=>
    rw [hr1] at sp1;refine aP [0] rfl rfl rfl (sp1 nofun) rfl rfl rfl rfl ?_;refine J _ _ ?_;simp only [factorF,eqW,isD,bz,R.bind,h1,h2,h3,h4,hr1] at hG;subst hG;exact ⟨[0,2],_,rfl,rfl,rfl,rfl,rfl⟩
   |ok a1 q1=>
    rw [hr1] at sp1;refine aS [0] (sp1 nofun) ?_;refine O _ (aN [4] rfl rfl ?_);clear O J K E;refine awp_ret ?_;simp only [factorF,eqW,isD,bz,R.bind,h1,h2,h3,h4,hr1] at hG;subst hG;exact ⟨_,[0],_,[encE _],rfl,rfl,rfl,rfl,rfl,(by first|exact PWs.refl _|(refine PWs.cons (PW.d ?_) PWs.nil;repeat (first|exact DW.refl _|refine DW.agg ?_|refine DWs.cons ?_ ?_|exact DWs.nil|exact DW.nil _))),rfl⟩
  refine awp_skip ?_;refine rgs fun E K J O=>?_;show aCall _ _ _ _ _ _ _;have sp1:=nameP_spec t u s p hs
  cases hr1:nameF s p with
  |out=>
   simp only [factorF,eqW,isD,bz,R.bind,h1,h2,h3,h4,hr1] at hG;exact absurd hG.symm hne
  |bad q1 c1=>
   rw [hr1] at sp1;refine aP [0] rfl rfl rfl (sp1 nofun) rfl rfl rfl rfl ?_;refine J _ _ ?_;simp only [factorF,eqW,isD,bz,R.bind,h1,h2,h3,h4,hr1] at hG;subst hG;exact ⟨[0,2],_,rfl,rfl,rfl,rfl,rfl⟩
  |ok a1 q1=>
   rw [hr1] at sp1;refine aS [0] (sp1 nofun) ?_;refine O _ (aN [0,1,4,8] rfl rfl ?_);clear O J K E;refine awp_seq ?_;refine rz [0,1,4,8,67] ?_;refine awp_cond2 rfl (onB_intro (fun h5=>?_) (fun h5=>?_))
   ·refine rgs fun E K J O=>?_;show aCall _ _ _ _ _ _ _
    have sp2:=deepP_spec t u s q1 d
    cases hr2:deepF s d q1 with
    |out=>
     simp only [factorF,eqW,isD,bz,R.bind,h1,h2,h3,h4,hr1,h5,hr2] at hG;exact absurd hG.symm hne
    |bad q2 c2=>
     rw [hr2] at sp2;refine aP [0] rfl rfl rfl (sp2 nofun) rfl rfl rfl rfl ?_;refine J _ _ ?_;simp only [factorF,eqW,isD,bz,R.bind,h1,h2,h3,h4,hr1,h5,hr2] at hG;subst hG;exact ⟨[0,3],_,rfl,rfl,rfl,rfl,rfl⟩
    |ok a2 q2=>
     rw [hr2] at sp2;refine aS [0] (sp2 nofun) ?_;refine O _ (aN [0,4,8,9] rfl rfl ?_);clear O J K E;refine rgs fun E K J O=>?_;refine aS [0] (nextP_spec _ s q2 hs) ?_;refine O _ (aN [0,4,8,9] rfl rfl ?_);clear O J K E;refine awp_seq ?_;refine (awp_draw TT_ok mixed p246_17 [7] (fun i=>Nat.beq i 2) (by kernel_rfl) fun E K J O=>?_)
     show aCall _ _ _ _ _ _ _
     have sp3:=ihT n (by omega) a2 (nx s q2)
     cases hr3:termF s n a2 (nx s q2) with
     |out=>
      simp only [factorF,eqW,isD,bz,R.bind,h1,h2,h3,h4,hr1,h5,hr2,hr3] at hG;exact absurd hG.symm hne
     |bad q3 c3=>
      rw [hr3] at sp3;refine aP [0] rfl rfl rfl (sp3 nofun) rfl rfl rfl rfl ?_;refine J _ _ ?_;simp only [factorF,eqW,isD,bz,R.bind,h1,h2,h3,h4,hr1,h5,hr2,hr3] at hG;subst hG;exact ⟨[0,3],_,rfl,rfl,rfl,rfl,rfl⟩
     |ok a3 q3=>
      obtain ⟨o3,n3,m3,l3⟩:=a3;rw [hr3] at sp3;refine aS [0] (sp3 nofun) ?_;refine O _ (aN [0,4,8] rfl rfl ?_);clear O J K E;refine rgn fun E K J O=>?_;show aCall _ _ _ _ _ _ _;have sp4:=takeP_spec t u s ⟨#[93]⟩ q3 hs
      cases hr4:takeF s ⟨#[93]⟩ q3 with
      |out=>
       simp only [factorF,eqW,isD,bz,R.bind,h1,h2,h3,h4,hr1,h5,hr2,hr3,hr4] at hG;exact absurd hG.symm hne
      |bad q4 c4=>
       rw [hr4] at sp4;refine aP [0] rfl rfl rfl (sp4 nofun) rfl rfl rfl rfl ?_;refine J _ _ ?_;simp only [factorF,eqW,isD,bz,R.bind,h1,h2,h3,h4,hr1,h5,hr2,hr3,hr4] at hG;subst hG;exact ⟨[0,3],_,rfl,rfl,rfl,rfl,rfl⟩
      |ok a4 q4=>
       rw [hr4] at sp4;refine aS [0] (sp4 nofun) ?_;refine O _ (aN [4,8] rfl rfl ?_);clear O J K E;refine rz [4] ?_;refine awp_ret ?_;simp only [factorF,eqW,isD,bz,R.bind,h1,h2,h3,h4,hr1,h5,hr2,hr3,hr4] at hG;subst hG;exact ⟨_,[0],_,[encE _],rfl,rfl,rfl,rfl,rfl,(by first|exact PWs.refl _|(refine PWs.cons (PW.d ?_) PWs.nil;repeat (first|exact DW.refl _|refine DW.agg ?_|refine DWs.cons ?_ ?_|exact DWs.nil|exact DW.nil _))),rfl⟩
   refine awp_skip ?_;refine rz [4] ?_;refine awp_ret ?_;simp only [factorF,eqW,isD,bz,R.bind,h1,h2,h3,h4,hr1,h5] at hG;subst hG;exact ⟨_,[0],_,[encE _],rfl,rfl,rfl,rfl,rfl,(by first|exact PWs.refl _|(refine PWs.cons (PW.d ?_) PWs.nil;repeat (first|exact DW.refl _|refine DW.agg ?_|refine DWs.cons ?_ ?_|exact DWs.nil|exact DW.nil _))),rfl⟩
 refine O _ (aN [0,1,4,43] rfl rfl ?_);clear O J K E;refine awp_cond rfl ?_;refine awp_skip ?_;refine rgs fun E K J O=>?_;show aCall _ _ _ _ _ _ _;have sp1:=nameP_spec t u s p hs
 cases hr1:nameF s p with
 |out=>
  simp only [factorF,eqW,isD,bz,R.bind,h1,h2,h3,hr1] at hG;exact absurd hG.symm hne
 |bad q1 c1=>
  rw [hr1] at sp1;refine aP [0] rfl rfl rfl (sp1 nofun) rfl rfl rfl rfl ?_;refine J _ _ ?_;simp only [factorF,eqW,isD,bz,R.bind,h1,h2,h3,hr1] at hG;subst hG;exact ⟨[0,2],_,rfl,rfl,rfl,rfl,rfl⟩
 |ok a1 q1=>
  rw [hr1] at sp1;refine aS [0] (sp1 nofun) ?_;refine O _ (aN [0,1,4,8] rfl rfl ?_);clear O J K E;refine awp_seq ?_;refine rz [0,1,4,8,67] ?_;refine awp_cond2 rfl (onB_intro (fun h4=>?_) (fun h4=>?_))
  ·refine rgs fun E K J O=>?_;show aCall _ _ _ _ _ _ _
   have sp2:=deepP_spec t u s q1 d
   cases hr2:deepF s d q1 with
   |out=>
    simp only [factorF,eqW,isD,bz,R.bind,h1,h2,h3,hr1,h4,hr2] at hG;exact absurd hG.symm hne
   |bad q2 c2=>
    rw [hr2] at sp2;refine aP [0] rfl rfl rfl (sp2 nofun) rfl rfl rfl rfl ?_;refine J _ _ ?_;simp only [factorF,eqW,isD,bz,R.bind,h1,h2,h3,hr1,h4,hr2] at hG;subst hG;exact ⟨[0,3],_,rfl,rfl,rfl,rfl,rfl⟩
   |ok a2 q2=>
    rw [hr2] at sp2;refine aS [0] (sp2 nofun) ?_;refine O _ (aN [0,4,8,9] rfl rfl ?_);clear O J K E;refine rgs fun E K J O=>?_;refine aS [0] (nextP_spec _ s q2 hs) ?_;refine O _ (aN [0,4,8,9] rfl rfl ?_);clear O J K E;refine awp_seq ?_;refine (awp_draw TT_ok mixed p246_17 [7] (fun i=>Nat.beq i 2) (by kernel_rfl) fun E K J O=>?_)
    show aCall _ _ _ _ _ _ _
    have sp3:=ihT n (by omega) a2 (nx s q2)
    cases hr3:termF s n a2 (nx s q2) with
    |out=>
     simp only [factorF,eqW,isD,bz,R.bind,h1,h2,h3,hr1,h4,hr2,hr3] at hG;exact absurd hG.symm hne
    |bad q3 c3=>
     rw [hr3] at sp3;refine aP [0] rfl rfl rfl (sp3 nofun) rfl rfl rfl rfl ?_;refine J _ _ ?_;simp only [factorF,eqW,isD,bz,R.bind,h1,h2,h3,hr1,h4,hr2,hr3] at hG;subst hG;exact ⟨[0,3],_,rfl,rfl,rfl,rfl,rfl⟩
    |ok a3 q3=>
     obtain ⟨o3,n3,m3,l3⟩:=a3;rw [hr3] at sp3;refine aS [0] (sp3 nofun) ?_;refine O _ (aN [0,4,8] rfl rfl ?_);clear O J K E;refine rgn fun E K J O=>?_;show aCall _ _ _ _ _ _ _;have sp4:=takeP_spec t u s ⟨#[93]⟩ q3 hs
     cases hr4:takeF s ⟨#[93]⟩ q3 with
     |out=>
      simp only [factorF,eqW,isD,bz,R.bind,h1,h2,h3,hr1,h4,hr2,hr3,hr4] at hG;exact absurd hG.symm hne
     |bad q4 c4=>
      rw [hr4] at sp4;refine aP [0] rfl rfl rfl (sp4 nofun) rfl rfl rfl rfl ?_;refine J _ _ ?_;simp only [factorF,eqW,isD,bz,R.bind,h1,h2,h3,hr1,h4,hr2,hr3,hr4] at hG;subst hG;exact ⟨[0,3],_,rfl,rfl,rfl,rfl,rfl⟩
     |ok a4 q4=>
      rw [hr4] at sp4;refine aS [0] (sp4 nofun) ?_;refine O _ (aN [4,8] rfl rfl ?_);clear O J K E;refine rz [4] ?_;refine awp_ret ?_;simp only [factorF,eqW,isD,bz,R.bind,h1,h2,h3,hr1,h4,hr2,hr3,hr4] at hG;subst hG;exact ⟨_,[0],_,[encE _],rfl,rfl,rfl,rfl,rfl,(by first|exact PWs.refl _|(refine PWs.cons (PW.d ?_) PWs.nil;repeat (first|exact DW.refl _|refine DW.agg ?_|refine DWs.cons ?_ ?_|exact DWs.nil|exact DW.nil _))),rfl⟩
  refine awp_skip ?_;refine rz [4] ?_;refine awp_ret ?_;simp only [factorF,eqW,isD,bz,R.bind,h1,h2,h3,hr1,h4] at hG;subst hG;exact ⟨_,[0],_,[encE _],rfl,rfl,rfl,rfl,rfl,(by first|exact PWs.refl _|(refine PWs.cons (PW.d ?_) PWs.nil;repeat (first|exact DW.refl _|refine DW.agg ?_|refine DWs.cons ?_ ?_|exact DWs.nil|exact DW.nil _))),rfl⟩
theorem terms_ok(s:ByteArray)(hs4:s.size≤4000):∀n,FacOk t u s n∧ProdOk t u s n∧TermOk t u s n:=by
 have hs:s.size<4611686018427387904:=by omega
 intro n
 induction n using Nat.strongRecOn with
 |_ n ih=>
  cases n with
  |zero=>exact ⟨fun d p h=>absurd (by simp only [factorF]) h,fun d p h=>absurd (by simp only [productF]) h,fun d p h=>absurd (by simp only [termF]) h⟩
  |succ n=>exact ⟨fac_step t u s hs4 n (fun m hm=>(ih m (by omega)).1) (fun m hm=>(ih m (by omega)).2.2),prod_step t u s hs n (fun m hm=>(ih m (by omega)).1),term_step t u s hs n (fun m hm=>(ih m (by omega)).2.1)⟩
theorem termP_spec(s:ByteArray)(hs4:s.size≤4000)(n:Nat):TermOk t u s n:=(terms_ok t u s hs4 n).2.2
end
end Go.Abs
end
section
namespace Go.Abs
open Go Go.Proofs
attribute [local irreducible] aCall AWp Sub Spec
def testF(s:ByteArray)(n:Nat)(p:PS s):R s Ts:=(termF s n 1 p).bind fun a q=>match isRelF q.w with
 |true=>(termF s n 1 (nx s q)).bind fun b q2=>.ok ⟨a,q.w,b⟩ q2
 |false=>.bad q 3
def andL(s:ByteArray):Nat→List Ts→PS s→R s (List Ts)
 |0,_,_=>.out
 |n+1,row,p=>match eqW p.w ⟨#[97,110,100]⟩ with
  |true=>(testF s n (nx s p)).bind fun t q=>andL s n (row++[t]) q
  |false=>.ok row p
def rowF(s:ByteArray)(n:Nat)(p:PS s):R s (List Ts):=match eqW p.w ⟨#[116,114,117,101]⟩ with
 |true=>.ok [] (nx s p)
 |false=>(testF s n p).bind fun t q=>andL s n [t] q
def condL(s:ByteArray):Nat→List (List Ts)→PS s→R s (List (List Ts))
 |0,_,_=>.out
 |n+1,acc,p=>(rowF s n p).bind fun row q=>match eqW q.w ⟨#[111,114]⟩ with
  |true=>condL s n (acc++[row]) (nx s q)
  |false=>.ok (acc++[row]) q
def condF(s:ByteArray)(n:Nat)(p:PS s):R s (List (List Ts)):=match eqW p.w ⟨#[102,97,108,115,101]⟩ with
 |true=>.ok [] (nx s p)
 |false=>condL s n [] p
def encT:Ts→PV:=fun t=>.d (.agg t.cs)
def encC:List (List Ts)→PV:=fun c=>.d (.sl 1 (cnd c))
theorem tss_snoc(l:List Ts)(t:Ts):tss l++[t.cs]=tss (l++[t]):=by simp [tss]
theorem cnd_snoc(l:List (List Ts))(t:List Ts):cnd l++[[.sl 9 (tss t)]]=cnd (l++[t]):=by simp [cnd]
theorem tss_length(l:List Ts):(tss l).length=l.length:=by simp [tss]
theorem cnd_length(l:List (List Ts)):(cnd l).length=l.length:=by simp [cnd]
theorem maxLen_eq:maxLen=9223372036854775807:=rfl
section
variable (t:Nat→TypeId) (u:Nat→Value)
def p276_6:Plan:=(.load 0 (.take 1 (.take 2 (.one 3 (.one 4 (.one 5 .done))))))
theorem testP_spec(s:ByteArray)(hs4:s.size≤4000)(n:Nat)(p:PS s):PSpec t u 276 [.box 0 0] s p encT (testF s n p):=by
 intro hne;obtain ⟨r,hG⟩:∃r,testF s n p=r:=⟨_,rfl⟩;rw [hG] at hne ⊢
 have hs:s.size<4611686018427387904:=by omega
 refine spec_of_awp2 TT_ok (N:=24) Tryz.func276 rfl (by rfl) ((by cases r <;> simp [rowsR] at hne ⊢)) rfl ?_
 refine rz [0,2] ?_;refine rgs fun E K J O=>?_;show aCall _ _ _ _ _ _ _;have sp1:=termP_spec t u s hs4 n 1 p
 cases hr1:termF s n 1 p with
 |out=>
  simp only [testF,R.bind,hr1] at hG;exact absurd hG.symm hne
 |bad q1 c1=>
  rw [hr1] at sp1;refine aP [0] rfl rfl rfl (sp1 nofun) rfl rfl rfl rfl ?_;refine J _ _ ?_;simp only [testF,R.bind,hr1] at hG;subst hG;exact ⟨[0,2],_,rfl,rfl,rfl,rfl,rfl⟩
 |ok a1 q1=>
  obtain ⟨o1,n1,m1,l1⟩:=a1;rw [hr1] at sp1;refine aS [0] (sp1 nofun) ?_;refine O _ (aN [0,2,3] rfl rfl ?_);clear O J K E;refine rz [0,2,3,4] ?_;refine awp_seq ?_;refine rgs fun E K J O=>?_;refine aS [] (isRel_spec _ _) ?_;refine O _ (aN [0,2,3,4,13] rfl rfl ?_);clear O J K E;refine awp_cond2 rfl (onB_intro (fun h1=>?_) (fun h1=>?_))
  ·have h1:=Bool.not_eq_true' _▸h1
   refine rgn fun E K J O=>?_;show aCall _ _ _ _ _ _ _;refine aP [0] rfl rfl rfl (fail_spec (GV t u) 132 s _ _ (t 3) (u 3)) rfl rfl rfl rfl ?_;refine J _ _ ?_;simp only [testF,R.bind,hr1,h1] at hG;subst hG;exact ⟨[0,3],_,rfl,rfl,rfl,rfl,rfl⟩
  have h1:=Bool.not_eq_false' _▸h1;refine awp_skip ?_;refine rgs fun E K J O=>?_;refine aS [0] (nextP_spec _ s q1 hs) ?_;refine O _ (aN [0,2,3,4] rfl rfl ?_);clear O J K E;refine awp_seq ?_;refine (awp_draw TT_ok mixed p276_6 [5] (fun i=>Nat.beq i 2) (by kernel_rfl) fun E K J O=>?_)
  show aCall _ _ _ _ _ _ _
  have sp2:=termP_spec t u s hs4 n 1 (nx s q1)
  cases hr2:termF s n 1 (nx s q1) with
  |out=>
   simp only [testF,R.bind,hr1,h1,hr2] at hG;exact absurd hG.symm hne
  |bad q2 c2=>
   rw [hr2] at sp2;refine aP [0] rfl rfl rfl (sp2 nofun) rfl rfl rfl rfl ?_;refine J _ _ ?_;simp only [testF,R.bind,hr1,h1,hr2] at hG;subst hG;exact ⟨[0,3],_,rfl,rfl,rfl,rfl,rfl⟩
  |ok a2 q2=>
   obtain ⟨o2,n2,m2,l2⟩:=a2;rw [hr2] at sp2;refine aS [0] (sp2 nofun) ?_;refine O _ (aN [2] rfl rfl ?_);clear O J K E;refine awp_ret ?_;simp only [testF,R.bind,hr1,h1,hr2] at hG;subst hG;exact ⟨_,[0],_,[encT _],rfl,rfl,rfl,rfl,rfl,(by first|exact PWs.refl _|(refine PWs.cons (PW.d ?_) PWs.nil;repeat (first|exact DW.refl _|refine DW.agg ?_|refine DWs.cons ?_ ?_|exact DWs.nil|exact DW.nil _))),rfl⟩
theorem condP_spec(s:ByteArray)(hs4:s.size≤4000)(n:Nat)(hn:n≤1000000)(p:PS s):PSpec t u 245 [.box 0 0] s p encC (condF s n p):=by
 intro hne;obtain ⟨r,hG⟩:∃r,condF s n p=r:=⟨_,rfl⟩;rw [hG] at hne ⊢
 have hs:s.size<4611686018427387904:=by omega
 refine spec_of_awp2 TT_ok (N:=30) Tryz.func245 rfl (by rfl) ((by cases r <;> simp [rowsR] at hne ⊢)) rfl ?_
 refine rz [0] ?_;refine awp_seq ?_;refine rgs fun E K J O=>?_;show aCall _ _ _ _ _ _ _
 cases hr1:(p.w.toList==(⟨#[102,97,108,115,101]⟩:ByteArray).toList) with
 |true=>
  refine aS [0] (hasP_yes (GV t u) s _ p hs hr1) ?_;refine O _ (aN [0,6] rfl rfl ?_);clear O J K E;refine awp_cond rfl ?_;refine rz [2] ?_;refine awp_ret ?_;simp only [condF,eqW,hr1] at hG;subst hG;exact ⟨_,[0],_,[encC _],rfl,rfl,rfl,rfl,rfl,(by first|exact PWs.refl _|(refine PWs.cons (PW.d ?_) PWs.nil;repeat (first|exact DW.refl _|refine DW.agg ?_|refine DWs.cons ?_ ?_|exact DWs.nil|exact DW.nil _))),rfl⟩
 |false=>
  refine aS [0] (hasP_no (GV t u) s _ p hr1) ?_;refine O _ (aN [0,6] rfl rfl ?_);clear O J K E;refine awp_cond rfl ?_;refine awp_skip ?_;refine rz [0,3] ?_;simp only [condF,eqW,hr1] at hG;refine awp_acc 3 123 1 rfl rfl rfl ?_;refine awp_norm [0,3] rfl rfl ?_;refine awp_block ?_;refine awp_loop (fun k Y=>∃acc q,acc.length+k≤n∧condL s k acc q=r∧Y=⟨[(0,.box 0 0),(3,.acc 1)],[rd s q,.acc 123 1 (cnd acc)]⟩) (n) (⟨[],p,by simp,hG,rfl⟩) ?_;clear hG;rintro k Y ⟨acc,q,hk,hG,rfl⟩
  cases k with
  |zero=>simp only [condL] at hG;exact absurd hG.symm hne
  |succ m=>
   refine awp_block ?_;refine rz [0,3,4] ?_;refine awp_acc 4 282 9 rfl rfl rfl ?_;refine awp_norm [0,3,4] rfl rfl ?_;refine awp_seq ?_;refine rgs fun E K J O=>?_;show aCall _ _ _ _ _ _ _
   cases hr2:(q.w.toList==(⟨#[116,114,117,101]⟩:ByteArray).toList) with
   |true=>
    refine aS [0] (hasP_yes (GV t u) s _ q hs hr2) ?_;refine O _ (aN [0,3,4,9] rfl rfl ?_);clear O J K E;refine awp_cond rfl ?_;refine awp_skip ?_;refine rgs fun E K J O=>?_;refine And.intro (And.intro (by simp only [chunk_length,cnd_length];omega) (by simp only [chunk_length,cnd_length,maxLen_eq];omega)) ?_;refine O _ (aN [0,3] rfl rfl ?_);clear O J K E;refine rgs fun E K J O=>?_;show aCall _ _ _ _ _ _ _
    cases hr3:((nx s q).w.toList==(⟨#[111,114]⟩:ByteArray).toList) with
    |true=>
     refine aS [0] (hasP_yes (GV t u) s _ (nx s q) hs hr3) ?_;refine O _ (aN [0,3,28] rfl rfl ?_);clear O J K E;refine awp_cond rfl ?_;refine awp_skip ?_;simp only [condL,rowF,eqW,R.bind,hr2,hr3] at hG;exact ⟨m,Nat.lt_succ_self m,_,sub_pick (L:=[0,1]) (slots:=[0,3]) rfl rfl rfl rfl rfl,_,_,by simp only [List.length_append,List.length_cons,List.length_nil];omega,hG,by first|rfl|(rw [← cnd_snoc];rfl)⟩
    |false=>
     refine aS [0] (hasP_no (GV t u) s _ (nx s q) hr3) ?_;refine O _ (aN [0,3,28] rfl rfl ?_);clear O J K E;refine awp_cond rfl ?_;refine rz [2] ?_;refine awp_ret ?_;simp only [condL,rowF,eqW,R.bind,hr2,hr3] at hG;subst hG;exact ⟨_,[0],_,[encC _],rfl,rfl,rfl,rfl,rfl,by first|exact PWs.refl _|(simp only [encC,← cnd_snoc];exact PWs.refl _),rfl⟩
   |false=>
    refine aS [0] (hasP_no (GV t u) s _ q hr2) ?_;refine O _ (aN [0,3,4,9] rfl rfl ?_);clear O J K E;refine awp_cond rfl ?_;refine rgs fun E K J O=>?_;show aCall _ _ _ _ _ _ _;have sp3:=testP_spec t u s hs4 m q
    cases hr3:testF s m q with
    |out=>
     simp only [condL,rowF,eqW,R.bind,hr2,hr3] at hG;exact absurd hG.symm hne
    |bad q3 c3=>
     rw [hr3] at sp3;refine aP [0] rfl rfl rfl (sp3 nofun) rfl rfl rfl rfl ?_;refine J _ _ ?_;simp only [condL,rowF,eqW,R.bind,hr2,hr3] at hG;subst hG;exact ⟨[0,3],_,rfl,rfl,rfl,rfl,rfl⟩
    |ok a3 q3=>
     obtain ⟨⟨o3,n3,m3,l3⟩,w3,⟨o3b,n3b,m3b,l3b⟩⟩:=a3;rw [hr3] at sp3;refine aS [0] (sp3 nofun) ?_;refine And.intro (And.intro (by simp only [chunk_length,List.length_nil];omega) (by simp only [chunk_length,List.length_nil,maxLen_eq];omega)) ?_;refine O _ (aN [0,3,4] rfl rfl ?_);clear O J K E;refine awp_block ?_;simp only [condL,rowF,eqW,hr2,hr3,R.bind] at hG;clear hr3 sp3;refine awp_loop (fun k Y=>∃row q,row.length+k≤m+1∧((andL s k row q).bind fun row q=>match eqW q.w ⟨#[111,114]⟩ with|true=>condL s m (acc++[row]) (nx s q)|false=>.ok (acc++[row]) q)=r∧Y=⟨[(0,.box 0 0),(3,.acc 1),(4,.acc 2)],[rd s q,.acc 123 1 (cnd acc),.acc 282 9 (tss row)]⟩) (m) (⟨[_],q3,by simp only [List.length_cons,List.length_nil];omega,hG,rfl⟩) ?_;clear hG;rintro k Y ⟨row,q5,hk2,hG,rfl⟩
     cases k with
     |zero=>simp only [andL,R.bind] at hG;exact absurd hG.symm hne
     |succ m2=>
      refine awp_seq ?_;refine rgs fun E K J O=>?_;show aCall _ _ _ _ _ _ _
      cases hr6:(q5.w.toList==(⟨#[97,110,100]⟩:ByteArray).toList) with
      |true=>
       refine aS [0] (hasP_yes (GV t u) s _ q5 hs hr6) ?_;refine O _ (aN [0,3,4,16] rfl rfl ?_);clear O J K E;refine awp_cond rfl ?_;refine awp_skip ?_;refine awp_block ?_;refine rgn fun E K J O=>?_;show aCall _ _ _ _ _ _ _;have sp7:=testP_spec t u s hs4 m2 (nx s q5)
       cases hr7:testF s m2 (nx s q5) with
       |out=>
        simp only [andL,eqW,R.bind,hr6,hr7] at hG;exact absurd hG.symm hne
       |bad q7 c7=>
        rw [hr7] at sp7;refine aP [0] rfl rfl rfl (sp7 nofun) rfl rfl rfl rfl ?_;refine J _ _ ?_;simp only [andL,eqW,R.bind,hr6,hr7] at hG;subst hG;exact ⟨[0,3],_,rfl,rfl,rfl,rfl,rfl⟩
       |ok a7 q7=>
        obtain ⟨⟨o7,n7,m7,l7⟩,w7,⟨o7b,n7b,m7b,l7b⟩⟩:=a7;rw [hr7] at sp7;refine aS [0] (sp7 nofun) ?_;refine And.intro (And.intro (by simp only [chunk_length,tss_length];omega) (by simp only [chunk_length,tss_length,maxLen_eq];omega)) ?_;refine O _ ?_;clear O J K E;simp only [andL,eqW,R.bind,hr6,hr7] at hG;exact ⟨m2,Nat.lt_succ_self m2,_,sub_norm (slots:=[0,3,4]) rfl rfl,_,_,by simp only [List.length_append,List.length_cons,List.length_nil];omega,hG,by rw [← tss_snoc];rfl⟩
      |false=>
       refine aS [0] (hasP_no (GV t u) s _ q5 hr6) ?_;refine O _ (aN [0,3,4,16] rfl rfl ?_);clear O J K E;refine awp_cond rfl ?_;refine awp_exit ?_;refine rgs fun E K J O=>?_;refine And.intro (And.intro (by simp only [chunk_length,cnd_length];omega) (by simp only [chunk_length,cnd_length,maxLen_eq];omega)) ?_;refine O _ (aN [0,3] rfl rfl ?_);clear O J K E;refine rgs fun E K J O=>?_;show aCall _ _ _ _ _ _ _
       cases hr7:(q5.w.toList==(⟨#[111,114]⟩:ByteArray).toList) with
       |true=>
        refine aS [0] (hasP_yes (GV t u) s _ q5 hs hr7) ?_;refine O _ (aN [0,3,28] rfl rfl ?_);clear O J K E;refine awp_cond rfl ?_;refine awp_skip ?_;simp only [andL,eqW,R.bind,hr6,hr7] at hG;exact ⟨m,Nat.lt_succ_self m,_,sub_pick (L:=[0,1]) (slots:=[0,3]) rfl rfl rfl rfl rfl,_,_,by simp only [List.length_append,List.length_cons,List.length_nil];omega,hG,by first|rfl|(rw [← cnd_snoc];rfl)⟩
       |false=>
        refine aS [0] (hasP_no (GV t u) s _ q5 hr7) ?_;refine O _ (aN [0,3,28] rfl rfl ?_);clear O J K E;refine awp_cond rfl ?_;refine rz [2] ?_;refine awp_ret ?_;simp only [andL,eqW,R.bind,hr6,hr7] at hG;subst hG;exact ⟨_,[0],_,[encC _],rfl,rfl,rfl,rfl,rfl,by first|exact PWs.refl _|(simp only [encC,← cnd_snoc];exact PWs.refl _),rfl⟩
end
end Go.Abs
end
