/-
  The walks of a strings.Builder's copyCheck, WriteByte, WriteString; a Builder that others leave alone.
-/
import Derived.Test.YthacfgmdihcffaaGreatDoorPzTH
import Derived.Shelf.Lay
import Derived.Ground.SlsfProg
import Derived.Shelf.SlSortCmp.WholeK
import Derived.Shelf.SlSortCmp.NoneTotal
import Derived.Shelf.Small.Bits
import Derived.Ground.NamesProg
import Derived.Ground.Names8Prog
import Derived.Shelf.Spec.SlicesGrow
import Derived.Lib.AppendIntMem
import Derived.Lib.Repeat
import Derived.Lib.Strings
import Derived.Lib.SlTrimSet
import Derived.Lib.AtoiAll
import Derived.Lib.UnsafeStr
import Derived.Lib.ConvBytes
import Derived.Lib.ParseIntB
set_option linter.unusedSimpArgs false
set_option linter.unusedVariables false
set_option maxHeartbeats 16000000
set_option maxRecDepth 100000
open Go.Proofs.Tryz

namespace Go.Proofs
open Go.Shelf
def Tryz.sortT_ren:Go.Shelf.Ren:=⟨fun | 14=>172 | 20=>211 | 21=>212 | 22=>213 | 23=>214 | 24=>215 | 25=>216 | 26=>217 | 27=>218 | 46=>239 | 47=>240 | 48=>241 | 49=>242 | 50=>243 | 15=>173 | 57=>253 | 28=>219 | 29=>220 | n=>n,fun | 24=>37 | 22=>22 | 3=>3 | 25=>78 | 4=>4 | 0=>0 | 46=>236 | 45=>235 | 50=>240 | 66=>257 | 39=>215 | 55=>210 | 70=>261 | 76=>269 | 77=>270 | 53=>128 | 5=>5 | 9=>9 | n=>n,fun | n=>n⟩
theorem Tryz.sortT:Go.Proofs.SlLaysF0.n14 prog Tryz.sortT_ren:={
 mixed:=by kernel_rfl
 f14:=⟨f172.name,Ze,func172.trans (congrArg some Zk)⟩
 f15:=func173.trans (congrArg some Zk)
 f20:=⟨f211.name,Ze,func211.trans (congrArg some Zk)⟩
 f21:=⟨f212.name,Ze,func212.trans (congrArg some Zk)⟩
 f22:=⟨f213.name,Ze,func213.trans (congrArg some Zk)⟩
 f23:=⟨f214.name,Ze,func214.trans (congrArg some Zk)⟩
 f24:=⟨f215.name,Ze,func215.trans (congrArg some Zk)⟩
 f25:=⟨f216.name,Ze,func216.trans (congrArg some Zk)⟩
 f26:=⟨f217.name,Ze,func217.trans (congrArg some Zk)⟩
 f27:=⟨f218.name,Ze,func218.trans (congrArg some Zk)⟩
 f28:=func219.trans (congrArg some Zk)
 f29:=func220.trans (congrArg some Zk)
 f46:=⟨f239.name,Ze,func239.trans (congrArg some Zk)⟩
 f47:=func240.trans (congrArg some Zk)
 f48:=func241.trans (congrArg some Zk)
 f49:=⟨f242.name,Ze,func242.trans (congrArg some Zk)⟩
 f50:=⟨f243.name,Ze,func243.trans (congrArg some Zk)⟩
 f57:=⟨f253.name,Ze,func253.trans (congrArg some Zk)⟩
 t0:=underlying0
 a0:=isAgg0
 z0:=sizeOf0
 v0:=zeroValue0
 t3:=underlying3
 a3:=isAgg3
 z3:=sizeOf3
 v3:=zeroValue3
 t4:=underlying4
 a4:=isAgg4
 z4:=sizeOf4
 v4:=zeroValue4
 t5:=underlying5
 a5:=isAgg5
 z5:=sizeOf5
 v5:=zeroValue5
 t9:=underlying9
 a9:=isAgg9
 z9:=sizeOf9
 v9:=zeroValue9
 t22:=underlying22
 a22:=isAgg22
 z22:=sizeOf22
 v22:=zeroValue22
 t25:=underlying78
 a25:=isAgg78
 z25:=sizeOf78
 v25:=zeroValue78
 t39:=underlying215
 a39:=isAgg215
 z39:=sizeOf215
 v39:=zeroValue215
 t45:=underlying235
 a45:=isAgg235
 z45:=sizeOf235
 v45:=zeroValue235
 t46:=underlying236
 a46:=isAgg236
 z46:=sizeOf236
 v46:=zeroValue236
 t50:=underlying240
 a50:=isAgg240
 z50:=sizeOf240
 v50:=zeroValue240
 t53:=underlying128
 a53:=isAgg128
 z53:=sizeOf128
 v53:=zeroValue128
 t55:=underlying210
 a55:=isAgg210
 z55:=sizeOf210
 v55:=zeroValue210
 t66:=underlying257
 a66:=isAgg257
 z66:=sizeOf257
 v66:=zeroValue257
 t70:=underlying261
 a70:=isAgg261
 z70:=sizeOf261
 v70:=zeroValue261
 t76:=underlying269
 a76:=isAgg269
 z76:=sizeOf269
 v76:=zeroValue269
 t77:=underlying270
 a77:=isAgg270
 z77:=sizeOf270
 v77:=zeroValue270 }
def Tryz.growT_ren:Go.Shelf.Ren:=⟨fun | 4=>185 | n=>n,fun | 22=>23 | 25=>37 | 3=>3 | 4=>4 | 9=>9 | 20=>20 | 0=>0 | n=>n,fun | n=>n⟩
theorem Tryz.growT:Go.Proofs.Lays8.n4 prog Tryz.growT_ren:={
 mixed:=by kernel_rfl
 f4:=⟨f185.name,Ze,func185.trans (congrArg some Zk)⟩
 t0:=underlying0
 a0:=isAgg0
 z0:=sizeOf0
 v0:=zeroValue0
 t3:=underlying3
 a3:=isAgg3
 z3:=sizeOf3
 v3:=zeroValue3
 t4:=underlying4
 a4:=isAgg4
 z4:=sizeOf4
 v4:=zeroValue4
 t9:=underlying9
 a9:=isAgg9
 z9:=sizeOf9
 v9:=zeroValue9
 t20:=underlying20
 a20:=isAgg20
 z20:=sizeOf20
 v20:=zeroValue20
 t22:=underlying23
 a22:=isAgg23
 z22:=sizeOf23
 v22:=zeroValue23 }
def Tryz.lays125_ren:Go.Shelf.Ren:=⟨fun | 125=>173 | 128=>219 | 129=>220 | n=>n,fun | 46=>215 | 3=>3 | 51=>128 | 53=>210 | 4=>4 | 5=>5 | 9=>9 | n=>n,fun | n=>n⟩
theorem Tryz.lays125:Go.Proofs.Lays.n125 prog Tryz.lays125_ren:={
 mixed:=by kernel_rfl
 f125:=func173.trans (congrArg some Zk)
 f128:=func219.trans (congrArg some Zk)
 f129:=func220.trans (congrArg some Zk)
 t3:=underlying3
 a3:=isAgg3
 z3:=sizeOf3
 v3:=zeroValue3
 t4:=underlying4
 a4:=isAgg4
 z4:=sizeOf4
 v4:=zeroValue4
 t5:=underlying5
 a5:=isAgg5
 z5:=sizeOf5
 v5:=zeroValue5
 t9:=underlying9
 a9:=isAgg9
 z9:=sizeOf9
 v9:=zeroValue9
 t46:=underlying215
 a46:=isAgg215
 z46:=sizeOf215
 v46:=zeroValue215
 t51:=underlying128
 a51:=isAgg128
 z51:=sizeOf128
 v51:=zeroValue128
 t53:=underlying210
 a53:=isAgg210
 z53:=sizeOf210
 v53:=zeroValue210 }
theorem Tryz.bits_Len (a:Int) (d:World) (b:0<=a) (c:a<=18446744073709551615) :
  Calls prog 173 #[.int .u64 a] d λe f=>e=.returned (.int .i64 (Lib.bitLen a.toNat))/\f=d:=Any.bits_Len Tryz.lays125 a d b c
end Go.Proofs
namespace Go.Proofs.YthacfgmdihcffaaGreatDoor
namespace Limb
open Go.RowKit Go.Sort Go.Lib
theorem _root_.Go.Lib.IsBuilder.lt {g e:TypeId} {f b:Nat} {c:List Value} {d:World} (a:Lib.IsBuilder g e f b c d):b<d.heap.size:=a.elim (λa=>a.lt) (λa=>a.lt)

end Limb
end Go.Proofs.YthacfgmdihcffaaGreatDoor
