/- A part of a proof: an abstract machine, proved sound, or contracts of functions. No condition. -/
import Derived.Shelf.Sort.Plain
import Derived.Ground.Names2Prog
import Derived.Shelf.Slices.CompactI
import Derived.Shelf.Slices.In.SortNone
import Derived.Test.YtakobiabkfeelaaGreatProg
set_option linter.unusedVariables false
set_option linter.unusedSimpArgs false
set_option linter.defProp false
set_option maxRecDepth 100000
set_option maxHeartbeats 4000000
namespace Go.Proofs
open Go.Shelf
def Tryz.P2:Go.Shelf.Ren:=⟨fun|189=>218|125=>266|257=>265|128=>320|129=>321|294=>311|295=>312|296=>313|297=>314|298=>315|299=>316|216=>317|300=>318|301=>319|328=>370|329=>371|330=>372|331=>373|332=>374|215=>375|343=>434|n=>n,fun|28=>36|3=>3|46=>75|0=>0|51=>387|53=>390|4=>4|183=>407|182=>406|131=>401|5=>5|9=>9|218=>447|222=>451|228=>489|229=>302|n=>n,fun|n=>n⟩
theorem Tryz.WI : Go.Proofs.Lays.n189 Tryz.prog Tryz.P2 := {
  mixed := by kernel_rfl
  f125 := Tryz.func266.trans (congrArg some (by kernel_rfl))
  f128 := Tryz.func320.trans (congrArg some (by kernel_rfl))
  f129 := Tryz.func321.trans (congrArg some (by kernel_rfl))
  f189 := Tryz.func218.trans (congrArg some (by kernel_rfl))
  f215 := Tryz.func375.trans (congrArg some (by kernel_rfl))
  f216 := Tryz.func317.trans (congrArg some (by kernel_rfl))
  f257 := Tryz.func265.trans (congrArg some (by kernel_rfl))
  f294 := Tryz.func311.trans (congrArg some (by kernel_rfl))
  f295 := Tryz.func312.trans (congrArg some (by kernel_rfl))
  f296 := Tryz.func313.trans (congrArg some (by kernel_rfl))
  f297 := Tryz.func314.trans (congrArg some (by kernel_rfl))
  f298 := Tryz.func315.trans (congrArg some (by kernel_rfl))
  f299 := Tryz.func316.trans (congrArg some (by kernel_rfl))
  f300 := Tryz.func318.trans (congrArg some (by kernel_rfl))
  f301 := Tryz.func319.trans (congrArg some (by kernel_rfl))
  f328 := Tryz.func370.trans (congrArg some (by kernel_rfl))
  f329 := Tryz.func371.trans (congrArg some (by kernel_rfl))
  f330 := Tryz.func372.trans (congrArg some (by kernel_rfl))
  f331 := Tryz.func373.trans (congrArg some (by kernel_rfl))
  f332 := Tryz.func374.trans (congrArg some (by kernel_rfl))
  f343 := Tryz.func434.trans (congrArg some (by kernel_rfl))
  t0 := Tryz.underlying0
  a0 := Tryz.isAgg0
  z0 := Tryz.sizeOf0
  v0 := Tryz.zeroValue0
  t3 := Tryz.underlying3
  a3 := Tryz.isAgg3
  z3 := Tryz.sizeOf3
  v3 := Tryz.zeroValue3
  t4 := Tryz.underlying4
  a4 := Tryz.isAgg4
  z4 := Tryz.sizeOf4
  v4 := Tryz.zeroValue4
  t5 := Tryz.underlying5
  a5 := Tryz.isAgg5
  z5 := Tryz.sizeOf5
  v5 := Tryz.zeroValue5
  t9 := Tryz.underlying9
  a9 := Tryz.isAgg9
  z9 := Tryz.sizeOf9
  v9 := Tryz.zeroValue9
  t28 := Tryz.underlying36
  a28 := Tryz.isAgg36
  z28 := Tryz.sizeOf36
  v28 := Tryz.zeroValue36
  t46 := Tryz.underlying75
  a46 := Tryz.isAgg75
  z46 := Tryz.sizeOf75
  v46 := Tryz.zeroValue75
  t51 := Tryz.underlying387
  a51 := Tryz.isAgg387
  z51 := Tryz.sizeOf387
  v51 := Tryz.zeroValue387
  t53 := Tryz.underlying390
  a53 := Tryz.isAgg390
  z53 := Tryz.sizeOf390
  v53 := Tryz.zeroValue390
  t131 := Tryz.underlying401
  a131 := Tryz.isAgg401
  z131 := Tryz.sizeOf401
  v131 := Tryz.zeroValue401
  t182 := Tryz.underlying406
  a182 := Tryz.isAgg406
  z182 := Tryz.sizeOf406
  v182 := Tryz.zeroValue406
  t183 := Tryz.underlying407
  a183 := Tryz.isAgg407
  z183 := Tryz.sizeOf407
  v183 := Tryz.zeroValue407
  t218 := Tryz.underlying447
  a218 := Tryz.isAgg447
  z218 := Tryz.sizeOf447
  v218 := Tryz.zeroValue447
  t222 := Tryz.underlying451
  a222 := Tryz.isAgg451
  z222 := Tryz.sizeOf451
  v222 := Tryz.zeroValue451
  t228 := Tryz.underlying489
  a228 := Tryz.isAgg489
  z228 := Tryz.sizeOf489
  v228 := Tryz.zeroValue489
  t229 := Tryz.underlying302
  a229 := Tryz.isAgg302
  z229 := Tryz.sizeOf302
  v229 := Tryz.zeroValue302 }
open Go.Sort Go.RowKit in
theorem Tryz.slices_Sort_int (wc off cap:Nat) (zs:List Int) (w:World) (hH:Holds (Value.int .i64) w wc off zs.toArray) (hblk:wc<w.heap.size) (hsz:zs.length<4611686018427387904):Calls Tryz.prog 218 #[.slice (some ⟨wc,off,none⟩) zs.length cap] w fun e w' =>e= .returned (.tuple #[])∧∃n os,w' =grow (putRow (Value.int .i64) (Sort.ahead w n) wc off (zs.mergeSort fun x y=>decide (x≤y)).toArray) os:=Any.slices_Sort_int Tryz.WI wc off cap zs w hH hblk hsz
open Go.RowKit Go.Lib Go.Sort in
open Go.RowKit Go.Lib Go.Sort in
open Go.RowKit Go.Lib Go.Sort in
open Go.RowKit Go.Sort in
theorem Tryz.slices_Sort_int_none (p:Option Addr) (cap:Nat) (w:World):Calls Tryz.prog 218 #[.slice p 0 cap] w fun e w' =>e= .returned (.tuple #[])∧w' =w:=Any.slices_Sort_int_none Tryz.WI p cap w
end Go.Proofs
