/- A part of a proof: an abstract machine, proved sound, or contracts of functions. No condition. -/
import Derived.Shelf.Bits.Mul64
import Derived.Test.YtakobiabkfeelaaGreatProg
set_option linter.unusedVariables false
set_option linter.unusedSimpArgs false
set_option linter.defProp false
set_option maxRecDepth 100000
set_option maxHeartbeats 4000000
namespace Go.Proofs
open Go.Shelf
open Go.RowKit Go.Lib in
def Tryz.P1:Go.Shelf.Ren:=⟨fun|212=>232|263=>278|264=>279|n=>n,fun|46=>75|51=>387|146=>388|53=>390|148=>391|n=>n,fun|n=>n⟩
theorem Tryz.ail : Go.Proofs.Lays.n212 Tryz.prog Tryz.P1 := {
  mixed := by kernel_rfl
  f212 := Tryz.func232.trans (congrArg some (by kernel_rfl))
  f263 := Tryz.func278.trans (congrArg some (by kernel_rfl))
  f264 := Tryz.func279.trans (congrArg some (by kernel_rfl))
  t46 := Tryz.underlying75
  a46 := Tryz.isAgg75
  z46 := Tryz.sizeOf75
  v46 := Tryz.zeroValue75
  t51 := Tryz.underlying387
  a51 := Tryz.isAgg387
  z51 := Tryz.sizeOf387
  v51 := Tryz.zeroValue387
  t53 := Tryz.underlying390
  a53 := Tryz.isAgg390
  z53 := Tryz.sizeOf390
  v53 := Tryz.zeroValue390
  t146 := Tryz.underlying388
  a146 := Tryz.isAgg388
  z146 := Tryz.sizeOf388
  v146 := Tryz.zeroValue388
  t148 := Tryz.underlying391
  a148 := Tryz.isAgg391
  z148 := Tryz.sizeOf391
  v148 := Tryz.zeroValue391 }
open Go.RowKit Go.Lib in
theorem Tryz.bits_Mul (x y:Nat) (hx:x<18446744073709551616) (hy:y<18446744073709551616) (w:World):Calls Tryz.prog 232 #[.int .u64 x,.int .u64 y] w fun e w' =>e= .returned (.tuple #[.int .u64 ((x*y / 18446744073709551616:Nat):Int),.int .u64 ((x*y%18446744073709551616:Nat):Int)])∧w' =w:=Any.bits_Mul Tryz.ail x y hx hy w
end Go.Proofs
