/- Closed facts of the row. Nothing is asked. -/
import Derived.Test.YtphjcbegmaekbaaGreatDoorRows
import Derived.JoinedOf
import Derived.KernelRfl
set_option linter.all false
namespace Go.Proofs.YtphjcbegmaekbaaGreatDoor.engineNumbers
open Go
set_option maxRecDepth 100000
theorem ac {f:Nat→Bool} {a m n:Nat} (h1:(List.range' a m).all f=true) (h2:(List.range' (a+m) n).all f=true):(List.range' a (m+n)).all f=true:=by
 rw [←List.range'_append_1,List.all_append,h1,h2];rfl
theorem lo0:(List.range' 0 90).all (rowFine Tryz.prog)=true:=by kernel_rfl
theorem lo90:(List.range' 90 90).all (rowFine Tryz.prog)=true:=by kernel_rfl
theorem lo180:(List.range' 180 90).all (rowFine Tryz.prog)=true:=by kernel_rfl
theorem lo270:(List.range' 270 90).all (rowFine Tryz.prog)=true:=by kernel_rfl
theorem lo360:(List.range' 360 90).all (rowFine Tryz.prog)=true:=by kernel_rfl
theorem lo450:(List.range' 450 90).all (rowFine Tryz.prog)=true:=by kernel_rfl
theorem lo540:(List.range' 540 67).all (rowFine Tryz.prog)=true:=by kernel_rfl
theorem lsz:Tryz.prog.types.size=607:=by kernel_rfl
theorem lg:Tryz.prog.globals.all (fun g=>decide (g.type < Tryz.prog.types.size))=true:=by kernel_rfl
theorem lf:Tryz.prog.funcs.all (fun f=>f.params.all fun t=>decide (t < Tryz.prog.types.size))=true:=by kernel_rfl
theorem la:(List.range' 0 (90+(90+(90+(90+(90+(90+(67)))))))).all (rowFine Tryz.prog)=true:=ac lo0 (ac lo90 (ac lo180 (ac lo270 (ac lo360 (ac lo450 (lo540))))))
theorem j1:laidOutB Tryz.prog=true:=by
 have h:(List.range Tryz.prog.types.size).all (rowFine Tryz.prog)=true:=by
  rw [lsz,List.range_eq_range']
  exact la
 unfold laidOutB
 rw [h,lg,lf]
 rfl
end Go.Proofs.YtphjcbegmaekbaaGreatDoor.engineNumbers
