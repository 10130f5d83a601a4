/- Pieces of the closed run, whatever ways they may go. Nothing is asked. -/
import Derived.Test.YtphjcbegmaekbaaGreatDoorStates
import Derived.Test.YtphjcbegmaekbaaGreatDoorPure
set_option linter.all false
namespace Go.Am.Seat
set_option maxRecDepth 1000000
noncomputable section
theorem aih:fC pg anV=true:=by decide +kernel
theorem aii:fC pg anW=true:=by decide +kernel
theorem aij:fC pg anX=true:=by decide +kernel
theorem aik:fC pg anY=true:=by decide +kernel
theorem ail:fC pg anZ=true:=by decide +kernel
theorem aim:fC pg aoa=true:=by decide +kernel
def ain:Pg:=(bq 41 (.fn (aQ (gK aob) (aQ (gK aoc) (aQ (gK anV) (aQ (gK anX) (gK anZ)))))) (bq 34 (.fn (gK aod)) (bq 33 (.fn (gK aoe)) (bq 78 (.fn (aQ (gK aof) (aQ (gK aog) (aQ (gK aoh) (aQ (gK anW) (aQ (gK anY) (gK aoa))))))) (bq 77 (.fn (gK aoi)) (bq 96 (.fn (gK aoj)) (bq 95 (.fn (gK aok)) (bq 87 (.fn (gK aol)) pg))))))))
theorem aom:dt 7 (.nm ahj ahk) (rounds 1 (exec ain 1000000 lL) aio (fK aip))=true:=by decide +kernel
theorem aiq:fC pg ann=true:=by decide +kernel
theorem air:fC pg anm=true:=by decide +kernel
theorem ais:fC pg anh=true:=by decide +kernel
theorem ait:fC pg ani=true:=by decide +kernel
theorem aiu:fC pg anj=true:=by decide +kernel
theorem aiv:fC pg ank=true:=by decide +kernel
theorem aiw:fC pg anl=true:=by decide +kernel
theorem aix:fC pg ang=true:=by decide +kernel
theorem aiy:fC pg amW=true:=by decide +kernel
theorem aiz:fC pg amX=true:=by decide +kernel
theorem aiA:fC pg amY=true:=by decide +kernel
theorem aiB:fC pg amZ=true:=by decide +kernel
theorem aiC:fC pg ana=true:=by decide +kernel
theorem aiD:fC pg amV=true:=by decide +kernel
theorem aiE:fC pg amU=true:=by decide +kernel
theorem aiF:fC pg amR=true:=by decide +kernel
theorem aiG:fC pg anb=true:=by decide +kernel
theorem aiH:fC pg amS=true:=by decide +kernel
theorem aiI:fC pg anc=true:=by decide +kernel
theorem aiJ:fC pg amT=true:=by decide +kernel
theorem aiK:fC pg anf=true:=by decide +kernel
end
end Go.Am.Seat
