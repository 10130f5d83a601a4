/- EngineNumbers, the tied card: the closed sentence of chapter 19 (runs of an engine with views of each kind, filled, turned, emptied) holds. Conditions: those that the given statement itself holds. -/
import Derived.Test.YtphjcbegmaekbaaGreatDoorRows
import Derived.Test.YtphjcbegmaekbaaGreatDoorEnv
import Derived.Test.YtphjcbegmaekbaaGreatDoorFacts
import Derived.Test.YtphjcbegmaekbaaGreatDoorFactsT
import Derived.Test.YtphjcbegmaekbaaGreatDoorRun
import Derived.Test.YtphjcbegmaekbaaGreatDoorG
import Derived.Test.YtphjcbegmaekbaaGreatDoorCards
import Derived.Test.YtphjcbegmaekbaaGreatDoorTieX
import Derived.SevenTiedAt
import Derived.LaidMore
import Derived.Lay
import Derived.Stop.Joined
import Derived.WalkKit
import Derived.ProofKit
import Derived.OpenShut
import Derived.ShutString
set_option linter.all false
namespace Go.Proofs.YtphjcbegmaekbaaGreatDoor.engineNumbers
open Go Go.ChangeShapes Go.WideShapes Go.ChangeAt Go.RowKit
open Go.ChangeMaps (open_string shut_string)

theorem own:ownKnob Tryz.prog.godebug=none:=by kernel_rfl

theorem walk (w:World) (hs:7≤w.heap.size) (hw:w.heap[1]?=some (.cells (Go.Am.Seat.Gv.map fun z=>Value.int .u64 z).toArray 555 (0,0))) :
  Calls Tryz.prog 3 #[] w fun e w'=>e=.returned (.bool true)∧w.heap.size≤w'.heap.size∧(∀b,b < w.heap.size→w'.heap[b]?=w.heap[b]?)∧w'.os=w.os∧w'.output=w.output:=
 Go.Am.QU (f:=3) (fn:=Tryz.f3) (rs:=[.t .h0 .h0]) (gl:=1) (el:=555) (k:=.u64) (zs:=Go.Am.Seat.Gv) (g2:=Go.Am.fK Go.Am.Seat.Qa) (by kernel_rfl) (by kernel_rfl) (by kernel_rfl) (by decide) (by decide) (by decide +kernel) Go.Am.Seat.chain (by kernel_rfl) (by decide +kernel) w hs hw

def laid:List (String×DataW Unit):=Rows.engineNumbersRow.laid
set_option maxRecDepth 100000 in
theorem lifted (os:Os) (started:os.Started) (H:Type) (enc:TypeId×Value→H) :
  ReturnsInHanded {} Tryz.checked os 3 .any (fun w args=>(Rows.engineNumbersSpec.pre enc Tryz.prog Tryz.f3 Rows.engineNumbersRow.domain false w args∧laidMetH Tryz.prog laid w)∧sizedMet enc Tryz.prog Tryz.f3 (OpenSpec.ofChange Rows.engineNumbersSpec) false w args) (Rows.engineNumbersSpec.post enc Tryz.prog Tryz.f3 false true false false):=by
 refine Go.Am.apU (C:=Tryz.checked) (X:=fun w _=>laidMetH Tryz.prog laid w) (fun _ _ _ hh h=>h.of_heap hh) own started (by kernel_rfl) Tryz.func3
  (ChangeSpec.witness_shaped (enc:=enc) (C:=Tryz.checked) (os:=os) (X:=fun w _=>laidMetH Tryz.prog laid w) false (World.laidAll Tryz.prog os laid) #[] 8 (World.laidAll_os _ _ _)
   (World.shaped_of_ZipB (by kernel_rfl) (by kernel_rfl)) (by kernel_rfl) (by kernel_rfl) (by kernel_rfl)
   (by rw [MakeChecks.laidMetH_plain _ _ _ (by kernel_rfl)];exact laidMet_laidAll _ (by kernel_rfl) (by kernel_rfl))) ?_
 intro W base args ds gs before hval0 hW hL hSh
 have hval:∀(j:Nat) t v,Tryz.f3.params[j]?=some t→args[j]?=some v→Value.okWide Tryz.prog W .any base t v:=hval0
 have hW':=hW
 obtain ⟨p,q,hA0,hV,rfl,hfz,hnd⟩:=hW
 have hA:DataW.TrodAll enc Tryz.prog W 0 (fun _=>true) true Tryz.f3.params.toList args.toList ds p:=hA0
 rw [Tryz.params3] at hA hval
 obtain ⟨rfl,rfl,rfl⟩:=trodAll_none hA
 obtain ⟨rfl,rfl⟩:=trodVars_none hV
 clear hA0 hval0
 simp only [List.append_nil] at hW'
 have hT:=Go.Am.xo "internal/strconv.uint64pow10" .u64 Go.Am.Seat.Gv 1 555 188 20 (by
  have h:=hL
  rw [MakeChecks.laidMetH_plain _ _ _ (by kernel_rfl)] at h
  exact h) (by unfold laid;exact (by repeat (first|exact List.Mem.head _|apply List.Mem.tail))) hSh (of_decide_eq_true (by kernel_rfl)) (by kernel_rfl) (by kernel_rfl) (by kernel_rfl) (by kernel_rfl) (by kernel_rfl) (by kernel_rfl) (by kernel_rfl)
 have hZ:=Go.Am.tH (W:=W) 6 7 hSh rfl (of_decide_eq_true (by kernel_rfl)) (by kernel_rfl)
 refine (walk W hZ hT).mono fun e W' ⟨he,_,hb,ho,hu⟩=>?_
 subst he
 exact ⟨_,rfl,Go.Am.DN hW' (fun _ _ _=>(trodAll_cons_mk (shut_bool Tryz.underlying4 _) trodAll_mk0)) (fun _=>rfl) (fun _=>rfl) (Go.Am.QV hb ho hu) (ok_one (by kernel_rfl) rfl (okWide_bool_mk Tryz.underlying4 _))⟩

theorem over:Rows.engineNumbersRow.holds Tryz.pinned (OpenSpec.ofChange Rows.engineNumbersSpec):=
 OpenClaim.holds_of_wide 3 Tryz.f3 rfl rfl rfl rfl rfl rfl rfl ⟨rfl,rfl,rfl,rfl,rfl⟩ rfl rfl rfl rfl rfl jn Tryz.func3 facts
  (of_decide_eq_true (by kernel_rfl)) (by unfold Func.isWrapper;first|(rw [if_pos (by decide +kernel)];kernel_rfl)|(rw [if_neg (by decide +kernel)];exact ⟨rfl,rfl⟩))
  (fun os started H enc _=>lifted os started H enc)

theorem bare:Rows.EngineNumbersSaid:=over
theorem proved:Rows.EngineNumbersCardSaid:=
 Claim7.holds_tied_plain_at .later [] [.sentinel,.sentinel,.data,.data,.data] true (true, "4973083c1bf9a217d7d0e56c06dadcc18f8cfd9dcada5daa77eeb03e9f73a8ea") true
  bare (fun _ h=>by cases h) t1 (fun _ h=>by cases h) engineNumbers_row_tie rfl ⟨rfl,rfl⟩ t2 rfl
  (fun f fn hf hfn=>by
   obtain rfl:f=3:=Option.some.inj (jn.symm.trans hf) |>.symm
   obtain rfl:fn=Tryz.f3:=(Option.some.inj (Tryz.func3.symm.trans hfn)).symm
   exact ⟨t3,fun j t ht=>by
    rw [Tryz.params3] at ht
    simp at ht⟩)
  t4
#print axioms proved
end Go.Proofs.YtphjcbegmaekbaaGreatDoor.engineNumbers
