/-
  No cell of these rows narrows 'for every input' (looked for: loops, veiled, ifaces, maps, wideKeys, modest, calm, conditions, laid).
  DERIVED. THE GIVEN ROWS OF THIS SEAT. 10 by the template 'for every input the law returns true; each argument reads behind the call as it read before'; 0 by the template 'total and deterministic' (their statements: YtammkfjhlofmaaaGreatTotals.lean).
  GIVEN WITH THE SEED: the statements are not yours to turn. If you find one false, say at which input.
  Laid BY PROGRAM, IN A SANDBOX (cutbox-rows.mjs): the forced cells as the released guide's own fill.sh prints them over the translation 02d1d0d8f7f69ee6… (all of the seat's roots in one cut). By AI agents, Wed Nov 11 2026. No macro, syntax, notation, axiom, sorry.
-/
import Derived.Test.YtammkfjhlofmaaaGreatChecked
import GoSem.Claim
import GoSem.ClaimJoined
import GoSem.ClaimMapViews
import Derived.JoinedTies
import Derived.KernelRfl
namespace Go.Proofs.YtammkfjhlofmaaaGreat
/- THE CELL 'sum', in the pinned program and in every row, IS THE sha256 OF THE DUMP (.gsa) THAT YtammkfjhlofmaaaGreatProg.lean LOADS. Nothing in Lean hashes anything: it is a label: what it is worth is what the hold of that sum in a sandbox is worth. -/
noncomputable def Tryz.pinned : Pinned := { name := "ytammkfjhlofmaaagreat", sum := "02d1d0d8f7f69ee6198e4c2309c8f64133511a3a6df35a4884142b21a713ec48", checked := Tryz.checked }
namespace Rows
def none {H : Type} : Left H := { results := [], args := [] }

/-- 'confluencelaw22.RaftAsks': WHATEVER THE INPUT: true; the input reads as it did. -/
def raftAsksSpec : ChangeSpec := { name := "raftAsks", fn := fun _ => fun
  | [d1, d2, d3] => { results := [.lit (.bool true)], args := [d1, d2, d3] }
  | _ => none }
def raftAsksRow : OpenClaim := { program := "ytammkfjhlofmaaagreat", sum := "02d1d0d8f7f69ee6198e4c2309c8f64133511a3a6df35a4884142b21a713ec48", func := "confluence/confluencelaw22.RaftAsks", spec := "raftAsks", unfollowed := true, recurses := true, plainKeys := false, apart := false }
def RaftAsksSaid : Prop := raftAsksRow.holds Tryz.pinned (OpenSpec.ofChange raftAsksSpec)

/-- ITS FALSE NEIGHBOUR: 'it returns false'. Refute it at one input. -/
def raftAsksWrong : ChangeSpec := { name := "raftAsks", fn := fun _ => fun
  | [d1, d2, d3] => { results := [.lit (.bool false)], args := [d1, d2, d3] }
  | _ => none }
def RaftAsksWrongFalsely : Prop := raftAsksRow.holds Tryz.pinned (OpenSpec.ofChange raftAsksWrong)

/-- 'confluencelaw22.RaftCrashes': WHATEVER THE INPUT: true; the input reads as it did. -/
def raftCrashesSpec : ChangeSpec := { name := "raftCrashes", fn := fun _ => fun
  | [d1, d2, d3] => { results := [.lit (.bool true)], args := [d1, d2, d3] }
  | _ => none }
def raftCrashesRow : OpenClaim := { program := "ytammkfjhlofmaaagreat", sum := "02d1d0d8f7f69ee6198e4c2309c8f64133511a3a6df35a4884142b21a713ec48", func := "confluence/confluencelaw22.RaftCrashes", spec := "raftCrashes", unfollowed := true, recurses := true, plainKeys := false, apart := false }
def RaftCrashesSaid : Prop := raftCrashesRow.holds Tryz.pinned (OpenSpec.ofChange raftCrashesSpec)

/-- ITS FALSE NEIGHBOUR: 'it returns false'. Refute it at one input. -/
def raftCrashesWrong : ChangeSpec := { name := "raftCrashes", fn := fun _ => fun
  | [d1, d2, d3] => { results := [.lit (.bool false)], args := [d1, d2, d3] }
  | _ => none }
def RaftCrashesWrongFalsely : Prop := raftCrashesRow.holds Tryz.pinned (OpenSpec.ofChange raftCrashesWrong)

/-- 'confluencelaw22.RaftQuorum': WHATEVER THE INPUT: true; the input reads as it did. -/
def raftQuorumSpec : ChangeSpec := { name := "raftQuorum", fn := fun _ => fun
  | [d1, d2, d3, d4] => { results := [.lit (.bool true)], args := [d1, d2, d3, d4] }
  | _ => none }
def raftQuorumRow : OpenClaim := { program := "ytammkfjhlofmaaagreat", sum := "02d1d0d8f7f69ee6198e4c2309c8f64133511a3a6df35a4884142b21a713ec48", func := "confluence/confluencelaw22.RaftQuorum", spec := "raftQuorum", unfollowed := true, recurses := true, plainKeys := false, apart := false }
def RaftQuorumSaid : Prop := raftQuorumRow.holds Tryz.pinned (OpenSpec.ofChange raftQuorumSpec)

/-- ITS FALSE NEIGHBOUR: 'it returns false'. Refute it at one input. -/
def raftQuorumWrong : ChangeSpec := { name := "raftQuorum", fn := fun _ => fun
  | [d1, d2, d3, d4] => { results := [.lit (.bool false)], args := [d1, d2, d3, d4] }
  | _ => none }
def RaftQuorumWrongFalsely : Prop := raftQuorumRow.holds Tryz.pinned (OpenSpec.ofChange raftQuorumWrong)

/-- 'confluencelaw22.RaftNumbers': WHATEVER THE INPUT: true; the input reads as it did. -/
def raftNumbersSpec : ChangeSpec := { name := "raftNumbers", fn := fun _ => fun
  | [] => { results := [.lit (.bool true)], args := [] }
  | _ => none }
def raftNumbersRow : OpenClaim := { program := "ytammkfjhlofmaaagreat", sum := "02d1d0d8f7f69ee6198e4c2309c8f64133511a3a6df35a4884142b21a713ec48", func := "confluence/confluencelaw22.RaftNumbers", spec := "raftNumbers", unfollowed := true, recurses := true, plainKeys := false, apart := false }
def RaftNumbersSaid : Prop := raftNumbersRow.holds Tryz.pinned (OpenSpec.ofChange raftNumbersSpec)

/-- ITS FALSE NEIGHBOUR: 'it returns false'. Refute it at one input. -/
def raftNumbersWrong : ChangeSpec := { name := "raftNumbers", fn := fun _ => fun
  | [] => { results := [.lit (.bool false)], args := [] }
  | _ => none }
def RaftNumbersWrongFalsely : Prop := raftNumbersRow.holds Tryz.pinned (OpenSpec.ofChange raftNumbersWrong)

/-- 'confluencelaw22.RaftAgrees': WHATEVER THE INPUT: true; the input reads as it did. -/
def raftAgreesSpec : ChangeSpec := { name := "raftAgrees", fn := fun _ => fun
  | [d1, d2] => { results := [.lit (.bool true)], args := [d1, d2] }
  | _ => none }
def raftAgreesRow : OpenClaim := { program := "ytammkfjhlofmaaagreat", sum := "02d1d0d8f7f69ee6198e4c2309c8f64133511a3a6df35a4884142b21a713ec48", func := "confluence/confluencelaw22.RaftAgrees", spec := "raftAgrees", unfollowed := true, recurses := true, plainKeys := false, apart := false }
def RaftAgreesSaid : Prop := raftAgreesRow.holds Tryz.pinned (OpenSpec.ofChange raftAgreesSpec)

/-- ITS FALSE NEIGHBOUR: 'it returns false'. Refute it at one input. -/
def raftAgreesWrong : ChangeSpec := { name := "raftAgrees", fn := fun _ => fun
  | [d1, d2] => { results := [.lit (.bool false)], args := [d1, d2] }
  | _ => none }
def RaftAgreesWrongFalsely : Prop := raftAgreesRow.holds Tryz.pinned (OpenSpec.ofChange raftAgreesWrong)

/-- 'confluencelaw22.RaftSurvives': WHATEVER THE INPUT: true; the input reads as it did. -/
def raftSurvivesSpec : ChangeSpec := { name := "raftSurvives", fn := fun _ => fun
  | [d1, d2, d3] => { results := [.lit (.bool true)], args := [d1, d2, d3] }
  | _ => none }
def raftSurvivesRow : OpenClaim := { program := "ytammkfjhlofmaaagreat", sum := "02d1d0d8f7f69ee6198e4c2309c8f64133511a3a6df35a4884142b21a713ec48", func := "confluence/confluencelaw22.RaftSurvives", spec := "raftSurvives", unfollowed := true, recurses := true, plainKeys := false, apart := false }
def RaftSurvivesSaid : Prop := raftSurvivesRow.holds Tryz.pinned (OpenSpec.ofChange raftSurvivesSpec)

/-- ITS FALSE NEIGHBOUR: 'it returns false'. Refute it at one input. -/
def raftSurvivesWrong : ChangeSpec := { name := "raftSurvives", fn := fun _ => fun
  | [d1, d2, d3] => { results := [.lit (.bool false)], args := [d1, d2, d3] }
  | _ => none }
def RaftSurvivesWrongFalsely : Prop := raftSurvivesRow.holds Tryz.pinned (OpenSpec.ofChange raftSurvivesWrong)

/-- 'confluencelaw22.RaftAgain': WHATEVER THE INPUT: true; the input reads as it did. -/
def raftAgainSpec : ChangeSpec := { name := "raftAgain", fn := fun _ => fun
  | [d1, d2] => { results := [.lit (.bool true)], args := [d1, d2] }
  | _ => none }
def raftAgainRow : OpenClaim := { program := "ytammkfjhlofmaaagreat", sum := "02d1d0d8f7f69ee6198e4c2309c8f64133511a3a6df35a4884142b21a713ec48", func := "confluence/confluencelaw22.RaftAgain", spec := "raftAgain", unfollowed := true, recurses := true, plainKeys := false, apart := false }
def RaftAgainSaid : Prop := raftAgainRow.holds Tryz.pinned (OpenSpec.ofChange raftAgainSpec)

/-- ITS FALSE NEIGHBOUR: 'it returns false'. Refute it at one input. -/
def raftAgainWrong : ChangeSpec := { name := "raftAgain", fn := fun _ => fun
  | [d1, d2] => { results := [.lit (.bool false)], args := [d1, d2] }
  | _ => none }
def RaftAgainWrongFalsely : Prop := raftAgainRow.holds Tryz.pinned (OpenSpec.ofChange raftAgainWrong)

/-- 'confluencelaw22.RaftCuts': WHATEVER THE INPUT: true; the input reads as it did. -/
def raftCutsSpec : ChangeSpec := { name := "raftCuts", fn := fun _ => fun
  | [d1, d2, d3] => { results := [.lit (.bool true)], args := [d1, d2, d3] }
  | _ => none }
def raftCutsRow : OpenClaim := { program := "ytammkfjhlofmaaagreat", sum := "02d1d0d8f7f69ee6198e4c2309c8f64133511a3a6df35a4884142b21a713ec48", func := "confluence/confluencelaw22.RaftCuts", spec := "raftCuts", unfollowed := true, recurses := true, plainKeys := false, apart := false }
def RaftCutsSaid : Prop := raftCutsRow.holds Tryz.pinned (OpenSpec.ofChange raftCutsSpec)

/-- ITS FALSE NEIGHBOUR: 'it returns false'. Refute it at one input. -/
def raftCutsWrong : ChangeSpec := { name := "raftCuts", fn := fun _ => fun
  | [d1, d2, d3] => { results := [.lit (.bool false)], args := [d1, d2, d3] }
  | _ => none }
def RaftCutsWrongFalsely : Prop := raftCutsRow.holds Tryz.pinned (OpenSpec.ofChange raftCutsWrong)

/-- 'confluencelaw22.RaftDoubles': WHATEVER THE INPUT: true; the input reads as it did. -/
def raftDoublesSpec : ChangeSpec := { name := "raftDoubles", fn := fun _ => fun
  | [d1, d2, d3] => { results := [.lit (.bool true)], args := [d1, d2, d3] }
  | _ => none }
def raftDoublesRow : OpenClaim := { program := "ytammkfjhlofmaaagreat", sum := "02d1d0d8f7f69ee6198e4c2309c8f64133511a3a6df35a4884142b21a713ec48", func := "confluence/confluencelaw22.RaftDoubles", spec := "raftDoubles", unfollowed := true, recurses := true, plainKeys := false, apart := false }
def RaftDoublesSaid : Prop := raftDoublesRow.holds Tryz.pinned (OpenSpec.ofChange raftDoublesSpec)

/-- ITS FALSE NEIGHBOUR: 'it returns false'. Refute it at one input. -/
def raftDoublesWrong : ChangeSpec := { name := "raftDoubles", fn := fun _ => fun
  | [d1, d2, d3] => { results := [.lit (.bool false)], args := [d1, d2, d3] }
  | _ => none }
def RaftDoublesWrongFalsely : Prop := raftDoublesRow.holds Tryz.pinned (OpenSpec.ofChange raftDoublesWrong)

/-- 'confluencelaw22.RaftIdle': WHATEVER THE INPUT: true; the input reads as it did. -/
def raftIdleSpec : ChangeSpec := { name := "raftIdle", fn := fun _ => fun
  | [d1, d2] => { results := [.lit (.bool true)], args := [d1, d2] }
  | _ => none }
def raftIdleRow : OpenClaim := { program := "ytammkfjhlofmaaagreat", sum := "02d1d0d8f7f69ee6198e4c2309c8f64133511a3a6df35a4884142b21a713ec48", func := "confluence/confluencelaw22.RaftIdle", spec := "raftIdle", unfollowed := true, recurses := true, plainKeys := false, apart := false }
def RaftIdleSaid : Prop := raftIdleRow.holds Tryz.pinned (OpenSpec.ofChange raftIdleSpec)

/-- ITS FALSE NEIGHBOUR: 'it returns false'. Refute it at one input. -/
def raftIdleWrong : ChangeSpec := { name := "raftIdle", fn := fun _ => fun
  | [d1, d2] => { results := [.lit (.bool false)], args := [d1, d2] }
  | _ => none }
def RaftIdleWrongFalsely : Prop := raftIdleRow.holds Tryz.pinned (OpenSpec.ofChange raftIdleWrong)

/- THE SECOND FORM. 'bulk': how many values and letters a reading holds, each counted each time it is reached (what is shared counts as often as it is met; a slice's spare places count too). A statement '..UptoSaid' is the law's where the arguments, and the package variables that the reading takes, are together of bulk at most 1048576: NARROWER than '..Said'. Prove '..Said' where nothing that the law and all that it calls make is longer than what came in: it says more and counts as full. Else prove '..UptoSaid'. A law counts once. -/
mutual
def uptoBulk {H : Type} : DataW H → Nat
  | .lit (.string bytes) => bytes.length + 1
  | .lit _ => 1
  | .nil => 1
  | .ptr d => uptoBulk d + 1
  | .slice elems spare => uptoBulkAll elems + uptoBulkAll spare + 1
  | .agg parts => uptoBulkAll parts + 1
  | .iface _ d => uptoBulk d + 1
  | .map entries => uptoBulkEntries entries + 1
  | .held _ => 1
def uptoBulkAll {H : Type} : List (DataW H) → Nat
  | [] => 0
  | d :: r => uptoBulk d + uptoBulkAll r
def uptoBulkEntries {H : Type} : List (Lit × DataW H) → Nat
  | [] => 0
  | x :: r => uptoBulkEntry x + uptoBulkEntries r
def uptoBulkEntry {H : Type} : Lit × DataW H → Nat
  | (.string bytes, d) => bytes.length + uptoBulk d + 1
  | (_, d) => uptoBulk d + 1
 end
def uptoSmall : (H : Type) → List (DataW H) → Bool := fun _ ds => decide (uptoBulkAll ds ≤ 1048576)
def OpenSpec.upto (s : _root_.Go.ChangeSpec) : _root_.Go.OpenSpec := { _root_.Go.OpenSpec.ofChange s with cond := some uptoSmall }

/-- 'confluencelaw22.RaftAsks', WHERE WHAT IT READS IS OF BULK AT MOST 1048576: true; the input reads as it did. -/
def raftAsksUptoRow : OpenClaim := { program := "ytammkfjhlofmaaagreat", sum := "02d1d0d8f7f69ee6198e4c2309c8f64133511a3a6df35a4884142b21a713ec48", func := "confluence/confluencelaw22.RaftAsks", spec := "raftAsks", unfollowed := true, recurses := true, plainKeys := false, apart := false, narrowed := true }
def RaftAsksUptoSaid : Prop := raftAsksUptoRow.holds Tryz.pinned (OpenSpec.upto raftAsksSpec)

/-- 'confluencelaw22.RaftCrashes', WHERE WHAT IT READS IS OF BULK AT MOST 1048576: true; the input reads as it did. -/
def raftCrashesUptoRow : OpenClaim := { program := "ytammkfjhlofmaaagreat", sum := "02d1d0d8f7f69ee6198e4c2309c8f64133511a3a6df35a4884142b21a713ec48", func := "confluence/confluencelaw22.RaftCrashes", spec := "raftCrashes", unfollowed := true, recurses := true, plainKeys := false, apart := false, narrowed := true }
def RaftCrashesUptoSaid : Prop := raftCrashesUptoRow.holds Tryz.pinned (OpenSpec.upto raftCrashesSpec)

/-- 'confluencelaw22.RaftQuorum', WHERE WHAT IT READS IS OF BULK AT MOST 1048576: true; the input reads as it did. -/
def raftQuorumUptoRow : OpenClaim := { program := "ytammkfjhlofmaaagreat", sum := "02d1d0d8f7f69ee6198e4c2309c8f64133511a3a6df35a4884142b21a713ec48", func := "confluence/confluencelaw22.RaftQuorum", spec := "raftQuorum", unfollowed := true, recurses := true, plainKeys := false, apart := false, narrowed := true }
def RaftQuorumUptoSaid : Prop := raftQuorumUptoRow.holds Tryz.pinned (OpenSpec.upto raftQuorumSpec)

/-- 'confluencelaw22.RaftNumbers', WHERE WHAT IT READS IS OF BULK AT MOST 1048576: true; the input reads as it did. -/
def raftNumbersUptoRow : OpenClaim := { program := "ytammkfjhlofmaaagreat", sum := "02d1d0d8f7f69ee6198e4c2309c8f64133511a3a6df35a4884142b21a713ec48", func := "confluence/confluencelaw22.RaftNumbers", spec := "raftNumbers", unfollowed := true, recurses := true, plainKeys := false, apart := false, narrowed := true }
def RaftNumbersUptoSaid : Prop := raftNumbersUptoRow.holds Tryz.pinned (OpenSpec.upto raftNumbersSpec)

/-- 'confluencelaw22.RaftAgrees', WHERE WHAT IT READS IS OF BULK AT MOST 1048576: true; the input reads as it did. -/
def raftAgreesUptoRow : OpenClaim := { program := "ytammkfjhlofmaaagreat", sum := "02d1d0d8f7f69ee6198e4c2309c8f64133511a3a6df35a4884142b21a713ec48", func := "confluence/confluencelaw22.RaftAgrees", spec := "raftAgrees", unfollowed := true, recurses := true, plainKeys := false, apart := false, narrowed := true }
def RaftAgreesUptoSaid : Prop := raftAgreesUptoRow.holds Tryz.pinned (OpenSpec.upto raftAgreesSpec)

/-- 'confluencelaw22.RaftSurvives', WHERE WHAT IT READS IS OF BULK AT MOST 1048576: true; the input reads as it did. -/
def raftSurvivesUptoRow : OpenClaim := { program := "ytammkfjhlofmaaagreat", sum := "02d1d0d8f7f69ee6198e4c2309c8f64133511a3a6df35a4884142b21a713ec48", func := "confluence/confluencelaw22.RaftSurvives", spec := "raftSurvives", unfollowed := true, recurses := true, plainKeys := false, apart := false, narrowed := true }
def RaftSurvivesUptoSaid : Prop := raftSurvivesUptoRow.holds Tryz.pinned (OpenSpec.upto raftSurvivesSpec)

/-- 'confluencelaw22.RaftAgain', WHERE WHAT IT READS IS OF BULK AT MOST 1048576: true; the input reads as it did. -/
def raftAgainUptoRow : OpenClaim := { program := "ytammkfjhlofmaaagreat", sum := "02d1d0d8f7f69ee6198e4c2309c8f64133511a3a6df35a4884142b21a713ec48", func := "confluence/confluencelaw22.RaftAgain", spec := "raftAgain", unfollowed := true, recurses := true, plainKeys := false, apart := false, narrowed := true }
def RaftAgainUptoSaid : Prop := raftAgainUptoRow.holds Tryz.pinned (OpenSpec.upto raftAgainSpec)

/-- 'confluencelaw22.RaftCuts', WHERE WHAT IT READS IS OF BULK AT MOST 1048576: true; the input reads as it did. -/
def raftCutsUptoRow : OpenClaim := { program := "ytammkfjhlofmaaagreat", sum := "02d1d0d8f7f69ee6198e4c2309c8f64133511a3a6df35a4884142b21a713ec48", func := "confluence/confluencelaw22.RaftCuts", spec := "raftCuts", unfollowed := true, recurses := true, plainKeys := false, apart := false, narrowed := true }
def RaftCutsUptoSaid : Prop := raftCutsUptoRow.holds Tryz.pinned (OpenSpec.upto raftCutsSpec)

/-- 'confluencelaw22.RaftDoubles', WHERE WHAT IT READS IS OF BULK AT MOST 1048576: true; the input reads as it did. -/
def raftDoublesUptoRow : OpenClaim := { program := "ytammkfjhlofmaaagreat", sum := "02d1d0d8f7f69ee6198e4c2309c8f64133511a3a6df35a4884142b21a713ec48", func := "confluence/confluencelaw22.RaftDoubles", spec := "raftDoubles", unfollowed := true, recurses := true, plainKeys := false, apart := false, narrowed := true }
def RaftDoublesUptoSaid : Prop := raftDoublesUptoRow.holds Tryz.pinned (OpenSpec.upto raftDoublesSpec)

/-- 'confluencelaw22.RaftIdle', WHERE WHAT IT READS IS OF BULK AT MOST 1048576: true; the input reads as it did. -/
def raftIdleUptoRow : OpenClaim := { program := "ytammkfjhlofmaaagreat", sum := "02d1d0d8f7f69ee6198e4c2309c8f64133511a3a6df35a4884142b21a713ec48", func := "confluence/confluencelaw22.RaftIdle", spec := "raftIdle", unfollowed := true, recurses := true, plainKeys := false, apart := false, narrowed := true }
def RaftIdleUptoSaid : Prop := raftIdleUptoRow.holds Tryz.pinned (OpenSpec.upto raftIdleSpec)

end Rows
end Go.Proofs.YtammkfjhlofmaaaGreat
