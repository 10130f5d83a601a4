/- ShellBack, the tied card of its second form: a script that is written is read as itself; cut off anywhere it gives its first steps; for any steps whose bulk is at most the bound, and any place. Conditions: those that the given statement itself holds. -/
import Derived.Test.YtdknlglpmcchlaaGreatDoorRows
import Derived.Test.YtdknlglpmcchlaaGreatDoorEnvP
import Derived.Test.YtdknlglpmcchlaaGreatDoorFacts
import Derived.Test.YtdknlglpmcchlaaGreatDoorFactsT
import Derived.Test.YtdknlglpmcchlaaGreatDoorG
import Derived.Test.YtdknlglpmcchlaaGreatDoorCards
import Derived.Test.YtdknlglpmcchlaaGreatDoorTieX
import Derived.SevenTiedAt
import Derived.LaidMore
import Derived.Lay
import Derived.Stop.Joined
import Derived.WalkKit
import Derived.ProofKit
import Derived.OpenShut
import Derived.ShutString
import Derived.Deep.DeepHandedRow
set_option linter.all false
set_option linter.all false
set_option maxRecDepth 100000
namespace Go.Proofs.YtdknlglpmcchlaaGreatDoor.shellBack
open Go Go.ChangeShapes Go.WideShapes Go.ChangeAt Go.RowKit
theorem own : ownKnob Tryz.prog.godebug = none := by kernel_rfl
def laid : List (String × DataW Unit) := Rows.shellBackUptoRow.laid
theorem one_le {H : Type} (d : DataW H) : 1 ≤ Rows.uptoBulk d := by
 cases d with
 | lit l => cases l <;> simp [Rows.uptoBulk]
 | nil => simp [Rows.uptoBulk]
 | ptr d => simp [Rows.uptoBulk]
 | slice elems spare => simp [Rows.uptoBulk]
 | agg parts => simp [Rows.uptoBulk]
 | iface t d => simp [Rows.uptoBulk]
 | map entries => simp [Rows.uptoBulk]
 | held h => simp [Rows.uptoBulk]
theorem bulk {H : Type} : Go.Am.nk (H := H) Rows.uptoBulk Rows.uptoBulkAll where
 str b := by simp only [Rows.uptoBulk]
 slice e s := by simp only [Rows.uptoBulk]
 agg p := by simp only [Rows.uptoBulk]
 nil := by simp only [Rows.uptoBulkAll]
 cons d r := by simp only [Rows.uptoBulkAll]
 pos d := one_le d
theorem reads (os : Os) {H : Type} (enc : TypeId × Value → H) : ∃ places, DataW.whole enc Tryz.prog ((World.laidAll Tryz.prog os laid).forCall (fun _ _ => 0) ⟨#[], #[.slice none 0 0, .int .i64 0], []⟩).memory Tryz.f3.params.toList Rows.shellBackSpec.vars false (#[.slice none 0 0, .int .i64 0] : Array Value).toList 8 = some ([.nil, .lit (.int .i64 0)], [], places) :=
 ⟨[], by kernel_rfl⟩
theorem u0 : Tryz.prog.underlying 22 = some (.slice 28) := by kernel_rfl
theorem u1 : Tryz.prog.underlying 3 = some (.int .i64) := by kernel_rfl
theorem shp (os : Os) : ((World.laidAll Tryz.prog os laid).forCall (fun _ _ => 0) ⟨#[], #[.slice none 0 0, .int .i64 0], []⟩).Shaped Tryz.prog := World.shaped_of_ZipB (by kernel_rfl) (by kernel_rfl)
theorem okw (os : Os) : Input.okWideB Tryz.prog ((World.laidAll Tryz.prog os laid).forCall (fun _ _ => 0) ⟨#[], #[.slice none 0 0, .int .i64 0], []⟩) 3 ⟨#[], #[.slice none 0 0, .int .i64 0], []⟩ = true := by kernel_rfl
theorem pre (os : Os) {H : Type} (enc : TypeId × Value → H) : (Rows.OpenSpec.upto Rows.shellBackSpec).preRow enc Tryz.prog Tryz.f3 Rows.shellBackUptoRow.domain false laid ((World.laidAll Tryz.prog os laid).forCall (fun _ _ => 0) ⟨#[], #[.slice none 0 0, .int .i64 0], []⟩).memory #[.slice none 0 0, .int .i64 0] := by
 obtain ⟨places, hx⟩ := reads os enc
 exact OpenSpec.preRow_of_cond 8 hx (by kernel_rfl) (fun k hk => by cases hk; kernel_rfl) (by kernel_rfl)
  (by rw [MakeChecks.laidMetH_plain _ _ _ (by kernel_rfl)]; exact laidMet_laidAll _ (by kernel_rfl) (by kernel_rfl))
theorem gls : 6 < Tryz.prog.globals.size := of_decide_eq_true (by kernel_rfl)
theorem glr : (((begin Tryz.prog (fun _ _ => 0) default).world.heap[6]?).bind Go.Obj.row?).isSome = true := by kernel_rfl
theorem rt : Tryz.f3.resultTypes = #[4] := by kernel_rfl
set_option maxRecDepth 100000 in
theorem walk (H : Type) (enc : TypeId × Value → H) (F : Stop.Interp) (W : World) (base : Nat) (args : Array Value) (ds gs : List (DataW H)) (before : List MemPlace)
  (hval0 : ∀ (j : Nat) t v, Tryz.f3.params[j]? = some t → args[j]? = some v → Value.okWide Tryz.prog W .any base t v)
  (hW : DataW.Whole enc Tryz.prog Tryz.f3.params.toList (Rows.OpenSpec.upto Rows.shellBackSpec).vars false W args.toList ds gs before)
  (hcond : ∀ k, (Rows.OpenSpec.upto Rows.shellBackSpec).cond = some k → k H (ds ++ gs) = true) (hsh : W.ShapedOpen Tryz.prog) :
  Calls Tryz.prog 3 args W (fun e W' => ∃ v, e = .returned v ∧ ((Rows.OpenSpec.upto Rows.shellBackSpec).at F).post enc Tryz.prog Tryz.f3 false true false false W args v W') := by
 have hval := hval0
 have hW' := hW
 obtain ⟨p, q, hA0, hV, rfl, hfz, hnd⟩ := hW
 have hA := hA0
 rw [Tryz.params3] at hA hval
 obtain ⟨v0, vs0, d0, ds0, p0, q0, hargs, rfl, rfl, h0, r0⟩ := trodAll_cons hA
 obtain ⟨v1, vs1, d1, ds1, p1, q1, rfl, rfl, rfl, h1, r1⟩ := trodAll_cons r0
 obtain ⟨rfl, rfl, rfl⟩ := trodAll_nil r1
 obtain rfl : args = #[v0, v1] := by cases args; simp_all
 obtain ⟨rfl, rfl⟩ := trodVars_none hV
 clear hA0 hval0
 simp only [List.append_nil] at hW' hcond
 have hB := of_decide_eq_true (hcond _ rfl)
 have hZ := Go.Am.sJ (W := W) 6 7 hsh rfl gls glr
 refine (Go.Am.Seat.Ig Go.Am.Seat.ask (bulk (H := H)) hZ (fun _ => rfl) (Go.Am.yi u0 (hval 0 22 v0 rfl rfl)) (Go.Am.Eg u1 (hval 1 3 v1 rfl rfl)) h0 h1 (Nat.le_trans (Go.Am.nk.mem (bulk (H := H)) (l := [d0, d1]) (d := d0) (by simp)) hB)).mono fun e W' ⟨he, _, hb, ho, hu⟩ => ?_
 subst he
 exact ⟨_, rfl, Go.Am.Ed (s := Rows.shellBackSpec) (l := Go.Am.Seat.mO) hW' rfl (fun _ _ _ => trodAll_cons_mk (shut_bool Tryz.underlying4 _) trodAll_mk0) rfl rfl Go.Am.Seat.ask.k (fun t ht => (by decide : ∀ t, t ∈ ([22, 3] : List TypeId) → t ∈ Go.Am.Seat.mO) t (by rw [Tryz.params3] at ht; exact ht)) hb ho hu (ok_one rt rfl (okWide_bool_mk Tryz.underlying4 _))⟩
theorem lifted (os : Os) (started : os.Started) (H : Type) (enc : TypeId × Value → H) (F : Stop.Interp) :
  ReturnsInHanded {} Tryz.checked os 3 .any ((Rows.OpenSpec.upto Rows.shellBackSpec).preRow enc Tryz.prog Tryz.f3 Rows.shellBackUptoRow.domain false laid) (((Rows.OpenSpec.upto Rows.shellBackSpec).at F).post enc Tryz.prog Tryz.f3 false true false false) :=
 returnsInHanded_of_row (C := Tryz.checked) (s := Rows.OpenSpec.upto Rows.shellBackSpec) own started (by kernel_rfl) Tryz.func3
  (Go.Am.AW (enc := enc) (C := Tryz.checked) false (World.laidAll Tryz.prog os laid) #[.slice none 0 0, .int .i64 0] (World.laidAll_os _ _ _) (shp os) (okw os) (pre os enc))
  (fun W base args ds gs before hval hW _ hcond _ _ hsh _ => walk H enc F W base args ds gs before hval hW hcond hsh)
theorem nsi : ([22, 3] : List TypeId).all (fun t => !Tryz.prog.wantsStandIn t) = true := by kernel_rfl
theorem over : Rows.shellBackUptoRow.holds Tryz.pinned (Rows.OpenSpec.upto Rows.shellBackSpec) :=
 OpenClaim.holds_of_cond 3 Tryz.f3 rfl rfl rfl rfl rfl rfl rfl ⟨rfl, rfl, rfl, rfl, rfl⟩ rfl rfl rfl rfl rfl jn Tryz.func3 facts
  (of_decide_eq_true (by kernel_rfl)) (by unfold Func.isWrapper; first | (rw [if_pos (by decide +kernel)]; kernel_rfl) | (rw [if_neg (by decide +kernel)]; exact ⟨rfl, rfl⟩))
  (fun os started H enc _ F => by rw [OpenClaim.pre_eq_preRow]; exact lifted os started H enc F)
theorem bare : Rows.ShellBackUptoSaid := over
theorem proved : Rows.ShellBackUptoCardSaid :=
 Claim7.holds_tied_plain_at .later [] [.sentinel, .sentinel, .data, .data, .data] true (true, "d67ede3d7de1cbf0dfcad3de0ca6af7b771f6d8abf8ece302d036c74bf51e801") true
  bare (fun _ h => by cases h) t1 (fun _ h => by cases h) shellBackUpto_row_tie rfl ⟨rfl, rfl⟩ t2 rfl
  (fun f fn hf hfn => by
   obtain rfl : f = 3 := Option.some.inj (jn.symm.trans hf) |>.symm
   obtain rfl : fn = Tryz.f3 := (Option.some.inj (Tryz.func3.symm.trans hfn)).symm
   refine ⟨t3, fun j t ht => ?_⟩
   rw [Tryz.params3] at ht
   show Tryz.prog.wantsStandIn t = false
   exact (List.all_eq_true.1 nsi t (Array.mem_of_getElem? ht).val |> fun h => by simpa using h))
  t4
#print axioms proved
end Go.Proofs.YtdknlglpmcchlaaGreatDoor.shellBack
