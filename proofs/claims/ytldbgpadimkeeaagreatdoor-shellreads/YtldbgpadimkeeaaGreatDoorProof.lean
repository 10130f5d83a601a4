/- ShellReads, the tied card of its second form: every row of bytes is read as the document says: any bytes, and scripts of ones own with some turned; for arguments whose bulk is at most the bound. Conditions: those that the given statement itself holds. -/
import Derived.Test.YtldbgpadimkeeaaGreatDoorRows
import Derived.Test.YtldbgpadimkeeaaGreatDoorEnvP
import Derived.Test.YtldbgpadimkeeaaGreatDoorFacts
import Derived.Test.YtldbgpadimkeeaaGreatDoorFactsT
import Derived.Test.YtldbgpadimkeeaaGreatDoorG
import Derived.Test.YtldbgpadimkeeaaGreatDoorCards
import Derived.Test.YtldbgpadimkeeaaGreatDoorTieX
import Derived.SevenTiedAt
import Derived.LaidMore
import Derived.Lay
import Derived.Stop.Joined
import Derived.WalkKit
import Derived.ProofKit
import Derived.OpenShut
import Derived.ShutString
import Derived.Deep.DeepHandedRow
set_option linter.all false
set_option linter.all false
set_option maxRecDepth 100000
namespace Go.Proofs.YtldbgpadimkeeaaGreatDoor.shellReads
open Go Go.ChangeShapes Go.WideShapes Go.ChangeAt Go.RowKit
theorem own : ownKnob Tryz.prog.godebug = none := by kernel_rfl
def laid : List (String × DataW Unit) := Rows.shellReadsUptoRow.laid
theorem one_le {H : Type} (d : DataW H) : 1 ≤ Rows.uptoBulk d := by
 cases d with
 | lit l => cases l <;> simp [Rows.uptoBulk]
 | nil => simp [Rows.uptoBulk]
 | ptr d => simp [Rows.uptoBulk]
 | slice elems spare => simp [Rows.uptoBulk]
 | agg parts => simp [Rows.uptoBulk]
 | iface t d => simp [Rows.uptoBulk]
 | map entries => simp [Rows.uptoBulk]
 | held h => simp [Rows.uptoBulk]
theorem bulk {H : Type} : Go.Am.lq (H := H) Rows.uptoBulk Rows.uptoBulkAll where
 str b := by simp only [Rows.uptoBulk]
 slice e s := by simp only [Rows.uptoBulk]
 agg p := by simp only [Rows.uptoBulk]
 nil := by simp only [Rows.uptoBulkAll]
 cons d r := by simp only [Rows.uptoBulkAll]
 pos d := one_le d
theorem reads (os : Os) {H : Type} (enc : TypeId × Value → H) : ∃ places, DataW.whole enc Tryz.prog ((World.laidAll Tryz.prog os laid).forCall (fun _ _ => 0) ⟨#[], #[.slice none 0 0, .slice none 0 0, .int .i64 0, .int .u8 0], []⟩).memory Tryz.f3.params.toList Rows.shellReadsSpec.vars false (#[.slice none 0 0, .slice none 0 0, .int .i64 0, .int .u8 0] : Array Value).toList 8 = some ([.nil, .nil, .lit (.int .i64 0), .lit (.int .u8 0)], [], places) :=
 ⟨[], by kernel_rfl⟩
theorem u0 : Tryz.prog.underlying 22 = some (.slice 5) := by kernel_rfl
theorem u1 : Tryz.prog.underlying 23 = some (.slice 30) := by kernel_rfl
theorem u2 : Tryz.prog.underlying 3 = some (.int .i64) := by kernel_rfl
theorem u3 : Tryz.prog.underlying 5 = some (.int .u8) := by kernel_rfl
theorem shp (os : Os) : ((World.laidAll Tryz.prog os laid).forCall (fun _ _ => 0) ⟨#[], #[.slice none 0 0, .slice none 0 0, .int .i64 0, .int .u8 0], []⟩).Shaped Tryz.prog := World.shaped_of_ZipB (by kernel_rfl) (by kernel_rfl)
theorem okw (os : Os) : Input.okWideB Tryz.prog ((World.laidAll Tryz.prog os laid).forCall (fun _ _ => 0) ⟨#[], #[.slice none 0 0, .slice none 0 0, .int .i64 0, .int .u8 0], []⟩) 3 ⟨#[], #[.slice none 0 0, .slice none 0 0, .int .i64 0, .int .u8 0], []⟩ = true := by kernel_rfl
theorem pre (os : Os) {H : Type} (enc : TypeId × Value → H) : (Rows.OpenSpec.upto Rows.shellReadsSpec).preRow enc Tryz.prog Tryz.f3 Rows.shellReadsUptoRow.domain false laid ((World.laidAll Tryz.prog os laid).forCall (fun _ _ => 0) ⟨#[], #[.slice none 0 0, .slice none 0 0, .int .i64 0, .int .u8 0], []⟩).memory #[.slice none 0 0, .slice none 0 0, .int .i64 0, .int .u8 0] := by
 obtain ⟨places, hx⟩ := reads os enc
 exact OpenSpec.preRow_of_cond 8 hx (by kernel_rfl) (fun k hk => by cases hk; kernel_rfl) (by kernel_rfl)
  (by rw [MakeChecks.laidMetH_plain _ _ _ (by kernel_rfl)]; exact laidMet_laidAll _ (by kernel_rfl) (by kernel_rfl))
theorem gls : 6 < Tryz.prog.globals.size := of_decide_eq_true (by kernel_rfl)
theorem glr : (((begin Tryz.prog (fun _ _ => 0) default).world.heap[6]?).bind Go.Obj.row?).isSome = true := by kernel_rfl
theorem rt : Tryz.f3.resultTypes = #[4] := by kernel_rfl
set_option maxRecDepth 100000 in
theorem walk (H : Type) (enc : TypeId × Value → H) (F : Stop.Interp) (W : World) (base : Nat) (args : Array Value) (ds gs : List (DataW H)) (before : List MemPlace)
  (hval0 : ∀ (j : Nat) t v, Tryz.f3.params[j]? = some t → args[j]? = some v → Value.okWide Tryz.prog W .any base t v)
  (hW : DataW.Whole enc Tryz.prog Tryz.f3.params.toList (Rows.OpenSpec.upto Rows.shellReadsSpec).vars false W args.toList ds gs before)
  (hcond : ∀ k, (Rows.OpenSpec.upto Rows.shellReadsSpec).cond = some k → k H (ds ++ gs) = true) (hsh : W.ShapedOpen Tryz.prog) :
  Calls Tryz.prog 3 args W (fun e W' => ∃ v, e = .returned v ∧ ((Rows.OpenSpec.upto Rows.shellReadsSpec).at F).post enc Tryz.prog Tryz.f3 false true false false W args v W') := by
 have hval := hval0
 have hW' := hW
 obtain ⟨p, q, hA0, hV, rfl, hfz, hnd⟩ := hW
 have hA := hA0
 rw [Tryz.params3] at hA hval
 obtain ⟨v0, vs0, d0, ds0, p0, q0, hargs, rfl, rfl, h0, r0⟩ := trodAll_cons hA
 obtain ⟨v1, vs1, d1, ds1, p1, q1, rfl, rfl, rfl, h1, r1⟩ := trodAll_cons r0
 obtain ⟨v2, vs2, d2, ds2, p2, q2, rfl, rfl, rfl, h2, r2⟩ := trodAll_cons r1
 obtain ⟨v3, vs3, d3, ds3, p3, q3, rfl, rfl, rfl, h3, r3⟩ := trodAll_cons r2
 obtain ⟨rfl, rfl, rfl⟩ := trodAll_nil r3
 obtain rfl : args = #[v0, v1, v2, v3] := by cases args; simp_all
 obtain ⟨rfl, rfl⟩ := trodVars_none hV
 clear hA0 hval0
 simp only [List.append_nil] at hW' hcond
 have hB := of_decide_eq_true (hcond _ rfl)
 have hZ := Go.Am.tY (W := W) 6 7 hsh rfl gls glr
 refine (Go.Am.Seat.JH Go.Am.Seat.ask (bulk (H := H)) hZ (fun _ => rfl) (Go.Am.qM u0 (hval 0 22 v0 rfl rfl)) (Go.Am.qM u1 (hval 1 23 v1 rfl rfl)) (Go.Am.vW u2 (hval 2 3 v2 rfl rfl)) (Go.Am.vW u3 (hval 3 5 v3 rfl rfl)) h0 h1 h2 h3 (Nat.le_trans (Go.Am.lq.mem (bulk (H := H)) (l := [d0, d1, d2, d3]) (d := d0) (by simp)) hB) (Nat.le_trans (Go.Am.lq.mem (bulk (H := H)) (l := [d0, d1, d2, d3]) (d := d1) (by simp)) hB)).mono fun e W' ⟨he, _, hb, ho, hu⟩ => ?_
 subst he
 exact ⟨_, rfl, Go.Am.EV (s := Rows.shellReadsSpec) (l := Go.Am.Seat.ji) hW' rfl (fun _ _ _ => trodAll_cons_mk (shut_bool Tryz.underlying4 _) trodAll_mk0) rfl rfl Go.Am.Seat.ask.k (fun t ht => (by decide : ∀ t, t ∈ ([22, 23, 3, 5] : List TypeId) → t ∈ Go.Am.Seat.ji) t (by rw [Tryz.params3] at ht; exact ht)) hb ho hu (ok_one rt rfl (okWide_bool_mk Tryz.underlying4 _))⟩
theorem lifted (os : Os) (started : os.Started) (H : Type) (enc : TypeId × Value → H) (F : Stop.Interp) :
  ReturnsInHanded {} Tryz.checked os 3 .any ((Rows.OpenSpec.upto Rows.shellReadsSpec).preRow enc Tryz.prog Tryz.f3 Rows.shellReadsUptoRow.domain false laid) (((Rows.OpenSpec.upto Rows.shellReadsSpec).at F).post enc Tryz.prog Tryz.f3 false true false false) :=
 returnsInHanded_of_row (C := Tryz.checked) (s := Rows.OpenSpec.upto Rows.shellReadsSpec) own started (by kernel_rfl) Tryz.func3
  (Go.Am.BJ (enc := enc) (C := Tryz.checked) false (World.laidAll Tryz.prog os laid) #[.slice none 0 0, .slice none 0 0, .int .i64 0, .int .u8 0] (World.laidAll_os _ _ _) (shp os) (okw os) (pre os enc))
  (fun W base args ds gs before hval hW _ hcond _ _ hsh _ => walk H enc F W base args ds gs before hval hW hcond hsh)
theorem nsi : ([22, 23, 3, 5] : List TypeId).all (fun t => !Tryz.prog.wantsStandIn t) = true := by kernel_rfl
theorem over : Rows.shellReadsUptoRow.holds Tryz.pinned (Rows.OpenSpec.upto Rows.shellReadsSpec) :=
 OpenClaim.holds_of_cond 3 Tryz.f3 rfl rfl rfl rfl rfl rfl rfl ⟨rfl, rfl, rfl, rfl, rfl⟩ rfl rfl rfl rfl rfl jn Tryz.func3 facts
  (of_decide_eq_true (by kernel_rfl)) (by unfold Func.isWrapper; first | (rw [if_pos (by decide +kernel)]; kernel_rfl) | (rw [if_neg (by decide +kernel)]; exact ⟨rfl, rfl⟩))
  (fun os started H enc _ F => by rw [OpenClaim.pre_eq_preRow]; exact lifted os started H enc F)
theorem bare : Rows.ShellReadsUptoSaid := over
theorem proved : Rows.ShellReadsUptoCardSaid :=
 Claim7.holds_tied_plain_at .later [] [.sentinel, .sentinel, .data, .data, .data] true (true, "9e1ab7704a21855be79189e7beebfb0792500ace87ed66341dcfa8d65b485245") true
  bare (fun _ h => by cases h) t1 (fun _ h => by cases h) shellReadsUpto_row_tie rfl ⟨rfl, rfl⟩ t2 rfl
  (fun f fn hf hfn => by
   obtain rfl : f = 3 := Option.some.inj (jn.symm.trans hf) |>.symm
   obtain rfl : fn = Tryz.f3 := (Option.some.inj (Tryz.func3.symm.trans hfn)).symm
   refine ⟨t3, fun j t ht => ?_⟩
   rw [Tryz.params3] at ht
   show Tryz.prog.wantsStandIn t = false
   exact (List.all_eq_true.1 nsi t (Array.mem_of_getElem? ht).val |> fun h => by simpa using h))
  t4
#print axioms proved
end Go.Proofs.YtldbgpadimkeeaaGreatDoor.shellReads
