/- RaftIdle in full: a group that was told nothing but what this statement tells it knows nothing, and every node's log is empty; for any number and any items. No condition but those that the given statement itself holds. -/
import Derived.Test.YtfancojpkcapeaaGreatRows
import Derived.Test.YtfancojpkcapeaaGreatEnvP
import Derived.Test.YtfancojpkcapeaaGreatG
import Derived.WalkKit
import Derived.ProofKit
import Derived.OpenShut
set_option linter.all false
set_option linter.all false
set_option maxRecDepth 100000
namespace Go.Proofs.YtfancojpkcapeaaGreat.raftIdle
open Go Go.ChangeShapes Go.WideShapes Go.ChangeAt Go.RowKit
theorem own : ownKnob Tryz.prog.godebug = none := by kernel_rfl
theorem one_le {H : Type} (d : DataW H) : 1 ≤ Rows.uptoBulk d := by
 cases d with
 | lit l => cases l <;> simp [Rows.uptoBulk]
 | nil => simp [Rows.uptoBulk]
 | ptr d => simp [Rows.uptoBulk]
 | slice elems spare => simp [Rows.uptoBulk]
 | agg parts => simp [Rows.uptoBulk]
 | iface t d => simp [Rows.uptoBulk]
 | map entries => simp [Rows.uptoBulk]
 | held h => simp [Rows.uptoBulk]
theorem bulk {H : Type} : Go.Am.Av (H := H) Rows.uptoBulk Rows.uptoBulkAll where
 str b := by simp only [Rows.uptoBulk]
 slice e s := by simp only [Rows.uptoBulk]
 agg p := by simp only [Rows.uptoBulk]
 nil := by simp only [Rows.uptoBulkAll]
 cons d r := by simp only [Rows.uptoBulkAll]
 pos d := one_le d
theorem u0 : Tryz.prog.underlying 3 = some (.int .i64) := by kernel_rfl
theorem u1 : Tryz.prog.underlying 22 = some (.slice 29) := by kernel_rfl
theorem rt : Tryz.f3.resultTypes = #[4] := by kernel_rfl
theorem lifted (os : Os) (started : os.Started) (H : Type) (enc : TypeId × Value → H) :
  ReturnsInHanded {} Tryz.checked os 3 .any (Rows.raftIdleSpec.pre6 enc Tryz.prog Tryz.f3 Rows.raftIdleRow.domain false) (Rows.raftIdleSpec.post enc Tryz.prog Tryz.f3 false true false false) := by
 refine returnsInHanded_of_change (C := Tryz.checked) own started (by kernel_rfl) Tryz.func3
  (ChangeSpec.witness6 (enc := enc) (C := Tryz.checked) false ⟨#[], #[.int .i64 0, .slice none 0 0], []⟩ 8 (by kernel_rfl) (by kernel_rfl) (by kernel_rfl) (by kernel_rfl)) ?_
 intro W base args ds gs before hval0 hW hcnd _
 have hval : ∀ (j : Nat) t v, Tryz.f3.params[j]? = some t → args[j]? = some v → Value.okWide Tryz.prog W .any base t v := hval0
 have hW' := hW
 obtain ⟨p, q, hA0, hV, rfl, hfz, hnd⟩ := hW
 have hA : DataW.TrodAll enc Tryz.prog W 0 (fun _ => true) true Tryz.f3.params.toList args.toList ds p := hA0
 rw [Tryz.params3] at hA hval
 obtain ⟨v0, vs0, d0, ds0, p0, q0, hargs, rfl, rfl, h0, r0⟩ := trodAll_cons hA
 obtain ⟨v1, vs1, d1, ds1, p1, q1, rfl, rfl, rfl, h1, r1⟩ := trodAll_cons r0
 obtain ⟨rfl, rfl, rfl⟩ := trodAll_nil r1
 obtain rfl : args = #[v0, v1] := by cases args; simp_all
 obtain ⟨rfl, rfl⟩ := trodVars_none hV
 clear hA0 hval0
 simp only [List.append_nil] at hW'
 refine (Go.Am.Seat.JP Go.Am.Seat.ask (bulk (H := H)) (fun _ => rfl) (Go.Am.Fc u0 (hval 0 3 v0 rfl rfl)) (Go.Am.zt u1 (hval 1 22 v1 rfl rfl)) h0 h1).mono fun e W' ⟨he, _, hb, ho, hu⟩ => ?_
 subst he
 exact ⟨_, rfl, Go.Am.EZ (s := Rows.raftIdleSpec) (l := Go.Am.Seat.mV) hW' rfl (fun _ _ _ => trodAll_cons_mk (shut_bool Tryz.underlying4 _) trodAll_mk0) rfl rfl Go.Am.Seat.ask.k (fun t ht => (by decide : ∀ t, t ∈ ([3, 22] : List TypeId) → t ∈ Go.Am.Seat.mV) t (by rw [Tryz.params3] at ht; exact ht)) hb ho hu (ok_one rt rfl (okWide_bool_mk Tryz.underlying4 _))⟩
theorem over : Rows.raftIdleRow.holds Tryz.pinned (OpenSpec.ofChange Rows.raftIdleSpec) :=
 OpenClaim.holds_of_wide 3 Tryz.f3 rfl rfl rfl rfl rfl rfl rfl ⟨rfl, rfl, rfl, rfl, rfl⟩ rfl rfl rfl rfl rfl (by kernel_rfl) Tryz.func3 (by kernel_rfl)
  (of_decide_eq_true (by kernel_rfl)) (by unfold Func.isWrapper; first | (rw [if_pos (by decide +kernel)]; kernel_rfl) | (rw [if_neg (by decide +kernel)]; exact ⟨rfl, rfl⟩))
  (fun os started H enc _ => lifted os started H enc)
theorem proved : Rows.RaftIdleSaid :=
 over
#print axioms proved
end Go.Proofs.YtfancojpkcapeaaGreat.raftIdle
