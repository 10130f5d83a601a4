/- The abstract machine is sound: what its run says holds of the Go program. Conditions: the table of functions is the program's (Env). -/
import Derived.Test.YtldbgpadimkeeaaGreatDoorS0
import Derived.Orders
import Derived.Scope
import Derived.Laws.Sem
set_option linter.all false
namespace Go.Am
variable {P : Program} {φ : aU} {h h' : Hp} {w : World} {v : AV} {r : A2} {cx cy : Value} {t : TypeId} {G : Gl} {ρ : Operand → Value}
theorem wy {t : TypeId} {k : IntKind} {n : Int} {a b : TypeId} (ht : P.underlying t = some (.map a b)) (H : HR φ h w) (he : ri r h = .ok v h') : Good φ h w v h' ((Instr.makeMap t (some (.int k n))).run P w) := by
 have hrun : (Instr.makeMap t (some (.int k n))).run P w = (Instr.makeMap t none).run P w := by
  have ha : (asInt (.int k n)).run P w = .ok n w := rfl
  simp [Instr.makeMap, az ht, ha]
 rw [hrun]
 exact rW H he
section
variable {dst : Option Tmp} {type : TypeId} {pos : String} {after : Array Edge} {guard : Option (Nat × Bool)} {names : List String} {op : nV}
variable (hρ : ∀ q x, cO G q = some x → VR φ (ev x r) (ρ q))
include hρ
theorem Pc {t : TypeId} {x : Operand} (hop : cQ P G names ⟨dst, .makeInterface t x, type, pos, after, guard⟩ = some (.op op)) (H : HR φ h w) (he : op.run r h = .ok v h') : ct φ h w v h' ((execOp ρ ⟨dst, .makeInterface t x, type, pos, after, guard⟩).run P w) := by
 cases hu : P.underlying t with
 | none => simp [cQ, hu] at hop
 | some d =>
  have hn : ∀ m, d ≠ .interface m := by
   intro m e
   subst e
   simp [cQ, hu] at hop
  have hop : ∃ a, cO G x = some a ∧ nV.Rg t a = op := by
   cases d <;> simp only [cQ, hu, bind, Option.bind_eq_some_iff, Option.some.injEq, AI.op.injEq] at hop <;> first | exact hop | exact absurd rfl (hn _)
  obtain ⟨a, hx, rfl⟩ := hop
  exact (Gz H (hρ _ _ hx) hu hn he).jC
theorem Pd {fn : Fn} {first cap : Array Operand} (hop : cQ P G names ⟨dst, .makeFunc fn first cap, type, pos, after, guard⟩ = some (.op op)) (H : HR φ h w) (he : op.run r h = .ok v h') : ct φ h w v h' ((execOp ρ ⟨dst, .makeFunc fn first cap, type, pos, after, guard⟩).run P w) := by
  cases fn <;> simp only [cQ] at hop
  case func f =>
    split at hop
    · rename_i hf
      simp only [bind, Option.bind_eq_some_iff, Option.some.injEq, AI.op.injEq] at hop
      obtain ⟨l, hl, rfl⟩ := hop
      have g1 := mb (φ := φ) (r := r) (ρ := ρ) hl (fun o _ a ha => hρ _ _ ha)
      have e1 : first.map ρ = #[] := by have : first = #[] := by simpa using hf
                                        subst this; simp
      have e2 : cap.map ρ = (cap.toList.map ρ).toArray := by apply Array.ext'; simp
      show ct φ h w v h' ((do pure (.value (← Instr.makeFunc (.func f) (first.map ρ) (cap.map ρ))) : Sem Next).run P w)
      rw [e1, e2]
      exact (GA H g1 he).jC
    · cases hop
  all_goals cases hop
theorem GB {t : TypeId} {re : Option Operand} (hc : ∀ c, ρ (.const c) = c) (hop : cQ P G names ⟨dst, .makeMap t re, type, pos, after, guard⟩ = some (.op op)) (H : HR φ h w) (he : op.run r h = .ok v h') : ct φ h w v h' ((execOp ρ ⟨dst, .makeMap t re, type, pos, after, guard⟩).run P w) := by
 cases re with
 | none =>
  simp only [cQ, Option.some.injEq, AI.op.injEq] at hop
  subst hop
  exact (rW (r := r) H he).jC
 | some q =>
  cases q <;> (try (simp [cQ] at hop; done))
  rename_i cv
  cases cv <;> (try (simp [cQ] at hop; done))
  simp only [cQ] at hop
  split at hop
  ·rename_i hu
   cases hop
   refine Good.jC ?_
   show Good φ h w v h' ((Instr.makeMap t (some (ρ (.const (.int _ _))))).run P w)
   rw [hc]
   exact wy (r := r) (ar hu (by simp)) H he
  ·cases hop
theorem Az {t : TypeId} {x y : Operand} (hop : cQ P G names ⟨dst, .makeSlice t x y, type, pos, after, guard⟩ = some (.op op)) (H : HR φ h w) (he : op.run r h = .ok v h') : ct φ h w v h' ((execOp ρ ⟨dst, .makeSlice t x y, type, pos, after, guard⟩).run P w) := by
 simp only [cQ] at hop
 split at hop
 ·rename_i e hu
  simp only [bind, Option.bind_eq_some_iff] at hop
  obtain ⟨z, hz, hop⟩ := hop
  split at hop
  ·simp at hop
  ·rename_i hs
   simp only [not_or, Decidable.not_not] at hs
   simp only [bind, pure, Option.bind_some, Option.bind_eq_some_iff, Option.some.injEq, AI.op.injEq] at hop
   obtain ⟨a, hx, b, hy, rfl⟩ := hop
   exact (wz H (hρ _ _ hx) (hρ _ _ hy) (ar hu (by simp)) hz hs.2.1 hs.1 (by simpa using hs.2.2) he).jC
 ·cases hop
theorem GC {t : TypeId} {x : Operand} {l u m : Option Operand} (hop : cQ P G names ⟨dst, .slice t x l u m, type, pos, after, guard⟩ = some (.op op)) (H : HR φ h w) (he : op.run r h = .ok v h') : ct φ h w v h' ((execOp ρ ⟨dst, .slice t x l u m, type, pos, after, guard⟩).run P w) := by
 simp only [cQ] at hop
 split at hop
 ·rename_i hu
  split at hop
  ·simp at hop
  ·rename_i hm
   have hm : m = none := by simpa using hm
   subst hm
   simp only [bind, pure, Option.bind_some, Option.bind_eq_some_iff, Option.some.injEq, AI.op.injEq] at hop
   obtain ⟨a, hx, b, hb, c, hc, rfl⟩ := hop
   exact (DM H (hρ _ _ hx) (lv hρ hb) (lv hρ hc) (ar hu (by simp)) he).jC
 ·rename_i e hu
  split at hop
  ·simp at hop
  ·rename_i hs
   simp only [not_or, not_and] at hs
   obtain ⟨i, hi, hs'⟩ := mc hs.1
   simp only [bind, pure, Option.bind_some, Option.bind_eq_some_iff, Option.some.injEq, AI.op.injEq] at hop
   obtain ⟨a, hx, b, hb, c, hc, d, hd, rfl⟩ := hop
   rw [de hi] at he
   exact (GD H (hρ _ _ hx) (lv hρ hb) (lv hρ hc) (lv hρ hd) (ar hu (by simp)) hi (by omega) (fun g => by cases u <;> simp_all) he).jC
 ·rename_i n e hu
  split at hop
  ·simp at hop
  ·rename_i hs
   simp only [not_or, not_and] at hs
   obtain ⟨i, hi⟩ := gP hs.2
   simp only [bind, pure, Option.bind_some, Option.bind_eq_some_iff, Option.some.injEq, AI.op.injEq] at hop
   obtain ⟨a, hx, b, hb, c, hc, d, hd, rfl⟩ := hop
   rw [de hi] at he
   exact (DN H (hρ _ _ hx) (lv hρ hb) (lv hρ hc) (lv hρ hd) (ar hu (by simp)) hi (fun g => by cases u <;> simp_all) he).jC
 ·cases hop
theorem Pe {t : TypeId} {x : Operand} {f : Nat} (hop : cQ P G names ⟨dst, .fieldAddr t x f, type, pos, after, guard⟩ = some (.op op)) (H : HR φ h w) (he : op.run r h = .ok v h') : ct φ h w v h' ((execOp ρ ⟨dst, .fieldAddr t x f, type, pos, after, guard⟩).run P w) := by
 simp only [cQ] at hop
 split at hop
 ·rename_i fs hu
  simp only [bind, Option.bind_eq_some_iff] at hop
  obtain ⟨fd, hf, hop⟩ := hop
  split at hop
  ·simp at hop
  ·rename_i hs
   obtain ⟨i, hi, hs'⟩ := mc hs
   simp only [bind, pure, Option.bind_some, Option.bind_eq_some_iff, Option.some.injEq, AI.op.injEq] at hop
   obtain ⟨a, hx, rfl⟩ := hop
   exact (GF H (hρ _ _ hx) (ar hu (by simp)) hf hi hs' he).jC
 ·cases hop
theorem GG {t : TypeId} {x : Operand} {f : Nat} (hop : cQ P G names ⟨dst, .field t x f, type, pos, after, guard⟩ = some (.op op)) (H : HR φ h w) (he : op.run r h = .ok v h') : ct φ h w v h' ((execOp ρ ⟨dst, .field t x f, type, pos, after, guard⟩).run P w) := by
 simp only [cQ] at hop
 split at hop
 ·rename_i fs hu
  simp only [bind, Option.bind_eq_some_iff] at hop
  obtain ⟨fd, hf, hop⟩ := hop
  split at hop
  ·simp at hop
  ·rename_i hs
   obtain ⟨d, hd⟩ := gP hs
   obtain ⟨i, hi⟩ := iY hd
   split at hop
   ·rename_i ha
    simp only [bind, pure, Option.bind_some, Option.bind_eq_some_iff, Option.some.injEq, AI.op.injEq] at hop
    obtain ⟨a, hx, rfl⟩ := hop
    rw [de hi] at he
    exact (DP H (hρ _ _ hx) (ar hu (by simp)) hf hd ha hi he).jC
   ·rename_i ha
    simp only [bind, pure, Option.bind_some, Option.bind_eq_some_iff, Option.some.injEq, AI.op.injEq] at hop
    obtain ⟨a, hx, rfl⟩ := hop
    exact (DQ H (hρ _ _ hx) (ar hu (by simp)) hf hd (by simpa using ha) he).jC
 ·cases hop
theorem KS {t : TypeId} {x y : Operand} (hop : cQ P G names ⟨dst, .indexAddr t x y, type, pos, after, guard⟩ = some (.op op)) (H : HR φ h w) (he : op.run r h = .ok v h') : ct φ h w v h' ((execOp ρ ⟨dst, .indexAddr t x y, type, pos, after, guard⟩).run P w) := by
 simp only [cQ] at hop
 split at hop
 ·rename_i n e hu
  split at hop
  ·simp at hop
  ·rename_i hs
   obtain ⟨i, hi⟩ := gP hs
   simp only [bind, pure, Option.bind_some, Option.bind_eq_some_iff, Option.some.injEq, AI.op.injEq] at hop
   obtain ⟨a, hx, b, hb, rfl⟩ := hop
   rw [de hi] at he
   exact (GH H (hρ _ _ hx) (hρ _ _ hb) (ar hu (by simp)) hi he).jC
 ·rename_i e hu
  split at hop
  ·simp at hop
  ·rename_i hs
   obtain ⟨i, hi⟩ := gP hs
   simp only [bind, pure, Option.bind_some, Option.bind_eq_some_iff, Option.some.injEq, AI.op.injEq] at hop
   obtain ⟨a, hx, b, hb, rfl⟩ := hop
   rw [de hi] at he
   exact (GJ H (hρ _ _ hx) (hρ _ _ hb) (ar hu (by simp)) hi he).jC
 ·cases hop
theorem GK {t : TypeId} {x y : Operand} (hop : cQ P G names ⟨dst, .index t x y, type, pos, after, guard⟩ = some (.op op)) (H : HR φ h w) (he : op.run r h = .ok v h') : ct φ h w v h' ((execOp ρ ⟨dst, .index t x y, type, pos, after, guard⟩).run P w) := by
 simp only [cQ] at hop
 split at hop
 ·rename_i hu
  simp only [bind, pure, Option.bind_some, Option.bind_eq_some_iff, Option.some.injEq, AI.op.injEq] at hop
  obtain ⟨a, hx, b, hb, rfl⟩ := hop
  exact (DR H (hρ _ _ hx) (hρ _ _ hb) (ar hu (by simp)) he).jC
 ·rename_i n e hu
  split at hop
  ·simp at hop
  ·rename_i hs
   obtain ⟨d, hd⟩ := gP hs
   obtain ⟨i, hi⟩ := iY hd
   simp only [bind, pure, Option.bind_some, Option.bind_eq_some_iff, Option.some.injEq, AI.op.injEq] at hop
   obtain ⟨a, hx, b, hb, rfl⟩ := hop
   rw [de hi] at he
   exact (DT H (hρ _ _ hx) (hρ _ _ hb) (ar hu (by simp)) hd hi he).jC
 ·cases hop
theorem Pf {t : TypeId} {x y : Operand} {ok : Bool} (hop : cQ P G names ⟨dst, .lookup t x y ok, type, pos, after, guard⟩ = some (.op op)) (H : HR φ h w) (he : op.run r h = .ok v h') : ct φ h w v h' ((execOp ρ ⟨dst, .lookup t x y ok, type, pos, after, guard⟩).run P w) := by
 simp only [cQ] at hop
 split at hop
 ·rename_i k e hu
  simp only [bind, pure, Option.bind_some, Option.bind_eq_some_iff, Option.some.injEq, AI.op.injEq] at hop
  obtain ⟨kt, hk, z, hz, a, hx, b, hb, rfl⟩ := hop
  obtain ⟨k', e', hu', hk'⟩ := lx hk
  have := ar hu (by simp)
  rw [this] at hu'; cases hu'
  exact (GL H (hρ _ _ hx) (hρ _ _ hb) this hk' hz he).jC
 ·cases hop
theorem Ph {t : TypeId} {x y z : Operand} (hop : cQ P G names ⟨dst, .mapUpdate t x y z, type, pos, after, guard⟩ = some (.op op)) (H : HR φ h w) (he : op.run r h = .ok v h') : ct φ h w v h' ((execOp ρ ⟨dst, .mapUpdate t x y z, type, pos, after, guard⟩).run P w) := by
 simp only [cQ, bind, Option.bind_eq_some_iff, Option.some.injEq, AI.op.injEq] at hop
 obtain ⟨kt, hk, a, hx, b, hb, c, hc, rfl⟩ := hop
 obtain ⟨k', e', hu', hk'⟩ := lx hk
 obtain ⟨g1, g2⟩ := yg H (hρ _ _ hx) (hρ _ _ hb) (hρ _ _ hc) hu' hk' he
 exact g2.jC g1
theorem Pj {t : TypeId} {x y z : Operand} (hop : cQ P G names ⟨dst, .insert t x y z, type, pos, after, guard⟩ = some (.op op)) (H : HR φ h w) (he : op.run r h = .ok v h') : ct φ h w v h' ((execOp ρ ⟨dst, .insert t x y z, type, pos, after, guard⟩).run P w) := by
 simp only [cQ, bind, Option.bind_eq_some_iff, Option.some.injEq, AI.op.injEq] at hop
 obtain ⟨kt, hk, a, hx, b, hb, c, hc, rfl⟩ := hop
 obtain ⟨k', e', hu', hk'⟩ := lx hk
 obtain ⟨g1, g2⟩ := yg H (hρ _ _ hx) (hρ _ _ hb) (hρ _ _ hc) hu' hk' he
 exact g2.jC g1
theorem GM {t : TypeId} {x : Operand} (hop : cQ P G names ⟨dst, .range t x, type, pos, after, guard⟩ = some (.op op)) (H : HR φ h w) (he : op.run r h = .ok v h') : ct φ h w v h' ((execOp ρ ⟨dst, .range t x, type, pos, after, guard⟩).run P w) := by
 simp only [cQ] at hop
 split at hop
 ·rename_i k e hu
  simp only [bind, pure, Option.bind_some, Option.bind_eq_some_iff, Option.some.injEq, AI.op.injEq] at hop
  obtain ⟨a, hx, rfl⟩ := hop
  exact (DU H (hρ _ _ hx) (ar hu (by simp)) he).jC
 ·cases hop
theorem Pk {x : Operand} (hop : cQ P G names ⟨dst, .entry x, type, pos, after, guard⟩ = some (.op op)) (H : HR φ h w) (he : op.run r h = .ok v h') : ct φ h w v h' ((execOp ρ ⟨dst, .entry x, type, pos, after, guard⟩).run P w) := by
 simp only [cQ, bind, Option.bind_eq_some_iff, Option.some.injEq, AI.op.injEq] at hop
 obtain ⟨a, hx, rfl⟩ := hop
 exact (GN H (hρ _ _ hx) he).jC
theorem Pl {t u : TypeId} {x : Operand} {ok : Bool} (hop : cQ P G names ⟨dst, .typeAssert x u t ok, type, pos, after, guard⟩ = some (.op op)) (H : HR φ h w) (he : op.run r h = .ok v h') : ct φ h w v h' ((execOp ρ ⟨dst, .typeAssert x u t ok, type, pos, after, guard⟩).run P w) := by
 simp only [cQ] at hop
 split at hop
 ·simp at hop
 ·rename_i hs
  by_cases hn : (P.underlying t).isNone = true
  ·simp [hn] at hop
  ·rw [if_neg (by simp [hn])] at hop
   obtain ⟨d, hd⟩ := gP hn
   simp only [bind, pure, Option.bind_some, Option.bind_eq_some_iff, Option.some.injEq, AI.op.injEq] at hop
   obtain ⟨z, hz, a, hx, rfl⟩ := hop
   refine (GO H (hρ _ _ hx) hd (fun m e => ?_) hz he).jC
   subst e
   exact hs m (by simp [kc, hd])
theorem Pm {x : Operand} {i : Nat} (hop : cQ P G names ⟨dst, .extract x i, type, pos, after, guard⟩ = some (.op op)) (H : HR φ h w) (he : op.run r h = .ok v h') : ct φ h w v h' ((execOp ρ ⟨dst, .extract x i, type, pos, after, guard⟩).run P w) := by
 simp only [cQ, bind, Option.bind_eq_some_iff, Option.some.injEq, AI.op.injEq] at hop
 obtain ⟨a, hx, rfl⟩ := hop
 exact (GP H (hρ _ _ hx) he).jC
theorem KU {c : Call} (hop : cQ P G names ⟨dst, .call c, type, pos, after, guard⟩ = some (.op op)) (H : HR φ h w) (he : op.run r h = .ok v h') : ct φ h w v h' ((execOp ρ ⟨dst, .call c, type, pos, after, guard⟩).run P w) := by
 simp only [cQ, bind, Option.bind_eq_some_iff] at hop
 obtain ⟨xs, hxs, hop⟩ := hop
 have g1 := mb (φ := φ) (r := r) (ρ := ρ) hxs (fun o _ a ha => hρ _ _ ha)
 split at hop
 ·rename_i b hb
  simp only [Option.map_eq_some_iff, AI.op.injEq] at hop
  obtain ⟨o, ho, rfl⟩ := hop
  obtain ⟨s, e, hg⟩ := wA (ty := type) (cs := c.args.map fun | .const _ => true | _ => false) ho H g1 he
  have e2 : c.args.map ρ = (c.args.toList.map ρ).toArray := by apply Array.ext'; simp
  have : (execOp ρ ⟨dst, .call c, type, pos, after, guard⟩).run P w = (do pure (.value (← s)) : Sem Next).run P w := by
   rw [← e, ← e2]
   simp only [execOp, resolve, hb, Sem.run_bind, Sem.run_pure, Result.andThen_ok, invoke]
   rfl
  rw [this]
  exact hg.jC
 ·cases hop
 ·simp only [bind, Option.bind_eq_some_iff, Option.some.injEq] at hop
  obtain ⟨a, _, e⟩ := hop; cases e
 ·simp only [bind, Option.bind_eq_some_iff, Option.some.injEq] at hop
  obtain ⟨a, _, b, _, e⟩ := hop; cases e
theorem KW {t : TypeId} {x y : Operand} (hop : cQ P G names ⟨dst, .mapEntry t x y, type, pos, after, guard⟩ = some (.op op)) (H : HR φ h w) (he : op.run r h = .ok v h') : ct φ h w v h' ((execOp ρ ⟨dst, .mapEntry t x y, type, pos, after, guard⟩).run P w) := by
 simp only [cQ] at hop
 split at hop
 ·rename_i k e hu
  simp only [bind, pure, Option.bind_some, Option.bind_eq_some_iff, Option.some.injEq, AI.op.injEq] at hop
  obtain ⟨kt, hk, zv, hz, a, hx, b, hb, rfl⟩ := hop
  obtain ⟨k', e', hu', hk'⟩ := lx hk
  have hu2 := ar hu (by simp)
  rw [hu2] at hu'
  cases hu'
  exact (DV H (hρ _ _ hx) (hρ _ _ hb) hu2 hk' hz he).jC
 ·cases hop
theorem KX {t : TypeId} {x y z : Operand} (hop : cQ P G names ⟨dst, .entryStore t x y z, type, pos, after, guard⟩ = some (.op op)) (H : HR φ h w) (he : op.run r h = .ok v h') : ct φ h w v h' ((execOp ρ ⟨dst, .entryStore t x y z, type, pos, after, guard⟩).run P w) := by
 simp only [cQ, bind, Option.bind_eq_some_iff, Option.some.injEq, AI.op.injEq] at hop
 obtain ⟨a, hx, b, hb, c, hc, rfl⟩ := hop
 obtain ⟨g1, g2⟩ := DW (t := t) H (hρ _ _ hx) (hρ _ _ hb) (hρ _ _ hc) he
 exact g2.jC g1
end
variable {P : Program} {φ : aU} {h h' : Hp} {w : World} {v : AV} {r : A2} {cx cy : Value} {t : TypeId} {G : Gl} {ρ : Operand → Value} {names : List String}
theorem KY {op : nV} {o : Oper} (hρ : ∀ q x, cO G q = some x → VR φ (ev x r) (ρ q)) (hc : ∀ c, ρ (.const c) = c) (hop : cQ P G names o = some (.op op)) (H : HR φ h w) (he : op.run r h = .ok v h') :
  ct φ h w v h' ((execOp ρ o).run P w) := by
 obtain ⟨dst, x, type, pos, after, guard⟩ := o
 cases x with
 | move x => exact Rr hρ hop H he
 | assign x => exact Rt hρ hop H he
 | pick c a b => exact KZ hρ hop H he
 | alloc e => exact GQ hρ hop H he
 | box e x => exact Pn hρ hop H he
 | build t ps => exact GR hρ hop H he
 | buildSlice t n ps => exact DX hρ hop H he
 | insert t m k x => exact Pj hρ hop H he
 | load t x => exact La hρ hop H he
 | store t x y => exact GS hρ hop H he
 | ready g => cases hop
 | waits g => cases hop
 | nilCheck x => exact Lc hρ hop H he
 | binOp o t x y u => exact Po hρ hc hop H he
 | unOp o t x => exact Ru hρ hop H he
 | convert s d x => exact Ld hρ hop H he
 | sliceToArrayPointer d x => cases hop
 | makeInterface t x => exact Pc hρ hop H he
 | makeFunc f a b => exact Pd hρ hop H he
 | makeMap t re => exact GB hρ hc hop H he
 | makeChan t x => cases hop
 | makeSlice t l c => exact Az hρ hop H he
 | slice t x l u m => exact GC hρ hop H he
 | fieldAddr t x f => exact Pe hρ hop H he
 | field t x f => exact GG hρ hop H he
 | indexAddr t x i => exact KS hρ hop H he
 | index t x i => exact GK hρ hop H he
 | lookup t x i ok => exact Pf hρ hop H he
 | mapUpdate t m k x => exact Ph hρ hop H he
 | mapEntry t m k => exact KW hρ hop H he
 | entryStore t m s x => exact KX hρ hop H he
 | range t x => exact GM hρ hop H he
 | next x s =>
  simp only [cQ] at hop
  split at hop
  ·simp at hop
  ·simp only [bind, Option.bind_eq_some_iff, Option.some.injEq] at hop
   obtain ⟨a, _, e⟩ := hop; cases e
 | entry x => exact Pk hρ hop H he
 | typeAssert x u t ok => exact Pl hρ hop H he
 | extract x i => exact Pm hρ hop H he
 | call c => exact KU hρ hop H he
 | go c => cases hop
 | defer c => cases hop
 | panic x => cases hop
 | send c x => cases hop
 | recv t c ok => cases hop
 | select cs b => cases hop
theorem GU {s : Bool} {x : AO} {o : Oper} (hρ : ∀ q x, cO G q = some x → VR φ (ev x r) (ρ q)) (hop : cQ P G names o = some (.KM s x)) (H : HR φ h w) (hs : (qx s (ev x r) h).Safe) :
  ∃ cv w' φ' v h', (qx s (ev x r) h).bt (.ok v h') ∧ (execOp ρ o).run P w = .ok (.value cv) w' ∧ VR φ' v cv ∧ HR φ' h' w' ∧ Step φ h w φ' h' w' := (RT.Safe.err (n := 9) hs).elim
inductive RS.bt : RS → RS → Prop
 | nm (r : A2) (h : Hp) : bt (.nm r h) (.nm r h)
 | ex (i : Nat) (r : A2) (h : Hp) : bt (.ex i r h) (.ex i r h)
 | go (i : Nat) (r : A2) (h : Hp) : bt (.go i r h) (.go i r h)
 | ret (r : A2) (h : Hp) : bt (.ret r h) (.ret r h)
 | err (n : Nat) : bt (.err n) (.err n)
 | ch (n : Nat) (k : Nat → RS) (c : Nat) (y : RS) : c < n → bt (k c) y → bt (.ch n k) y
def RS.Safe (x : RS) : Prop := ∀ n, ¬ x.bt (.err n)
theorem RS.Safe.err {n : Nat} (h : (RS.err n).Safe) : False := h n (.err n)
theorem kh {d : bX} {k : A2 → Hp → RS} {r : A2} {v : AV} {h' : Hp} {y : RS} : ∀ {x z : RT}, x.bt z → z = .ok v h' → (k (dg d v r) h').bt y → (stepT d k r x).bt y
 | _, _, .ok v h, e, g => by cases e; exact g
 | _, _, .err n, e, g => by cases e
 | _, _, .ch n kk c y' hc hl, e, g => .ch n _ c _ hc (kh hl e g)
theorem ly {d : bX} {k : A2 → Hp → RS} {r : A2} {n : Nat} : ∀ {x z : RT}, x.bt z → z = .err n → (stepT d k r x).bt (.err n)
 | _, _, .ok v h, e => by cases e
 | _, _, .err n, e => by cases e; exact .err n
 | _, _, .ch n kk c y' hc hl, e => .ch n _ c _ hc (ly hl e)
theorem rX {d : bX} {k : A2 → Hp → RS} {r : A2} {x : RT} (hs : (stepT d k r x).Safe) : x.Safe ∧ ∀ v h', x.bt (.ok v h') → (k (dg d v r) h').Safe :=
 ⟨fun n hl => hs n (ly hl rfl), fun _ _ hl n hn => hs n (kh hl rfl hn)⟩
noncomputable def AI.res (i : AI) (p : Pg) (run : iP) (r : A2) (h : Hp) : RT := match i with
 | .op o => (o.run r h).nU
 | .KM s x => qx s (ev x r) h
 | .call f xs => aB p run f (fR xs r) h
 | .mO x xs => kY p run (ev x r) (fR xs r) h
 | .inv n x xs => aH p run n (ev x r) (fR xs r) h
theorem ot (i : AI) (p : Pg) (run : iP) (d : bX) (k : A2 → Hp → RS) (r : A2) (h : Hp) : i.exec p run d k r h = stepT d k r (i.res p run r h) := by
 cases i with
 | op o =>
  show Cq d k r (o.run r h) = stepT d k r (o.run r h).nU
  cases o.run r h <;> rfl
 | _ => rfl
theorem rY {v : RV} (hs : v.nU.Safe) : ∃ a h, v = .ok a h := by
 cases v with
 | ok a h => exact ⟨a, h, rfl⟩
 | err n => exact (RT.Safe.err hs).elim
abbrev NB (G : Gl) : Prop := Nonempty (G.b = none)
instance Ua : NB 0 := ⟨rfl⟩
instance Ub {n : Nat} {l : List (P4 × Nat)} : NB ⟨n, l, none⟩ := ⟨rfl⟩
theorem nb (G : Gl) [i : NB G] : G.b = none := i.elim id
theorem Ct {G : Gl} {t s : Nat} (e : G.sl t = some s) : s < 256 ∧ G.tm s = t := by
 unfold Gl.sl at e
 unfold Gl.tm
 cases hb : G.b with
 | none =>
  rw [hb] at e
  have e : (if t < 256 then some t else none) = some s := e
  split at e
  ·rename_i h1; cases e; exact ⟨h1, rfl⟩
  ·cases e
 | some q =>
  rw [hb] at e
  have e : (if t < 16 * q then (if t < 256 then some t else none) else if t < 16 * q + 16 then none else if t < 272 then some (t - 16) else none) = some s := e
  split at e
  ·rename_i h1
   split at e
   ·rename_i h2; cases e; exact ⟨h2, if_pos h1⟩
   ·cases e
  ·split at e
   ·cases e
   ·rename_i h1 h2
    split at e
    ·rename_i h3
     cases e
     refine ⟨by omega, ?_⟩
     show (if t - 16 < 16 * q then t - 16 else t - 16 + 16) = t
     rw [if_neg (by omega)]
     omega
    ·cases e
theorem Pp {G : Gl} {s t : Nat} (e : G.tm s = G.tm t) : s = t := by
 unfold Gl.tm at e
 cases hb : G.b with
 | none => rw [hb] at e; exact e
 | some q =>
  rw [hb] at e
  have e : (if s < 16 * q then s else s + 16) = (if t < 16 * q then t else t + 16) := e
  split at e <;> split at e <;> omega
theorem Cu (G : Gl) [NB G] (s : Nat) : G.tm s = s := by unfold Gl.tm; rw [nb G]
theorem Cw (G : Gl) [NB G] (t : Nat) : G.sl t = if t < 256 then some t else none := by unfold Gl.sl; rw [nb G]
theorem Le {G : Gl} [NB G] {t : Nat} (h : t < 256) : G.sl t = some t := by rw [Cw, if_pos h]
theorem GV {G : Gl} [NB G] {t s : Nat} (e : G.sl t = some s) : s = t ∧ t < 256 := by
 rw [Cw] at e
 split at e
 ·rename_i h; cases e; exact ⟨rfl, h⟩
 ·cases e
def mF (G : Gl) (φ : aU) : Prop := (∀ g, g < G.n → ∃ room, φ (P4.of g) = some ⟨g, 0, room⟩) ∧ ∀ x, x ∈ G.sy → φ x.1 = some ⟨0, 0, x.2⟩
theorem mF.mono {G : Gl} {φ ψ : aU} (g : mF G φ) (h : φ.le ψ) : mF G ψ := ⟨fun i hi => let ⟨room, e⟩ := g.1 i hi; ⟨room, h _ _ e⟩, fun x hx => h _ _ (g.2 x hx)⟩
structure St (n : Nat) (G : Gl) (φ : aU) (r : A2) (h : Hp) (a : Act) (w : World) : Prop where
 hr : HR φ h w
 aI : ∀ t, t < 256 → VR φ (aC (hi t) (lo t) r) (a.tmps.getD (G.tm t) undef)
 fT : a.defers = []
 size : n ≤ a.tmps.size
 jD : mF G φ
variable {P : Program} {φ φ' : aU} {h h' : Hp} {w w' : World} {v : AV} {r : A2} {a : Act} {cv : Value} {n : Nat} {G : Gl} {names : List String} {p : Pg} {run : iP}
theorem GW {s t : Nat} (hs : s < 256) (ht : t < 256) : (hi s = hi t ∧ lo s = lo t) ↔ s = t := by
 constructor
 ·rintro ⟨h1, h2⟩
  have e1 := me (show s / 16 < 16 by omega) (show t / 16 < 16 by omega) h1
  have e2 := me (show s % 16 < 16 by omega) (show t % 16 < 16 by omega) h2
  omega
 ·rintro rfl; exact ⟨rfl, rfl⟩
theorem St.Su (S : St n G φ r h a w) {q : Operand} {x : AO} (e : cO G q = some x) : VR φ (ev x r) (a.eval q) := by
 cases q with
 | tmp t =>
  simp only [cO, Option.map_eq_some_iff] at e
  obtain ⟨s, hs, rfl⟩ := e
  obtain ⟨h1, h2⟩ := Ct hs
  have := S.aI s h1
  rw [h2] at this
  exact this
 | const c =>
  simp only [cO, Option.map_eq_some_iff] at e
  obtain ⟨b, hb, rfl⟩ := e
  exact yh hb φ
 | global g =>
  simp only [cO] at e
  split at e
  ·rename_i hg
   cases e
   obtain ⟨room, hp⟩ := S.jD.1 g hg
   have := VR.ptr (φ := φ) _ 0 _ hp
   show VR φ (.ptr (P4.of g) 0) (.pointer (some ⟨g, 0, none⟩))
   simpa [Place.addr] using this
  ·cases e
 | func f => cases e; exact .fn f [] [] .nil
theorem St.put (S : St n G φ r h a w) {o : Option Tmp} {d : bX} (hd : ou G n o = some d) (hv : VR φ' v cv) (H : HR φ' h' w') (T : Step φ h w φ' h' w') : St n G φ' (dg d v r) h' (a.put o cv) w' := by
 cases o with
 | none =>
  cases hd
  exact ⟨H, fun t ht => (S.aI t ht).mono T.le, S.fT, S.size, S.jD.mono T.le⟩
 | some t =>
  simp only [ou] at hd
  split at hd
  ·rename_i s hs
   split at hd
   ·rename_i hn
    cases hd
    obtain ⟨h1, h2⟩ := Ct hs
    refine ⟨H, fun u hu => ?_, S.fT, by simpa [Act.put] using S.size, S.jD.mono T.le⟩
    show VR φ' (aC (hi u) (lo u) (rM (hi s) (lo s) v r)) ((a.tmps.setIfInBounds t cv).getD (G.tm u) undef)
    rw [gZ]
    by_cases e : u = s
    ·subst e
     rw [if_pos ⟨rfl, rfl⟩, h2]
     have : (a.tmps.setIfInBounds t cv).getD t undef = cv := by
      have h3 : t < a.tmps.size := Nat.lt_of_lt_of_le hn S.size
      simp [Array.getD, h3]
     rw [this]; exact hv
    ·rw [if_neg (fun g => e ((GW hu h1).1 g))]
     have hne : G.tm u ≠ t := fun g => e (Pp (g.trans h2.symm))
     have : (a.tmps.setIfInBounds t cv).getD (G.tm u) undef = a.tmps.getD (G.tm u) undef := by
      simp only [Array.getD_eq_getD_getElem?, Array.getElem?_setIfInBounds, if_neg (Ne.symm hne)]
     rw [this]; exact (S.aI u hu).mono T.le
   ·cases hd
  ·cases hd
theorem St.Pq [NB G] (S : St n G φ r h a w) (t : Nat) (ht : t < 256) : VR φ (aC (hi t) (lo t) r) (a.tmps.getD t undef) := by
 have := S.aI t ht
 rw [Cu] at this
 exact this
theorem St.mk' [NB G] (hr : HR φ h w) (aI : ∀ t, t < 256 → VR φ (aC (hi t) (lo t) r) (a.tmps.getD t undef)) (fT : a.defers = []) (size : n ≤ a.tmps.size) (jD : mF G φ) : St n G φ r h a w :=
 ⟨hr, fun t ht => by rw [Cu]; exact aI t ht, fT, size, jD⟩
theorem rZ [NB G] {t : Nat} {d : bX} (hd : ou G n (some t) = some d) : t < 256 ∧ t < n ∧ d = .t (hi t) (lo t) := by
 simp only [ou] at hd
 split at hd
 ·rename_i s hs
  obtain ⟨rfl, h1⟩ := GV hs
  split at hd
  ·rename_i h2; cases hd; exact ⟨h1, h2, rfl⟩
  ·cases hd
 ·cases hd
theorem yi {f : Nat → A1} : ∀ {i : Nat}, i < 16 → A2.get (dG i) (.mk (f 0) (f 1) (f 2) (f 3) (f 4) (f 5) (f 6) (f 7) (f 8) (f 9) (f 10) (f 11) (f 12) (f 13) (f 14) (f 15)) = f i := by
 intro i hi
 match i, hi with
 | 0, _ => rfl
 | 1, _ => rfl
 | 2, _ => rfl
 | 3, _ => rfl
 | 4, _ => rfl
 | 5, _ => rfl
 | 6, _ => rfl
 | 7, _ => rfl
 | 8, _ => rfl
 | 9, _ => rfl
 | 10, _ => rfl
 | 11, _ => rfl
 | 12, _ => rfl
 | 13, _ => rfl
 | 14, _ => rfl
 | 15, _ => rfl
 | k + 16, h => omega
theorem DY {q s : Nat} (hs : s < 256) : aC (hi s) (lo s) (rU q r) = if s < 16 * q then aC (hi s) (lo s) r else if s < 240 then aC (hi (s + 16)) (lo (s + 16)) r else .undef := by
 show A1.get (lo s) (A2.get (dG (s / 16)) (rU q r)) = _
 have e : A2.get (dG (s / 16)) (rU q r) = xD q r (s / 16) := yi (f := xD q r) (by omega)
 rw [e]
 show A1.get (lo s) (@Bool.rec (fun _ => A1) (A2.get (dG (s / 16)) r) (@Bool.rec (fun _ => A1) (A2.get (dG (Nat.succ (s / 16))) r) .nil (Nat.beq (s / 16) 15)) (Nat.ble q (s / 16))) = _
 cases h1 : Nat.ble q (s / 16) with
 | false =>
  have h1 : ¬ q ≤ s / 16 := fun g => by rw [Nat.ble_eq_true_of_le g] at h1; cases h1
  rw [if_pos (by omega)]
  rfl
 | true =>
  have h1 := Nat.le_of_ble_eq_true h1
  rw [if_neg (by omega)]
  cases h2 : Nat.beq (s / 16) 15 with
  | true =>
   have h2 := Nat.eq_of_beq_eq_true h2
   rw [if_neg (by omega)]
   exact A1.get_nil _
  | false =>
   have h2 : s / 16 ≠ 15 := fun g => by rw [g] at h2; cases h2
   rw [if_pos (by omega)]
   have e1 : (s + 16) / 16 = Nat.succ (s / 16) := by omega
   have e2 : (s + 16) % 16 = s % 16 := by omega
   show A1.get (dG (s % 16)) (A2.get (dG (Nat.succ (s / 16))) r) = A1.get (dG ((s + 16) % 16)) (A2.get (dG ((s + 16) / 16)) r)
   rw [e1, e2]
theorem GX {q s : Nat} (hs : s < 256) : aC (hi s) (lo s) (Ay q r) = if s < 16 * q then aC (hi s) (lo s) r else if s < 16 * q + 16 then .undef else aC (hi (s - 16)) (lo (s - 16)) r := by
 show A1.get (lo s) (A2.get (dG (s / 16)) (Ay q r)) = _
 have e : A2.get (dG (s / 16)) (Ay q r) = xE q r (s / 16) := yi (f := xE q r) (by omega)
 rw [e]
 show A1.get (lo s) (@Bool.rec (fun _ => A1) (A2.get (dG (Nat.pred (s / 16))) r) (@Bool.rec (fun _ => A1) (A2.get (dG (s / 16)) r) .nil (Nat.beq (s / 16) q)) (Nat.ble (s / 16) q)) = _
 cases h1 : Nat.ble (s / 16) q with
 | false =>
  have h1 : ¬ s / 16 ≤ q := fun g => by rw [Nat.ble_eq_true_of_le g] at h1; cases h1
  rw [if_neg (by omega), if_neg (by omega)]
  have e1 : (s - 16) / 16 = Nat.pred (s / 16) := by show (s - 16) / 16 = s / 16 - 1; omega
  have e2 : (s - 16) % 16 = s % 16 := by omega
  show A1.get (dG (s % 16)) (A2.get (dG (Nat.pred (s / 16))) r) = A1.get (dG ((s - 16) % 16)) (A2.get (dG ((s - 16) / 16)) r)
  rw [e1, e2]
 | true =>
  have h1 := Nat.le_of_ble_eq_true h1
  cases h2 : Nat.beq (s / 16) q with
  | true =>
   have h2 := Nat.eq_of_beq_eq_true h2
   rw [if_neg (by omega), if_pos (by omega)]
   exact A1.get_nil _
  | false =>
   have h2 : s / 16 ≠ q := fun g => by rw [g, Nat.beq_refl] at h2; cases h2
   rw [if_pos (by omega)]
   rfl
theorem St.drop [NB G] (S : St n G φ r h a w) (q : Nat) : St n { G with b := some q } φ (rU q r) h a w := by
 refine ⟨S.hr, fun t ht => ?_, S.fT, S.size, S.jD⟩
 show VR φ _ (a.tmps.getD (if t < 16 * q then t else t + 16) undef)
 rw [DY ht]
 by_cases h1 : t < 16 * q
 ·rw [if_pos h1, if_pos h1]; exact S.Pq t ht
 ·rw [if_neg h1, if_neg h1]
  by_cases h2 : t < 240
  ·rw [if_pos h2]; exact S.Pq (t + 16) (by omega)
  ·rw [if_neg h2]; exact .undef _
theorem St.ins [NB G] {q : Nat} (S : St n { G with b := some q } φ r h a w) : St n G φ (Ay q r) h a w := by
 refine St.mk' S.hr (fun t ht => ?_) S.fT S.size S.jD
 rw [GX ht]
 by_cases h1 : t < 16 * q
 ·rw [if_pos h1]
  have : VR φ (aC (hi t) (lo t) r) (a.tmps.getD (if t < 16 * q then t else t + 16) undef) := S.aI t ht
  rw [if_pos h1] at this
  exact this
 ·rw [if_neg h1]
  by_cases h2 : t < 16 * q + 16
  ·rw [if_pos h2]; exact .undef _
  ·rw [if_neg h2]
   have : VR φ (aC (hi (t - 16)) (lo (t - 16)) r) (a.tmps.getD (if t - 16 < 16 * q then t - 16 else t - 16 + 16) undef) := S.aI (t - 16) (by omega)
   rw [if_neg (by omega), show t - 16 + 16 = t by omega] at this
   exact this
def nY (P : Program) (names : List String) (ms : List MR) : Prop := ∀ t k f, MR.mk t k f ∈ ms → ∃ name info m e, names[k]? = some name ∧ P.info? t = some info ∧ info.methods.find? (·.name == name) = some m ∧ m.path = #[] ∧ m.func = some (f, true) ∧ P.underlying t = some (.pointer e)
def fB (φ : aU) (h : Hp) (w : World) (x : RT) : Ending → World → Prop := fun e w' => ∃ v h' cv φ', x.bt (.ok v h') ∧ e = .returned cv ∧ VR φ' v cv ∧ HR φ' h' w' ∧ Step φ h w φ' h' w'
def Pr (P : Program) (f : Nat) (vals : Array Value) (w : World) (Q : Ending → World → Prop) : Prop := ((∃ fn c, P.funcs[f]? = some fn ∧ fn.name ≠ "runtime.NumGoroutine" ∧ fn.body = some c) ∧ Calls P f vals w Q) ∨
 ∃ cv w', (callFunc f vals).run P w = .ok (.value cv) w' ∧ Q (.returned cv) w'
def eg (P : Program) (G : Gl) (p : Pg) (run : iP) : Prop := ∀ (f : Nat) (args : List AV) (h : Hp) (φ : aU) (w : World) (vals : List Value), mF G φ → HR φ h w → cU φ args vals → (aB p run f args h).Safe →
 Pr P f vals.toArray w (fB φ h w (aB p run f args h))
theorem gQ {f : Nat} {args : Array Value} {fn : Func} {c : Code} (hf : P.funcs[f]? = some fn) (hn : fn.name ≠ "runtime.NumGoroutine") (hb : fn.body = some c) : (callFunc f args).run P w = .ok (.enter f args) w := by
 have hp : (program).run P w = .ok P w := rfl
 simp [callFunc, hp, hf, hn, hb]
theorem sg {t name : Nat} {k : Nat → RT} {n : Nat} : ∀ {ms : List MR}, (oq t name ms k (.err n)).Safe → ∃ f, MR.mk t name f ∈ ms ∧ oq t name ms k (.err n) = k f
 | [], hs => (RT.Safe.err hs).elim
 | .mk t' n' f :: ms, hs => by
  change RT.Safe (@Bool.rec (fun _ => RT) (oq t name ms k (.err n)) (@Bool.rec (fun _ => RT) (oq t name ms k (.err n)) (k f) (Nat.beq name n')) (Nat.beq t t')) at hs
  show ∃ f', _ ∧ (@Bool.rec (fun _ => RT) (oq t name ms k (.err n)) (@Bool.rec (fun _ => RT) (oq t name ms k (.err n)) (k f) (Nat.beq name n')) (Nat.beq t t')) = _
  cases h1 : Nat.beq t t' with
  | false =>
   rw [h1] at hs
   obtain ⟨f', m1, m2⟩ := sg (ms := ms) hs
   exact ⟨f', by simp [m1], m2⟩
  | true =>
   cases h2 : Nat.beq name n' with
   | false =>
    rw [h1, h2] at hs
    obtain ⟨f', m1, m2⟩ := sg (ms := ms) hs
    exact ⟨f', by simp [m1], m2⟩
   | true =>
    have e1 := Nat.eq_of_beq_eq_true h1
    have e2 := Nat.eq_of_beq_eq_true h2
    subst e1 e2
    exact ⟨f, by simp, rfl⟩
theorem DZ {s : String} {k : Nat} (e : wB names s = some k) : names[k]? = some s := by
 unfold wB at e
 rw [List.findIdx?_eq_some_iff_getElem] at e
 obtain ⟨hk, h1, _⟩ := e
 rw [List.getElem?_eq_getElem hk]
 simp at h1
 rw [h1]
theorem AA {ms : List MR} (M : nY P names ms) {t k f : Nat} (hm : MR.mk t k f ∈ ms) {s : String} (hk : names[k]? = some s) (d : Nat) (cv : Value) : (method (d + 1) t cv s).run P w = .ok (f, cv) w := by
 obtain ⟨name, info, m, e, h1, h2, h3, h4, h5, h6⟩ := M t k f hm
 rw [hk] at h1; cases h1
 simp [method, dS h2, h3, h4, h5, follow, receiverAt, az h6, Place.get]
variable {P : Program} {φ φ' : aU} {h h' : Hp} {w w' : World} {v : AV} {r : A2} {a : Act} {cv : Value} {n : Nat} {G : Gl} {names : List String} {p : Pg} {run : iP}
theorem GY {o : Oper} {f : Nat} {xs : List AO} (hop : cQ P G names o = some (.call f xs)) :
  ∃ c, o.op = .call c ∧ c.callee = .value (.func f) ∧ c.args.toList.mapM (cO G) = some xs := by
 obtain ⟨dst, y, type, pos, after, guard⟩ := o
 simp only [cQ] at hop
 split at hop
 case h_21 =>
  split at hop
  ·simp only [bind, Option.bind_eq_some_iff] at hop
   obtain ⟨fd, _, hop⟩ := hop
   split at hop
   ·simp at hop
   ·split at hop <;> simp [Option.bind_eq_some_iff] at hop
  ·cases hop
 case h_32 c =>
  simp only [bind, Option.bind_eq_some_iff] at hop
  obtain ⟨ys, hys, hop⟩ := hop
  split at hop
  ·simp [Option.map_eq_some_iff] at hop
  ·rename_i g hc
   cases hop
   exact ⟨c, rfl, hc, hys⟩
  ·simp [Option.bind_eq_some_iff] at hop
  ·simp [Option.bind_eq_some_iff] at hop
 all_goals (repeat' split at hop) <;> simp [Option.bind_eq_some_iff, Option.map_eq_some_iff] at hop
theorem Ea {o : Oper} {x : AO} {xs : List AO} (hop : cQ P G names o = some (.mO x xs)) :
  ∃ c y, o.op = .call c ∧ c.callee = .value y ∧ cO G y = some x ∧ c.args.toList.mapM (cO G) = some xs := by
 obtain ⟨dst, y, type, pos, after, guard⟩ := o
 simp only [cQ] at hop
 split at hop
 case h_21 =>
  split at hop
  ·simp only [bind, Option.bind_eq_some_iff] at hop
   obtain ⟨fd, _, hop⟩ := hop
   split at hop
   ·simp at hop
   ·split at hop <;> simp [Option.bind_eq_some_iff] at hop
  ·cases hop
 case h_32 c =>
  simp only [bind, Option.bind_eq_some_iff] at hop
  obtain ⟨ys, hys, hop⟩ := hop
  split at hop
  ·simp [Option.map_eq_some_iff] at hop
  ·cases hop
  ·rename_i z hz hc
   simp only [Option.bind_eq_some_iff, Option.some.injEq, AI.mO.injEq] at hop
   obtain ⟨b, hb, rfl, rfl⟩ := hop
   exact ⟨c, z, rfl, hc, hb, hys⟩
  ·simp [Option.bind_eq_some_iff] at hop
 all_goals (repeat' split at hop) <;> simp [Option.bind_eq_some_iff, Option.map_eq_some_iff] at hop
theorem Lf {o : Oper} {k : Nat} {x : AO} {xs : List AO} (hop : cQ P G names o = some (.inv k x xs)) :
  ∃ c y name, o.op = .call c ∧ c.callee = .invoke y name ∧ wB names name = some k ∧ cO G y = some x ∧ c.args.toList.mapM (cO G) = some xs := by
 obtain ⟨dst, y, type, pos, after, guard⟩ := o
 simp only [cQ] at hop
 split at hop
 case h_21 =>
  split at hop
  ·simp only [bind, Option.bind_eq_some_iff] at hop
   obtain ⟨fd, _, hop⟩ := hop
   split at hop
   ·simp at hop
   ·split at hop <;> simp [Option.bind_eq_some_iff] at hop
  ·cases hop
 case h_32 c =>
  simp only [bind, Option.bind_eq_some_iff] at hop
  obtain ⟨ys, hys, hop⟩ := hop
  split at hop
  ·simp [Option.map_eq_some_iff] at hop
  ·cases hop
  ·simp [Option.bind_eq_some_iff] at hop
  ·rename_i z nm hc
   simp only [Option.bind_eq_some_iff, Option.some.injEq, AI.inv.injEq] at hop
   obtain ⟨b, hb, b2, hb2, rfl, rfl, rfl⟩ := hop
   exact ⟨c, z, nm, rfl, hc, hb, hb2, hys⟩
 all_goals (repeat' split at hop) <;> simp [Option.bind_eq_some_iff, Option.map_eq_some_iff] at hop
variable {P : Program} {φ φ' : aU} {h h' : Hp} {w w' : World} {v : AV} {r : A2} {a : Act} {cv : Value} {n : Nat} {G : Gl} {names : List String} {p : Pg} {run : iP}
theorem AB {x : AV} {args : List AV} (hs : (kY p run x args h).Safe) : ∃ f cs, x = .fn f cs ∧ kY p run x args h = aB p run f (List.append args cs) h := by
 cases x <;> first | exact ⟨_, _, rfl, rfl⟩ | exact (RT.Safe.err hs).elim
theorem AD {k : Nat} {x : AV} {args : List AV} (hs : (aH p run k x args h).Safe) : ∃ t u, x = .iface t u ∧ aH p run k x args h = oq t k p.ms (fun f => aB p run f (.cons u args) h) (.err 206) := by
 cases x <;> first | exact ⟨_, _, rfl, rfl⟩ | exact (RT.Safe.err hs).elim
theorem toArray_map (ρ : Operand → Value) (l : Array Operand) : l.map ρ = (l.toList.map ρ).toArray := by apply Array.ext'; simp
theorem rk {i : AI} {o : Oper} {d : bX} (M : nY P names p.ms) (CO : eg P G p run) (S : St n G φ r h a w) (hop : cQ P G names o = some i) (hd : ou G n o.dst = some d) (hs : (i.res p run r h).Safe)
  {next : Act → World → Prop} {Q : Exit → Act → World → Prop}
  (hn : ∀ v h' φ' cv w', (i.res p run r h).bt (.ok v h') → St n G φ' (dg d v r) h' (a.put o.dst cv) w' → Step φ h w φ' h' w' → next (a.put o.dst cv) w') : o.wp P a w next Q := by
 have hρ : ∀ q x, cO G q = some x → VR φ (ev x r) (a.eval q) := fun q x e => S.Su e
 unfold Oper.wp
 cases i with
 | op op =>
  obtain ⟨v, h', he⟩ := rY (show (op.run r h).nU.Safe from hs)
  obtain ⟨nx, w', φ', e1, e2, e3, e4⟩ := KY hρ (fun c => rfl) hop S.hr he
  have hl : (AI.res (.op op) p run r h).bt (.ok v h') := by
   show (op.run r h).nU.bt (.ok v h')
   rw [he]; exact .ok _ _
  rw [e1]
  rcases e2 with ⟨cv, rfl, hv⟩ | ⟨rfl, rfl⟩
  ·exact hn v h' φ' cv w' hl (S.put hd hv e3 e4) e4
  ·exact hn .undef h' φ' undef w' hl (S.put hd (.undef _) e3 e4) e4
 | KM s x =>
  obtain ⟨cv, w', φ', v, h', hl, e1, hv, e3, e4⟩ := GU hρ hop S.hr hs
  rw [e1]
  exact hn v h' φ' cv w' hl (S.put hd hv e3 e4) e4
 | call f xs =>
  obtain ⟨c, ho, hc, hx⟩ := GY hop
  have g1 := mb (φ := φ) (r := r) (ρ := a.eval) hx (fun o _ b hb => hρ _ _ hb)
  have hrun : (execOp a.eval o).run P w = (callFunc f (c.args.toList.map a.eval).toArray).run P w := by
   have hf : a.eval (.func f) = .func (.func f) #[] #[] := rfl
   simp only [execOp, ho, resolve, hc, hf, Deferred.ofValue, Sem.run_bind, Sem.run_pure, Result.andThen_ok, invoke, Array.empty_append, Array.append_empty]
   rw [toArray_map]
  rcases CO f _ h φ w _ S.jD S.hr g1 hs with ⟨⟨fn, b, f1, f2, f3⟩, hC⟩ | ⟨cv, w', hcf, v, h', cv', φ', hl, he, hv, e3, e4⟩
  ·rw [hrun, gQ f1 f2 f3, Oper.upon_enter]
   refine hC.mono ?_
   rintro e w' ⟨v, h', cv, φ', hl, rfl, hv, e3, e4⟩
   exact hn v h' φ' cv w' hl (S.put hd hv e3 e4) e4
  ·rw [hrun, hcf]
   cases he
   exact hn v h' φ' _ w' hl (S.put hd hv e3 e4) e4
 | mO x xs =>
  obtain ⟨c, y, ho, hc, hy, hx⟩ := Ea hop
  obtain ⟨f, cs, e1, e2⟩ := AB (show (kY p run (ev x r) (fR xs r) h).Safe from hs)
  have g1 := mb (φ := φ) (r := r) (ρ := a.eval) hx (fun o _ b hb => hρ _ _ hb)
  have g2 := hρ _ _ hy
  rw [e1] at g2
  have hval : ∃ vs : List Value, a.eval y = .func (.func f) #[] vs.toArray ∧ cU φ cs vs := by
   generalize a.eval y = z at g2
   cases g2; exact ⟨_, rfl, by assumption⟩
  obtain ⟨vs, hval, g3⟩ := hval
  have hs' : (aB p run f (List.append (fR xs r) cs) h).Safe := by
   have : (kY p run (ev x r) (fR xs r) h).Safe := hs
   rwa [e2] at this
  have hrun : (execOp a.eval o).run P w = (callFunc f (c.args.toList.map a.eval ++ vs).toArray).run P w := by
   simp only [execOp, ho, resolve, hc, hval, Deferred.ofValue, Sem.run_bind, Sem.run_pure, Result.andThen_ok, invoke, Array.empty_append]
   rw [toArray_map]
   simp
  rcases CO f _ h φ w _ S.jD S.hr (g1.append g3) hs' with ⟨⟨fn, b, f1, f2, f3⟩, hC⟩ | ⟨cv, w', hcf, v, h', cv', φ', hl, he, hv, e3, e4⟩
  ·rw [hrun, gQ f1 f2 f3, Oper.upon_enter]
   refine hC.mono ?_
   rintro e w' ⟨v, h', cv, φ', hl, rfl, hv, e3, e4⟩
   refine hn v h' φ' cv w' ?_ (S.put hd hv e3 e4) e4
   show (kY p run (ev x r) (fR xs r) h).bt _
   rw [e2]; exact hl
  ·rw [hrun, hcf]
   cases he
   refine hn v h' φ' _ w' ?_ (S.put hd hv e3 e4) e4
   show (kY p run (ev x r) (fR xs r) h).bt _
   rw [e2]; exact hl
 | inv k x xs =>
  obtain ⟨c, y, name, ho, hc, hk, hy, hx⟩ := Lf hop
  obtain ⟨t, u, e1, e2⟩ := AD (show (aH p run k (ev x r) (fR xs r) h).Safe from hs)
  have Om : (oq t k p.ms (fun f => aB p run f (.cons u (fR xs r)) h) (.err 206)).Safe := by
   have : (aH p run k (ev x r) (fR xs r) h).Safe := hs
   rwa [e2] at this
  obtain ⟨f, hm, e3⟩ := sg Om
  rw [e3] at Om e2
  have g1 := mb (φ := φ) (r := r) (ρ := a.eval) hx (fun o _ b hb => hρ _ _ hb)
  have g2 := hρ _ _ hy
  rw [e1] at g2
  have hval : ∃ z, a.eval y = .iface t z ∧ VR φ u z := by
   generalize a.eval y = z at g2
   cases g2; exact ⟨_, rfl, by assumption⟩
  obtain ⟨z, hval, g3⟩ := hval
  have hrun : (execOp a.eval o).run P w = (callFunc f (z :: c.args.toList.map a.eval).toArray).run P w := by
   have hp : (program).run P w = .ok P w := rfl
   have hmeth := AA (w := w) M hm (DZ hk) (P.types.size + Made.depth - 1) z
   have hdep : P.types.size + Made.depth - 1 + 1 = P.types.size + Made.depth := by
    have : 0 < Made.depth := by decide
    omega
   rw [hdep] at hmeth
   have h0 : (#[Value.iface t z] ++ c.args.map a.eval)[0]? = some (Value.iface t z) := by
    rw [Array.getElem?_append]; rfl
   have h1 : (#[Value.iface t z] ++ c.args.map a.eval).extract 1 (#[Value.iface t z] ++ c.args.map a.eval).size = c.args.map a.eval := by
    apply Array.ext'
    simp only [Array.toList_extract, List.extract_eq_take_drop]
    simp
    rw [List.take_of_length_le (by simp)]
   simp only [execOp, ho, resolve, hc, hval, Sem.run_bind, Sem.run_pure, Result.andThen_ok, invoke, h0, h1, callMethod, hp, hmeth]
   rw [toArray_map]
   simp
  rcases CO f _ h φ w _ S.jD S.hr (.cons _ _ _ _ g3 g1) Om with ⟨⟨fn, b, f1, f2, f3⟩, hC⟩ | ⟨cv, w', hcf, v, h', cv', φ', hl, he, hv, e5, e6⟩
  ·rw [hrun, gQ f1 f2 f3, Oper.upon_enter]
   refine hC.mono ?_
   rintro e w' ⟨v, h', cv, φ', hl, rfl, hv, e5, e6⟩
   refine hn v h' φ' cv w' ?_ (S.put hd hv e5 e6) e6
   show (aH p run k (ev x r) (fR xs r) h).bt _
   rw [e2]; exact hl
  ·rw [hrun, hcf]
   cases he
   refine hn v h' φ' _ w' ?_ (S.put hd hv e5 e6) e6
   show (aH p run k (ev x r) (fR xs r) h).bt _
   rw [e2]; exact hl
variable {P : Program} {φ φ' : aU} {h h' : Hp} {w w' : World} {v : AV} {r : A2} {a : Act} {cv : Value} {n : Nat} {G : Gl} {names : List String} {p : Pg} {run : iP} {ops : Array Oper}
theorem kj {k : A2 → Hp → RS} (hs : (qz.exec p run k r h).Safe) : False := RS.Safe.err (n := 400) hs
theorem AE (b : Bool) : (undef : Value) ≠ .bool b := by simp [undef]
theorem nk {t j : Nat} {b : Bool} (hj : (ops[j]?).bind (·.dst) = some t) (ht : a.tmps.getD t undef = .bool b) : yielded ops a.tmps j = some b := by
 unfold yielded
 rw [hj, Option.bind_some]
 rw [Array.getD_eq_getD_getElem?] at ht
 cases h : a.tmps[t]? with
 | none => rw [h] at ht; exact absurd ht (AE b)
 | some x => rw [h] at ht; have ht : x = .bool b := ht; rw [ht]
theorem gr {x : AV} {k : Bool → RS} {n : Nat} (hs : (AV.bN x k (.err n)).Safe) : ∃ b, x = .bool b ∧ AV.bN x k (.err n) = k b := by
 cases x <;> first | exact ⟨_, rfl, rfl⟩ | exact (RS.Safe.err hs).elim
theorem wC {w b : Bool} {x : AV} (h : gb w x = .bool b) : x = .bool b ∨ (x = .nZ [] ∧ b = !w) := by
 cases x with
 | nZ l =>
  cases l with
  | nil => right; have h : AV.bool (Bool.not w) = .bool b := h; injection h with h; exact ⟨rfl, h.symm⟩
  | cons a l => have h : AV.undef = .bool b := h; cases h
 | _ => exact .inl h
theorem rm : VR φ cM undef := .nZ [] [] .nil
theorem wD (h : VR φ (.nZ []) cv) : cv = undef := by
 cases h with
 | nZ _ vs e => cases e; rfl
theorem ko {t j : Nat} (hj : (ops[j]?).bind (·.dst) = some t) (ht : a.tmps.getD t undef = undef) : yielded ops a.tmps j = none := by
 unfold yielded
 rw [hj, Option.bind_some]
 rw [Array.getD_eq_getD_getElem?] at ht
 cases h : a.tmps[t]? with
 | none => rfl
 | some x => rw [h] at ht; have ht : x = undef := ht; rw [ht]; rfl
theorem wE (a b : Bool) : jW a b = (a == b) := by cases a <;> cases b <;> rfl
theorem Rv {o : Oper} {i : Nat} {k : A2 → Hp → RS} (M : nY P names p.ms) (CO : eg P G p run) (S : St n G φ r h a w) (hoi : ops[i]? = some o) (hs : ((py P G n names ops o).exec p run k r h).Safe)
  {K : Act → World → Prop} {Q : Exit → Act → World → Prop}
  (hn : ∀ r' h' φ' a' w', (k r' h').Safe → (∀ y, (k r' h').bt y → ((py P G n names ops o).exec p run k r h).bt y) → St n G φ' r' h' a' w' → Step φ h w φ' h' w' → K a' w') : wpOp P ops Q i K a w := by
 unfold wpOp
 simp only [hoi]
 unfold py at hs hn
 split at hs
 ·rename_i d x hd hx
  split at hs
  ·rename_i hg
   have hw : Region.wanted o (yielded ops a.tmps) = true := by simp [Region.wanted, hg]
   rw [if_pos hw]
   simp only [hg, hd, hx] at hn
   change (x.exec p run d k r h).Safe at hs
   rw [ot] at hs
   obtain ⟨s1, s2⟩ := rX hs
   refine .inl (rk M CO S hx hd s1 fun v h' φ' cv w' hl S' T => hn _ h' φ' _ w' (s2 v h' hl) (fun y hy => ?_) S' T)
   show (x.exec p run d k r h).bt y
   rw [ot]
   exact kh hl rfl hy
  ·rename_i j wnt hg
   simp only [hg, hd, hx] at hn
   split at hs
   ·rename_i t ht
    simp only [ht] at hn
    split at hs
    ·rename_i s hsl
     obtain ⟨hs256, htm⟩ := Ct hsl
     simp only [hsl] at hn
     change (AV.bN (gb wnt (aC (hi s) (lo s) r)) (jm d k r h x p run wnt) (.err 210)).Safe at hs
     obtain ⟨b, hb, e⟩ := gr hs
     have hv := S.aI s hs256
     rw [htm] at hv
     have hw : Region.wanted o (yielded ops a.tmps) = (b == wnt) := by
      rcases wC hb with hb2 | ⟨hb2, rfl⟩
      ·rw [hb2] at hv
       have hy := nk ht hv.dT
       simp only [Region.wanted, hg, hy]; cases b <;> cases wnt <;> rfl
      ·rw [hb2] at hv
       have hy := ko (a := a) ht (wD hv)
       simp only [Region.wanted, hg, hy]; cases wnt <;> rfl
     rw [e] at hs
     have hs : (@Bool.rec (fun _ => RS) (k (dg d cM r) h) (x.exec p run d k r h) (jW b wnt)).Safe := hs
     have e : (AV.bN (gb wnt (aC (hi s) (lo s) r)) (jm d k r h x p run wnt) (.err 210)) = (@Bool.rec (fun _ => RS) (k (dg d cM r) h) (x.exec p run d k r h) (jW b wnt)) := e
     have hn : ∀ r' h' φ' a' w', (k r' h').Safe → (∀ y, (k r' h').bt y → (AV.bN (gb wnt (aC (hi s) (lo s) r)) (jm d k r h x p run wnt) (.err 210)).bt y) → St n G φ' r' h' a' w' → Step φ h w φ' h' w' → K a' w' := hn
     rw [e] at hn
     rw [wE] at hs hn
     rw [hw]
     cases hbw : (b == wnt) with
     | true =>
      rw [hbw] at hs hn
      rw [if_pos rfl]
      have hs : (x.exec p run d k r h).Safe := hs
      rw [ot] at hs
      obtain ⟨s1, s2⟩ := rX hs
      refine .inl (rk M CO S hx hd s1 fun v h' φ' cv w' hl S' T => hn _ h' φ' _ w' (s2 v h' hl) (fun y hy => ?_) S' T)
      show (x.exec p run d k r h).bt y
      rw [ot]
      exact kh hl rfl hy
     | false =>
      rw [hbw] at hs hn
      rw [if_neg (by simp)]
      exact hn _ h φ _ w hs (fun y hy => hy) (S.put hd rm S.hr (.refl _ _ _)) (.refl _ _ _)
    ·exact (kj hs).elim
   ·exact (kj hs).elim
 ·exact (kj hs).elim
theorem Eb (n : Nat) (names : List String) (ops : Array Oper) (o : Oper) : np P G n names ops o = py P G n names ops o ∨ np P G n names ops o = qz ∨
  ∃ j w d t s, o.guard = some (j, w) ∧ ou G n o.dst = some d ∧ (ops[j]?).bind (·.dst) = some t ∧ G.sl t = some s ∧ np P G n names ops o = .g (hi s) (lo s) w d (.op (.bad 405)) := by
 unfold np
 split
 ·rename_i j w d hx hg hd
  split
  ·rename_i t ht
   split
   ·rename_i s hs
    exact .inr (.inr ⟨j, w, d, t, s, hg, hd, ht, hs, rfl⟩)
   ·exact .inr (.inl rfl)
  ·exact .inr (.inl rfl)
 ·exact .inl rfl
theorem ND {o : Oper} {i : Nat} {k : A2 → Hp → RS} (M : nY P names p.ms) (CO : eg P G p run) (S : St n G φ r h a w) (hoi : ops[i]? = some o) (hs : ((np P G n names ops o).exec p run k r h).Safe)
  {K : Act → World → Prop} {Q : Exit → Act → World → Prop}
  (hn : ∀ r' h' φ' a' w', (k r' h').Safe → (∀ y, (k r' h').bt y → ((np P G n names ops o).exec p run k r h).bt y) → St n G φ' r' h' a' w' → Step φ h w φ' h' w' → K a' w') : wpOp P ops Q i K a w := by
 rcases Eb (P := P) (G := G) n names ops o with e | e | ⟨j, wnt, d, t, s, hg, hd, ht, hsl, e⟩
 ·rw [e] at hs hn
  exact Rv M CO S hoi hs hn
 ·rw [e] at hs
  exact (kj hs).elim
 ·rw [e] at hs hn
  obtain ⟨hs256, htm⟩ := Ct hsl
  change (AV.bN (gb wnt (aC (hi s) (lo s) r)) (jm d k r h (.op (.bad 405)) p run wnt) (.err 210)).Safe at hs
  obtain ⟨b, hb, e1⟩ := gr hs
  have hv := S.aI s hs256
  rw [htm] at hv
  have hw : Region.wanted o (yielded ops a.tmps) = (b == wnt) := by
   rcases wC hb with hb2 | ⟨hb2, rfl⟩
   ·rw [hb2] at hv
    have hy := nk ht hv.dT
    simp only [Region.wanted, hg, hy]; cases b <;> cases wnt <;> rfl
   ·rw [hb2] at hv
    have hy := ko (a := a) ht (wD hv)
    simp only [Region.wanted, hg, hy]; cases wnt <;> rfl
  rw [e1] at hs
  have hs : (@Bool.rec (fun _ => RS) (k (dg d cM r) h) ((AI.op (.bad 405)).exec p run d k r h) (jW b wnt)).Safe := hs
  have e1 : (AV.bN (gb wnt (aC (hi s) (lo s) r)) (jm d k r h (.op (.bad 405)) p run wnt) (.err 210)) = (@Bool.rec (fun _ => RS) (k (dg d cM r) h) ((AI.op (.bad 405)).exec p run d k r h) (jW b wnt)) := e1
  have hn : ∀ r' h' φ' a' w', (k r' h').Safe → (∀ y, (k r' h').bt y → (AV.bN (gb wnt (aC (hi s) (lo s) r)) (jm d k r h (.op (.bad 405)) p run wnt) (.err 210)).bt y) → St n G φ' r' h' a' w' → Step φ h w φ' h' w' → K a' w' := hn
  rw [e1] at hn
  rw [wE] at hs hn
  unfold wpOp
  simp only [hoi]
  rw [hw]
  cases hbw : (b == wnt) with
  | true => rw [hbw] at hs; exact (RS.Safe.err (n := 405) hs).elim
  | false =>
   rw [hbw] at hs hn
   rw [if_neg (by simp)]
   exact hn _ h φ _ w hs (fun y hy => hy) (S.put hd rm S.hr (.refl _ _ _)) (.refl _ _ _)
theorem AG (M : nY P names p.ms) (CO : eg P G p run) {Q : Exit → Act → World → Prop} : ∀ (os pre : List Oper) (r : A2) (h : Hp) (φ : aU) (a : Act) (w : World), ops.toList = pre ++ os → St n G φ r h a w →
  (fe p run (os.map fun o => np P G n names ops o) r h).Safe →
  (∀ r' h' φ' a' w', (fe p run (os.map fun o => np P G n names ops o) r h).bt (.nm r' h') → St n G φ' r' h' a' w' → Step φ h w φ' h' w' → Q .normal a' w') →
  wpOps P ops Q (List.range' pre.length os.length) a w
 | [], pre, r, h, φ, a, w, _, S, _, hQ => hQ r h φ a w (.nm _ _) S (.refl _ _ _)
 | o :: os, pre, r, h, φ, a, w, e, S, hs, hQ => by
  have hoi : ops[pre.length]? = some o := by rw [← Array.getElem?_toList, e]; simp
  rw [List.length_cons, List.range'_succ, wpOps_cons]
  have hs : ((np P G n names ops o).exec p run (fe p run (os.map fun o => np P G n names ops o)) r h).Safe := hs
  refine ND M CO S hoi hs fun r' h' φ' a' w' s1 s2 S' T => ?_
  have := AG M CO os (pre ++ [o]) r' h' φ' a' w' (by rw [e]; simp) S' s1 (Q := Q) fun r'' h'' φ'' a'' w'' hl S'' T' => hQ r'' h'' φ'' a'' w'' (s2 _ hl) S'' (T.trans T')
  simpa using this
variable {P : Program} {φ φ' : aU} {h h' : Hp} {w w' : World} {v : AV} {r : A2} {a : Act} {cv : Value} {n : Nat} {G : Gl} {names : List String} {p : Pg} {run : iP} {ops : Array Oper}
section
variable {kn : A2 → Hp → RS} {ke : Nat → A2 → Hp → RS} {kg : Nat → A2 → Hp → RS}
theorem dL {y : RS} : ∀ {x z : RS}, x.bt z → z = .nm r h → (kn r h).bt y → (RS.bind x kn ke kg).bt y
 | _, _, .nm r h, e, g => by cases e; exact g
 | _, _, .ex .., e, _ => by cases e
 | _, _, .go .., e, _ => by cases e
 | _, _, .ret .., e, _ => by cases e
 | _, _, .err .., e, _ => by cases e
 | _, _, .ch n k c y' hc hl, e, g => .ch n _ c _ hc (dL hl e g)
theorem eF {i : Nat} {y : RS} : ∀ {x z : RS}, x.bt z → z = .ex i r h → (ke i r h).bt y → (RS.bind x kn ke kg).bt y
 | _, _, .nm .., e, _ => by cases e
 | _, _, .ex .., e, g => by cases e; exact g
 | _, _, .go .., e, _ => by cases e
 | _, _, .ret .., e, _ => by cases e
 | _, _, .err .., e, _ => by cases e
 | _, _, .ch n k c y' hc hl, e, g => .ch n _ c _ hc (eF hl e g)
theorem dM {i : Nat} {y : RS} : ∀ {x z : RS}, x.bt z → z = .go i r h → (kg i r h).bt y → (RS.bind x kn ke kg).bt y
 | _, _, .nm .., e, _ => by cases e
 | _, _, .ex .., e, _ => by cases e
 | _, _, .go .., e, g => by cases e; exact g
 | _, _, .ret .., e, _ => by cases e
 | _, _, .err .., e, _ => by cases e
 | _, _, .ch n k c y' hc hl, e, g => .ch n _ c _ hc (dM hl e g)
theorem eQ : ∀ {x z : RS}, x.bt z → z = .ret r h → (RS.bind x kn ke kg).bt (.ret r h)
 | _, _, .nm .., e => by cases e
 | _, _, .ex .., e => by cases e
 | _, _, .go .., e => by cases e
 | _, _, .ret .., e => by cases e; exact .ret _ _
 | _, _, .err .., e => by cases e
 | _, _, .ch n k c y' hc hl, e => .ch n _ c _ hc (eQ hl e)
theorem mP {i : Nat} : ∀ {x z : RS}, x.bt z → z = .err i → (RS.bind x kn ke kg).bt (.err i)
 | _, _, .nm .., e => by cases e
 | _, _, .ex .., e => by cases e
 | _, _, .go .., e => by cases e
 | _, _, .ret .., e => by cases e
 | _, _, .err .., e => by cases e; exact .err _
 | _, _, .ch n k c y' hc hl, e => .ch n _ c _ hc (mP hl e)
theorem jE {x : RS} (hs : (RS.bind x kn ke kg).Safe) : x.Safe := fun n hl => hs n (mP hl rfl)
theorem ov {x : RS} (hs : (RS.bind x kn ke kg).Safe) (hl : x.bt (.nm r h)) : (kn r h).Safe := fun n g => hs n (dL hl rfl g)
theorem wF {i : Nat} {x : RS} (hs : (RS.bind x kn ke kg).Safe) (hl : x.bt (.go i r h)) : (kg i r h).Safe := fun n g => hs n (dM hl rfl g)
end
inductive Ends : RS → Exit → A2 → Hp → Prop
 | nm (r : A2) (h : Hp) : Ends (.nm r h) .normal r h
 | ex (i : Nat) (r : A2) (h : Hp) : Ends (.ex i r h) (.exit i) r h
 | go (i : Nat) (r : A2) (h : Hp) : Ends (.go i r h) (.goto i) r h
 | ret (r : A2) (h : Hp) : Ends (.ret r h) .ret r h
def bQ (n : Nat) (G : Gl) (φ : aU) (h : Hp) (w : World) (x : RS) : Exit → Act → World → Prop := fun e a' w' => ∃ y r' h' φ', x.bt y ∧ Ends y e r' h' ∧ St n G φ' r' h' a' w' ∧ Step φ h w φ' h' w'
def qA (P : Program) (c : Code) (Q : Exit → Act → World → Prop) (a : Act) (w : World) : Prop :=
 ∀ (b : Frame) (k : List Item) (cs : List Frame), ∃ e a' w', Q e a' w' ∧ Arrives P (lone (b.at a (.code c :: .inLoop c :: k)) cs w) b k cs e a' w'
theorem yj {c : Code} {Q : Exit → Act → World → Prop} (hl : qA P c Q a w) : (Code.loop c).wp P Q a w := fun b k cs =>
 let ⟨e, a', w', q, g⟩ := hl b k cs; ⟨e, a', w', q, .of_steps (.one step_loop) g⟩
theorem GZ {c : Code} {Q : Exit → Act → World → Prop} (hc : c.wp P (Exit.then (qA P c Q) Q) a w) : qA P c Q a w := by
 intro b k cs
 obtain ⟨e, a₁, w₁, hq, harr⟩ := hc b (.inLoop c :: k) cs
 cases e with
 | normal =>
  obtain ⟨e₂, a₂, w₂, hq₂, harr₂⟩ := hq b k cs
  exact ⟨e₂, a₂, w₂, hq₂, .of_steps (Steps.trans harr (.one step_inLoop)) harr₂⟩
 | exit id => exact ⟨_, a₁, w₁, hq, .pass (x := .inLoop c) rfl (fun _ _ => .inl (by simp)) harr⟩
 | goto l => exact ⟨_, a₁, w₁, hq, .pass (x := .inLoop c) rfl (fun _ _ => .inl (by simp)) harr⟩
 | ret => exact ⟨_, a₁, w₁, hq, .pass (x := .inLoop c) rfl (fun _ _ => .inl (by simp)) harr⟩
 | panic ch => exact ⟨_, a₁, w₁, hq, .pass (x := .inLoop c) rfl (fun _ _ => .inl (by simp)) harr⟩
 | outgrown => exact ⟨_, a₁, w₁, hq, .pass (x := .inLoop c) rfl (fun _ _ => .inl (by simp)) harr⟩
def wG (P : Program) (s c : Code) (Q : Exit → Act → World → Prop) (a : Act) (w : World) : Prop :=
 ∀ (b : Frame) (k : List Item) (cs : List Frame), ∃ e a' w', Q e a' w' ∧ Arrives P (lone (b.at a (.code c :: .inScope s :: k)) cs w) b k cs e a' w'
def Exit.inScope (P : Program) (s : Code) (Q : Exit → Act → World → Prop) : Exit → Act → World → Prop
 | .goto l, a, w => match findLabel s l with
  | some c => wG P s c Q a w
  | none => Q (.goto l) a w
 | e, a, w => Q e a w
theorem AH {c : Code} {Q : Exit → Act → World → Prop} (hl : wG P c c Q a w) : (Code.scope c).wp P Q a w := fun b k cs =>
 let ⟨e, a', w', q, g⟩ := hl b k cs; ⟨e, a', w', q, .of_steps (.one step_scope) g⟩
theorem Lg {s c : Code} {Q : Exit → Act → World → Prop} (hc : c.wp P (Exit.inScope P s Q) a w) : wG P s c Q a w := by
 intro b k cs
 obtain ⟨e, a₁, w₁, hq, harr⟩ := hc b (.inScope s :: k) cs
 cases e with
 | normal => exact ⟨.normal, a₁, w₁, hq, Steps.trans harr (.one step_inScope)⟩
 | exit id => exact ⟨.exit id, a₁, w₁, hq, fun k' hk => harr k' (by simp [exitTo, hk])⟩
 | goto l =>
  simp only [Exit.inScope] at hq
  split at hq
  ·rename_i rest hf
   obtain ⟨e₂, a₂, w₂, hq₂, harr₂⟩ := hq b k cs
   exact ⟨e₂, a₂, w₂, hq₂, .of_steps (harr _ (by simp [gotoIn, hf])) harr₂⟩
  ·rename_i hf
   exact ⟨.goto l, a₁, w₁, hq, fun k' hk => harr k' (by simp [gotoIn, hf, hk])⟩
 | ret => exact ⟨_, a₁, w₁, hq, harr⟩
 | panic ch => exact ⟨_, a₁, w₁, hq, harr⟩
 | outgrown => exact ⟨_, a₁, w₁, hq, harr⟩
theorem ez {b c : Bool} (e : (@Bool.rec (fun _ => Bool) false c b) = true) : b = true ∧ c = true := by cases b <;> first | exact ⟨rfl, e⟩ | cases e
theorem qS {b c : Bool} (e : Bool.and b c = true) : b = true ∧ c = true := by cases b <;> cases c <;> first | exact ⟨rfl, rfl⟩ | cases e
theorem mG {a b : Nat} (e : Nat.beq a b = true) : a = b := Nat.eq_of_beq_eq_true e
theorem yk {a b : Bool} (e : jW a b = true) : a = b := by cases a <;> cases b <;> first | rfl | cases e
theorem yl {x y : AV} (e : kX x y = true) : x = y := by
 cases x <;> cases y <;> (try (cases e; done))
 ·rename_i a b; exact congrArg _ (yk e)
 ·rename_i k a k' b
  obtain ⟨h1, h2⟩ := ez (show (@Bool.rec (fun _ => Bool) false (xB a b) (nh k k')) = true from e)
  have h1 := jF h1
  have h2 : a = b := by rw [il] at h2; exact of_decide_eq_true h2
  subst h1 h2; rfl
 ·rename_i a b
  have h2 : iU a b = true := e
  rw [iq] at h2
  exact congrArg _ (of_decide_eq_true h2)
 ·rename_i k a k' b
  obtain ⟨h1, h2⟩ := qS (show Bool.and (wi k k') (Nat.beq a b) = true from e)
  have h1 := jG h1
  have h2 := mG h2
  subst h1 h2; rfl
 ·rename_i k a b k' c d
  obtain ⟨h1, h2⟩ := qS (show Bool.and (wi k k') (Bool.and (Nat.beq a c) (Nat.beq b d)) = true from e)
  obtain ⟨h2, h3⟩ := qS h2
  have h1 := jG h1
  have h2 := mG h2
  have h3 := mG h3
  subst h1 h2 h3; rfl
 ·rename_i i o j q
  obtain ⟨h1, h2⟩ := qS (show Bool.and (rL i j) (Nat.beq o q) = true from e)
  have h1 := kq.1 h1
  have h2 := mG h2
  subst h1 h2; rfl
 ·rfl
 ·rename_i i a b c j d e' f
  obtain ⟨h1, h2⟩ := qS (show Bool.and (rL i j) (Bool.and (Nat.beq a d) (Bool.and (Nat.beq b e') (Nat.beq c f))) = true from e)
  obtain ⟨h2, h3⟩ := qS h2
  obtain ⟨h3, h4⟩ := qS h3
  have h1 := kq.1 h1
  have h2 := mG h2
  have h3 := mG h3
  have h4 := mG h4
  subst h1 h2 h3 h4; rfl
 ·rename_i i a b c j d e' f
  obtain ⟨h1, h2⟩ := qS (show Bool.and (rL i j) (Bool.and (Nat.beq a d) (Bool.and (Nat.beq b e') (Nat.beq c f))) = true from e)
  obtain ⟨h2, h3⟩ := qS h2
  obtain ⟨h3, h4⟩ := qS h3
  have h1 := kq.1 h1
  have h2 := mG h2
  have h3 := mG h3
  have h4 := mG h4
  subst h1 h2 h3 h4; rfl
 ·rfl
 ·rename_i i j; exact congrArg _ (kq.1 e)
 ·rfl
 ·rfl
 ·rfl
theorem si : ∀ {a b : List AV}, qy a b = true → a = b
 | [], [], _ => rfl
 | [], _ :: _, e => by cases e
 | _ :: _, [], e => by cases e
 | x :: a, y :: b, e => by
  obtain ⟨h1, h2⟩ := ez (show (@Bool.rec (fun _ => Bool) false (qy a b) (kX x y)) = true from e)
  rw [yl h1, si h2]
theorem ym {x y : AV} (e : rS x y = true) : x = y := by
 by_cases hx : ∃ l, x = .agg l
 ·obtain ⟨l, rfl⟩ := hx
  cases y <;> (try (cases e; done))
  exact congrArg _ (si e)
 ·have : rS x y = kX x y := by cases x <;> first | rfl | exact absurd ⟨_, rfl⟩ hx
  exact yl (this ▸ e)
theorem yn {x y : AV} (e : uT x y = true) : x = y := by
 by_cases hx : ∃ f l, x = .fn f l
 ·obtain ⟨f, l, rfl⟩ := hx
  cases y <;> (try (cases e; done))
  rename_i g m
  obtain ⟨h1, h2⟩ := qS (show Bool.and (Nat.beq f g) (qy l m) = true from e)
  rw [mG h1, si h2]
 ·by_cases hi : ∃ t u, x = .iface t u
  ·obtain ⟨t, u, rfl⟩ := hi
   cases y <;> (try (cases e; done))
   rename_i t' u'
   obtain ⟨h1, h2⟩ := qS (show Bool.and (Nat.beq t t') (rS u u') = true from e)
   rw [mG h1, ym h2]
  ·have : uT x y = rS x y := by cases x <;> first | rfl | exact absurd ⟨_, _, rfl⟩ hx | exact absurd ⟨_, _, rfl⟩ hi
   exact ym (this ▸ e)
theorem yo : ∀ {a b : List AV}, Gu a b = true → a = b
 | [], [], _ => rfl
 | [], _ :: _, e => by cases e
 | _ :: _, [], e => by cases e
 | x :: a, y :: b, e => by
  obtain ⟨h1, h2⟩ := ez (show (@Bool.rec (fun _ => Bool) false (Gu a b) (uT x y)) = true from e)
  rw [yn h1, yo h2]
theorem rp {x y : AV} (e : same x y = true) : x = y := by
 by_cases hx : ∃ l, x = .nZ l
 ·obtain ⟨l, rfl⟩ := hx
  cases y <;> (try (cases e; done))
  exact congrArg _ (yo e)
 ·have : same x y = uT x y := by cases x <;> first | rfl | exact absurd ⟨_, rfl⟩ hx
  exact yn (this ▸ e)
theorem Ha {x : AV} (e : OW x = true) : x = .undef := by cases x <;> first | rfl | cases e
theorem eA {x y : AV} (e : xC x y = true) : x = y := by
 have e : (@Bool.rec (fun _ => Bool) (same x y) (OW y) (OW x)) = true := e
 cases hx : OW x with
 | true => rw [hx] at e; rw [Ha hx, Ha e]
 | false => rw [hx] at e; exact rp e
theorem A1.eq_eq {x y : A1} (e : A1.eq x y = true) : x = y := by
 cases x with
 | nil => cases y with
  | nil => rfl
  | mk => cases e
 | mk => cases y with
  | nil => cases e
  | mk =>
   obtain ⟨e0, e⟩ := ez e; obtain ⟨e1, e⟩ := ez e; obtain ⟨e2, e⟩ := ez e; obtain ⟨e3, e⟩ := ez e; obtain ⟨e4, e⟩ := ez e; obtain ⟨e5, e⟩ := ez e; obtain ⟨e6, e⟩ := ez e; obtain ⟨e7, e⟩ := ez e
   obtain ⟨e8, e⟩ := ez e; obtain ⟨e9, e⟩ := ez e; obtain ⟨ea, e⟩ := ez e; obtain ⟨eb, e⟩ := ez e; obtain ⟨ec, e⟩ := ez e; obtain ⟨ed, e⟩ := ez e; obtain ⟨ee, e⟩ := ez e
   rw [eA e0, eA e1, eA e2, eA e3, eA e4, eA e5, eA e6, eA e7, eA e8, eA e9, eA ea, eA eb, eA ec, eA ed, eA ee, eA e]
theorem A2.eq_eq {x y : A2} (e : A2.eq x y = true) : x = y := by
 cases x with
 | nil => cases y with
  | nil => rfl
  | mk => cases e
 | mk => cases y with
  | nil => cases e
  | mk =>
   obtain ⟨e0, e⟩ := ez e; obtain ⟨e1, e⟩ := ez e; obtain ⟨e2, e⟩ := ez e; obtain ⟨e3, e⟩ := ez e; obtain ⟨e4, e⟩ := ez e; obtain ⟨e5, e⟩ := ez e; obtain ⟨e6, e⟩ := ez e; obtain ⟨e7, e⟩ := ez e
   obtain ⟨e8, e⟩ := ez e; obtain ⟨e9, e⟩ := ez e; obtain ⟨ea, e⟩ := ez e; obtain ⟨eb, e⟩ := ez e; obtain ⟨ec, e⟩ := ez e; obtain ⟨ed, e⟩ := ez e; obtain ⟨ee, e⟩ := ez e
   rw [A1.eq_eq e0, A1.eq_eq e1, A1.eq_eq e2, A1.eq_eq e3, A1.eq_eq e4, A1.eq_eq e5, A1.eq_eq e6, A1.eq_eq e7, A1.eq_eq e8, A1.eq_eq e9, A1.eq_eq ea, A1.eq_eq eb, A1.eq_eq ec, A1.eq_eq ed, A1.eq_eq ee, A1.eq_eq e]
theorem A3.eq_eq {x y : A3} (e : A3.eq x y = true) : x = y := by
 cases x with
 | nil => cases y with
  | nil => rfl
  | mk => cases e
 | mk => cases y with
  | nil => cases e
  | mk =>
   obtain ⟨e0, e⟩ := ez e; obtain ⟨e1, e⟩ := ez e; obtain ⟨e2, e⟩ := ez e; obtain ⟨e3, e⟩ := ez e; obtain ⟨e4, e⟩ := ez e; obtain ⟨e5, e⟩ := ez e; obtain ⟨e6, e⟩ := ez e; obtain ⟨e7, e⟩ := ez e
   obtain ⟨e8, e⟩ := ez e; obtain ⟨e9, e⟩ := ez e; obtain ⟨ea, e⟩ := ez e; obtain ⟨eb, e⟩ := ez e; obtain ⟨ec, e⟩ := ez e; obtain ⟨ed, e⟩ := ez e; obtain ⟨ee, e⟩ := ez e
   rw [A2.eq_eq e0, A2.eq_eq e1, A2.eq_eq e2, A2.eq_eq e3, A2.eq_eq e4, A2.eq_eq e5, A2.eq_eq e6, A2.eq_eq e7, A2.eq_eq e8, A2.eq_eq e9, A2.eq_eq ea, A2.eq_eq eb, A2.eq_eq ec, A2.eq_eq ed, A2.eq_eq ee, A2.eq_eq e]
theorem A4.eq_eq {x y : A4} (e : A4.eq x y = true) : x = y := by
 cases x with
 | nil => cases y with
  | nil => rfl
  | mk => cases e
 | mk => cases y with
  | nil => cases e
  | mk =>
   obtain ⟨e0, e⟩ := ez e; obtain ⟨e1, e⟩ := ez e; obtain ⟨e2, e⟩ := ez e; obtain ⟨e3, e⟩ := ez e; obtain ⟨e4, e⟩ := ez e; obtain ⟨e5, e⟩ := ez e; obtain ⟨e6, e⟩ := ez e; obtain ⟨e7, e⟩ := ez e
   obtain ⟨e8, e⟩ := ez e; obtain ⟨e9, e⟩ := ez e; obtain ⟨ea, e⟩ := ez e; obtain ⟨eb, e⟩ := ez e; obtain ⟨ec, e⟩ := ez e; obtain ⟨ed, e⟩ := ez e; obtain ⟨ee, e⟩ := ez e
   rw [A3.eq_eq e0, A3.eq_eq e1, A3.eq_eq e2, A3.eq_eq e3, A3.eq_eq e4, A3.eq_eq e5, A3.eq_eq e6, A3.eq_eq e7, A3.eq_eq e8, A3.eq_eq e9, A3.eq_eq ea, A3.eq_eq eb, A3.eq_eq ec, A3.eq_eq ed, A3.eq_eq ee, A3.eq_eq e]
theorem Cl.eq_eq {x y : Cl} (e : Cl.eq x y = true) : x = y := by
 cases x <;> cases y <;> (try (cases e; done))
 ·exact congrArg _ (A1.eq_eq e)
 ·exact congrArg _ (A2.eq_eq e)
 ·exact congrArg _ (A3.eq_eq e)
 ·exact congrArg _ (A4.eq_eq e)
theorem Fl.eq_eq {x y : Fl} (e : Fl.eq x y = true) : x = y := by cases x <;> cases y <;> first | rfl | cases e
theorem Lh {x y : KV} (e : OX x y = true) : x = y := by
 cases x; cases y
 obtain ⟨h1, h2⟩ := ez e
 obtain ⟨h2, h3⟩ := ez h2
 rw [mG h1, rp h2, eA h3]
theorem yp : ∀ {a b : List KV}, Gv a b = true → a = b
 | [], [], _ => rfl
 | [], _ :: _, e => by cases e
 | _ :: _, [], e => by cases e
 | x :: a, y :: b, e => by
  obtain ⟨h1, h2⟩ := ez (show (@Bool.rec (fun _ => Bool) false (Gv a b) (OX x y)) = true from e)
  rw [Lh h1, yp h2]
theorem Hb {x y : Obj} (e : yd x y = true) : x = y := by
 cases x <;> cases y <;> (try (cases e; done))
 ·rfl
 ·obtain ⟨h1, h2⟩ := ez e
  obtain ⟨h2, h3⟩ := ez h2
  obtain ⟨h3, h4⟩ := ez h3
  obtain ⟨h4, h5⟩ := ez h4
  rw [mG h1, mG h2, yk h3, Fl.eq_eq h4, Cl.eq_eq h5]
 ·obtain ⟨h1, h2⟩ := ez e
  rw [mG h1, yp h2]
theorem Cx (x y : AV) : (gE x y = x ∧ x = y) ∨ gE x y = .undef := by
 show ((@Bool.rec (fun _ => AV) .undef x (same x y)) = x ∧ x = y) ∨ (@Bool.rec (fun _ => AV) .undef x (same x y)) = .undef
 cases hs : same x y with
 | true => exact .inl ⟨rfl, rp hs⟩
 | false => exact .inr rfl
theorem uU (x y : Obj) : (bF x y = x ∧ x = y) ∨ bF x y = .dead := by
 show ((@Bool.rec (fun _ => Obj) .dead x (yd x y)) = x ∧ x = y) ∨ (@Bool.rec (fun _ => Obj) .dead x (yd x y)) = .dead
 cases hs : yd x y with
 | true => exact .inl ⟨rfl, Hb hs⟩
 | false => exact .inr rfl
theorem A1.ir (d : H) (x y : A1) : A1.get d (A1.mg x y) = gE (A1.get d x) (A1.get d y) := by
 cases x <;> cases y <;> cases d <;> rfl
theorem A2.ir (d : H) (x y : A2) : A2.get d (A2.mg x y) = A1.mg (A2.get d x) (A2.get d y) := by
 cases x <;> cases y <;> cases d <;> rfl
theorem O1.ir (d : H) (x y : O1) : O1.get d (O1.mg x y) = bF (O1.get d x) (O1.get d y) := by
 cases x <;> cases y <;> cases d <;> rfl
theorem O2.ir (d : H) (x y : O2) : O2.get d (O2.mg x y) = O1.mg (O2.get d x) (O2.get d y) := by
 cases x <;> cases y <;> cases d <;> rfl
theorem O3.ir (d : H) (x y : O3) : O3.get d (O3.mg x y) = O2.mg (O3.get d x) (O3.get d y) := by
 cases x <;> cases y <;> cases d <;> rfl
theorem O4.ir (d : H) (x y : O4) : O4.get d (O4.mg x y) = O3.mg (O4.get d x) (O4.get d y) := by
 cases x <;> cases y <;> cases d <;> rfl
theorem Cy (a b : H) (x y : A2) : aC a b (A2.mg x y) = gE (aC a b x) (aC a b y) := by
 simp only [aC, A2.ir, A1.ir]
theorem yq (i : P4) (x y : T4) : cL i (wo x y) = bF (cL i x) (cL i y) := by
 obtain ⟨x, f⟩ := x
 obtain ⟨y, g⟩ := y
 cases i with
 | eL n s => rfl
 | mk a b c d =>
 show O1.get d (O2.get c (O3.get b (O4.get a (O4.mg x y)))) = _
 rw [O4.ir, O3.ir, O2.ir, O1.ir]
 rfl
def iZ (r2 r : A2) : Prop := ∀ a b, aC a b r2 = aC a b r ∨ aC a b r2 = .undef
def jH (h2 h : Hp) : Prop := ∀ i, ah i h2 = ah i h ∨ ah i h2 = .dead
theorem iZ.refl (r : A2) : iZ r r := fun _ _ => .inl rfl
theorem jH.refl (h : Hp) : jH h h := fun _ => .inl rfl
theorem iZ.trans {r1 r2 r3 : A2} (h : iZ r1 r2) (g : iZ r2 r3) : iZ r1 r3 := fun a b => by
 rcases h a b with e | e
 ·rw [e]; exact g a b
 ·exact .inr e
theorem jH.trans {h1 h2 h3 : Hp} (h : jH h1 h2) (g : jH h2 h3) : jH h1 h3 := fun i => by
 rcases h i with e | e
 ·rw [e]; exact g i
 ·exact .inr e
variable {P : Program} {φ φ' : aU} {h h' h2 : Hp} {w w' : World} {v : AV} {r r2 : A2} {a : Act} {cv : Value} {n : Nat} {G : Gl}
theorem HR.less (H : HR φ h w) (L : jH h2 h) : HR φ h2 w where
 obj i hl := by
  rcases L i with e | e
  ·rw [e] at hl ⊢; exact H.obj i hl
  ·exact absurd e hl.2
 inj i j p q hi hj hw := by
  rcases L i with e | e
  ·rcases L j with e' | e'
   ·rw [e] at hi; rw [e'] at hj; rw [e, e'] at hw; exact H.inj i j p q hi hj hw
   ·exact absurd e' hj.2
  ·exact absurd e hi.2
 fresh i hi := by
  rcases L i with e | e
  ·exact H.fresh i (e ▸ hi)
  ·rw [e] at hi; cases hi
 bound := H.bound
theorem Step.less {φ₀ : aU} {h₀ : Hp} {w₀ : World} (S : Step φ₀ h₀ w₀ φ h w) (L : jH h2 h) : Step φ₀ h₀ w₀ φ h2 w :=
 ⟨S.le, S.keeps, fun i p hl hp => by
  rcases L i with e | e
  ·have g := S.new i p (e ▸ hl) hp
   rw [e]; exact g
  ·exact absurd e hl.2⟩
theorem St.less (S : St n G φ r h a w) (L : iZ r2 r) (M : jH h2 h) : St n G φ r2 h2 a w :=
 ⟨S.hr.less M, fun t ht => by
  rcases L (hi t) (lo t) with e | e
  ·rw [e]; exact S.aI t ht
  ·rw [e]; exact .undef _, S.fT, S.size, S.jD⟩
theorem uV {x y : RS} (hs : (Ax x y).Safe) : ∃ r h r' h' h2, x = .nm r h ∧ y = .nm r' h' ∧ Ax x y = .nm (A2.mg r r') h2 ∧ jH h2 h ∧ jH h2 h' := by
 cases x <;> (try exact (RS.Safe.err hs).elim)
 rename_i r h
 cases y <;> (try exact (RS.Safe.err hs).elim)
 rename_i r' h'
 obtain ⟨t, m⟩ := h
 obtain ⟨t', m'⟩ := h'
 change RS.Safe (@Bool.rec (fun _ => RS) (.err 301) (.nm (A2.mg r r') (.mk (wo t t') m)) (rL m m')) at hs
 have e : Ax (.nm r (.mk t m)) (.nm r' (.mk t' m')) = (@Bool.rec (fun _ => RS) (.err 301) (.nm (A2.mg r r') (.mk (wo t t') m)) (rL m m')) := rfl
 cases hp : rL m m' with
 | false => rw [hp] at hs; exact (RS.Safe.err hs).elim
 | true =>
  rw [hp] at e
  refine ⟨r, _, r', _, .mk (wo t t') m, rfl, rfl, e, fun i => ?_, fun i => ?_⟩
  ·show cL i (wo t t') = cL i t ∨ cL i (wo t t') = .dead
   rw [yq]
   rcases uU (cL i t) (cL i t') with ⟨g1, _⟩ | g1
   ·exact .inl g1
   ·exact .inr g1
  ·show cL i (wo t t') = cL i t' ∨ cL i (wo t t') = .dead
   rw [yq]
   rcases uU (cL i t) (cL i t') with ⟨g1, g2⟩ | g1
   ·exact .inl (g1.trans g2)
   ·exact .inr g1
theorem iZ.Rw (r r' : A2) : iZ (A2.mg r r') r := fun a b => by
 rw [Cy]
 rcases Cx (aC a b r) (aC a b r') with ⟨g1, _⟩ | g1
 ·exact .inl g1
 ·exact .inr g1
theorem iZ.Rx (r r' : A2) : iZ (A2.mg r r') r' := fun a b => by
 rw [Cy]
 rcases Cx (aC a b r) (aC a b r') with ⟨g1, g2⟩ | g1
 ·exact .inl (g1.trans g2)
 ·exact .inr g1
theorem Ec {β : Type} (z : β) (s : Nat → β → β) (m : Nat) : Ao z s (m + 1) = s m (Ao z s m) := rfl
theorem Hc {f : Nat → RS} : ∀ m, (Ao (f 0) (fun m ih => Ax ih (f (Nat.succ m))) (m + 1)).Safe → ∃ R H, Ao (f 0) (fun m ih => Ax ih (f (Nat.succ m))) (m + 1) = .nm R H ∧ ∀ c, c ≤ m + 1 → ∃ r h, f c = .nm r h ∧ iZ R r ∧ jH H h
 | 0, hs => by
  obtain ⟨r, h, r', h', h2, e1, e2, e3, l1, l2⟩ := uV (x := f 0) (y := f 1) hs
  refine ⟨_, _, e3, fun c hc => ?_⟩
  rcases Nat.lt_or_ge c 1 with g | g
  ·obtain rfl : c = 0 := by omega
   exact ⟨r, h, e1, .Rw _ _, l1⟩
  ·obtain rfl : c = 1 := by omega
   exact ⟨r', h', e2, .Rx _ _, l2⟩
 | m + 1, hs => by
  rw [Ec] at hs ⊢
  obtain ⟨r, h, r', h', h2, e1, e2, e3, l1, l2⟩ := uV hs
  obtain ⟨R, H, g1, g2⟩ := Hc m (by rw [e1]; exact fun n hn => by cases hn)
  rw [e1] at g1; cases g1
  refine ⟨_, _, e3, fun c hc => ?_⟩
  rcases Nat.lt_or_ge c (m + 2) with g | g
  ·obtain ⟨rc, hc', f1, f2, f3⟩ := g2 c (by omega)
   exact ⟨rc, hc', f1, (iZ.Rw _ _).trans f2, l1.trans f3⟩
  ·obtain rfl : c = m + 2 := by omega
   exact ⟨r', h', e2, .Rx _ _, l2⟩
theorem rq : ∀ x : RS, (dH x).Safe → x.Safe ∧ ∀ y, x.bt y → ∀ e r' h', Ends y e r' h' → ∃ y2 r2 h2, (dH x).bt y2 ∧ Ends y2 e r2 h2 ∧ iZ r2 r' ∧ jH h2 h' := by
  intro x
  induction x with
  | nm r h => exact fun hs => ⟨hs, fun y hy e r' h' he => ⟨y, r', h', hy, he, .refl _, .refl _⟩⟩
  | ex i r h => exact fun hs => ⟨hs, fun y hy e r' h' he => ⟨y, r', h', hy, he, .refl _, .refl _⟩⟩
  | go i r h => exact fun hs => ⟨hs, fun y hy e r' h' he => ⟨y, r', h', hy, he, .refl _, .refl _⟩⟩
  | ret r h => exact fun hs => ⟨hs, fun y hy e r' h' he => ⟨y, r', h', hy, he, .refl _, .refl _⟩⟩
  | err n => exact fun hs => (RS.Safe.err hs).elim
  | ch n k ih =>
    intro hs
    have e0 : dH (.ch n k) = Gw n (fun i => dH (k i)) := rfl
    rw [e0] at hs ⊢
    cases n with
    | zero => exact (RS.Safe.err hs).elim
    | succ n =>
      cases n with
      | zero =>
        have hs : (dH (k 0)).Safe := hs
        obtain ⟨s1, s2⟩ := ih 0 hs
        refine ⟨fun m hm => ?_, fun y hy e r' h' he => ?_⟩
        · cases hm with
          | ch _ _ c _ hc hl => obtain rfl : c = 0 := by omega
                                exact s1 m hl
        · cases hy with
          | ch _ _ c _ hc hl => obtain rfl : c = 0 := by omega
                                exact s2 y hl e r' h' he
      | succ m =>
        have hs : (Ao (dH (k 0)) (fun m ih => Ax ih (dH (k (Nat.succ m)))) (m + 1)).Safe := hs
        obtain ⟨R, H, g1, g2⟩ := Hc (f := fun i => dH (k i)) m hs
        have e1 : Gw (m + 1 + 1) (fun i => dH (k i)) = .nm R H := g1
        rw [e1]
        have hk : ∀ c, c < m + 1 + 1 → (dH (k c)).Safe := fun c hc => by
          obtain ⟨rc, hc', f1, _, _⟩ := g2 c (by omega)
          rw [f1]; exact fun n hn => by cases hn
        refine ⟨fun j hj => ?_, fun y hy e r' h' he => ?_⟩
        · cases hj with
          | ch _ _ c _ hc hl => exact (ih c (hk c hc)).1 j hl
        · cases hy with
          | ch _ _ c _ hc hl =>
            obtain ⟨y2, r2, h2, q1, q2, q3, q4⟩ := (ih c (hk c hc)).2 y hl e r' h' he
            obtain ⟨rc, hc', f1, f2, f3⟩ := g2 c (by omega)
            have f1 : dH (k c) = .nm rc hc' := f1
            rw [f1] at q1
            cases q1
            cases q2
            exact ⟨_, R, H, .nm _ _, .nm _ _, f2.trans q3, f3.trans q4⟩
variable {P : Program} {φ φ' : aU} {h h' h2 : Hp} {w w' : World} {v : AV} {r r2 : A2} {a : Act} {cv : Value} {n : Nat} {G : Gl} [NB G] {names : List String} {p : Pg} {run : iP}
theorem Li {x : AO} {cx : Value} (H : HR φ h w) (hx : VR φ (ev x r) cx) {t : TypeId} {d : TypeDesc} (hd : P.underlying t = some d) (ha : ry P t = false) (e : qv x r h = .ok v h') :
  h' = h ∧ ∃ ad cv, cx = .pointer (some ad) ∧ (loadVar t ad).run P w = .ok cv w ∧ VR φ v cv := by
 obtain ⟨i, o, ex, e1⟩ := cZ e
 rw [ex] at hx
 obtain ⟨el, n, ex, fl, c, hi, e2⟩ := bg e1
 obtain ⟨hb, e3⟩ := aG e2
 obtain ⟨rfl, rfl⟩ := RV.aA e3
 cases hx with
 | ptr _ _ p hp =>
  obtain ⟨cv, h1, h2, h3⟩ := H.cell hi hp (lz hb)
  exact ⟨rfl, _, cv, rfl, by simp [loadVar, hM hd, ha, h1], h2⟩
theorem Lj {x : AO} {cx : Value} (H : HR φ h w) (hx : VR φ (ev x r) cx) {t : TypeId} {d : TypeDesc} (hd : P.underlying t = some d) (ha : ry P t = true) {m : Nat} (hm : bH P t = m) (e : qw m x r h = .ok v h') :
  h' = h ∧ ∃ ad cv, cx = .pointer (some ad) ∧ (loadVar t ad).run P w = .ok cv w ∧ VR φ v cv := by
 obtain ⟨i, o, ex, e1⟩ := cZ e
 rw [ex] at hx
 obtain ⟨el, n, ex, fl, c, hi, e2⟩ := bg e1
 obtain ⟨hb, e3⟩ := aG e2
 obtain ⟨rfl, rfl⟩ := RV.aA e3
 obtain ⟨inf, hinf⟩ := iY hd
 cases hx with
 | ptr _ _ p hp =>
  obtain ⟨l, h1, h2, h3, h4⟩ := H.values hi hp m o (by simpa using hb)
  have hsz : inf.size = m := by rw [← de hinf, hm]
  exact ⟨rfl, _, _, rfl, by simp [loadVar, hM hd, ha, bG hinf, hsz, run_loadCells h1 h4], .agg _ l h2 h3⟩
def yr (a : Act) : ResultVar → Sem Value := fun
 | .tmp t => pure (a.tmps.getD t undef)
 | .cell b t => do loadVar t (← asAddr (a.tmps.getD b undef))
theorem Lk {s : Rs} {rv : ResultVar} (S : St n G φ r h a w) (hs : QC P n rv = some s) (he : KP s r h = .ok v h') : h' = h ∧ ∃ cv, (yr a rv).run P w = .ok cv w ∧ VR φ v cv := by
 cases rv with
 | tmp t =>
  simp only [QC] at hs
  split at hs
  ·rename_i ht
   cases hs
   obtain ⟨rfl, rfl⟩ := RV.aA he
   exact ⟨rfl, _, rfl, S.Pq t ht⟩
  ·cases hs
 | cell b t =>
  simp only [QC] at hs
  split at hs
  ·cases hs
  ·rename_i hu
   obtain ⟨d, hd⟩ := gP hu
   split at hs
   ·rename_i ht
    have hv : VR φ (ev (.t (hi b) (lo b)) r) (a.tmps.getD b undef) := S.Pq b ht
    have key : h' = h ∧ ∃ ad cv, a.tmps.getD b undef = .pointer (some ad) ∧ (loadVar t ad).run P w = .ok cv w ∧ VR φ v cv := by
     cases ha : ry P t with
     | true =>
      rw [ha] at hs
      cases hs
      exact Lj S.hr hv hd ha rfl he
     | false =>
      rw [ha] at hs
      cases hs
      exact Li S.hr hv hd ha he
    obtain ⟨e1, ad, cv, e2, e3, e4⟩ := key
    refine ⟨e1, cv, ?_, e4⟩
    have : (asAddr (.pointer (some ad))).run P w = .ok ad w := rfl
    simp only [yr, e2, Sem.run_bind, this, Result.andThen_ok, e3]
   ·cases hs
theorem Cz (S : St n G φ r h a w) : ∀ {l : List ResultVar} {rs : List Rs} {k : List AV → RV}, l.mapM (QC P n) = some rs → OY rs r h k = .ok v h' → ∃ vs cs, k vs = .ok v h' ∧ (l.mapM (yr a)).run P w = .ok cs w ∧ cU φ vs cs
 | [], rs, k, hl, he => by
  simp at hl; subst hl
  exact ⟨[], [], he, rfl, .nil⟩
 | x :: l, rs, k, hl, he => by
  simp only [List.mapM_cons, Option.pure_def, Option.bind_eq_bind, Option.bind_eq_some_iff, Option.some.injEq] at hl
  obtain ⟨s, hs, rs, hrs, rfl⟩ := hl
  have he : (RV.rec (fun v _ => OY rs r h (fun vs => k (v :: vs))) (fun n => .err n) (KP s r h) : RV) = .ok v h' := he
  cases h1 : KP s r h with
  | err n => rw [h1] at he; cases he
  | ok u g =>
   rw [h1] at he
   obtain ⟨_, cv, e1, e2⟩ := Lk S hs h1
   obtain ⟨vs, cs, f1, f2, f3⟩ := Cz S hrs he
   refine ⟨u :: vs, cv :: cs, f1, ?_, .cons _ _ _ _ e2 f3⟩
   simp only [List.mapM_cons, Sem.run_bind, e1, Result.andThen_ok, f2, Sem.run_pure]
theorem sj {fn : Func} {rs : List Rs} (S : St n G φ r h a w) (hr : fn.results.toList.mapM (QC P n) = some rs) (he : qR rs r h = .ok v h') : h' = h ∧ ∃ cv, (results fn a.tmps).run P w = .ok cv w ∧ VR φ v cv := by
 obtain ⟨vs, cs, f1, f2, f3⟩ := Cz S hr he
 have hm : (fn.results.mapM (yr a)).run P w = .ok cs.toArray w := by
  rw [Array.mapM_eq_mapM_toList]
  simp [f2]
 have hrun : (results fn a.tmps).run P w = .ok (if h : cs.toArray.size = 1 then cs.toArray[0] else .tuple cs.toArray) w := by
  have : results fn a.tmps = (do let vs ← fn.results.mapM (yr a); pure (if h : vs.size = 1 then vs[0] else .tuple vs)) := rfl
  rw [this]
  simp only [Sem.run_bind, hm, Result.andThen_ok, Sem.run_pure]
 cases f3 with
 | nil =>
  obtain ⟨rfl, rfl⟩ := RV.aA f1
  exact ⟨rfl, .tuple #[], by rw [hrun]; rfl, .nZ [] [] .nil⟩
 | cons u c us ds g1 g2 => cases g2 with
  | nil =>
   obtain ⟨rfl, rfl⟩ := RV.aA f1
   exact ⟨rfl, c, by rw [hrun]; rfl, g1⟩
  | cons u2 c2 us ds g3 g4 =>
   obtain ⟨rfl, rfl⟩ := RV.aA f1
   refine ⟨rfl, .tuple (c :: c2 :: ds).toArray, by rw [hrun]; rw [dif_neg (by simp)], .nZ _ _ (.cons _ _ _ _ g1 (.cons _ _ _ _ g3 g4))⟩
theorem sk : ∀ (l : List AV) (i : Nat) (r : A2) (t : Nat), t < 256 → i + l.length ≤ 256 → aC (hi t) (lo t) (bE l i r) = if hh : i ≤ t ∧ t < i + l.length then l[t - i]'(by omega) else aC (hi t) (lo t) r
 | [], i, r, t, ht, hl => by rw [dif_neg (by simp only [List.length_nil]; omega)]; rfl
 | v :: l, i, r, t, ht, hl => by
  simp only [List.length_cons] at hl
  have e : bE (v :: l) i r = bE l (i + 1) (rM (hi i) (lo i) v r) := rfl
  rw [e, sk l (i + 1) _ t ht (by omega), gZ]
  by_cases h1 : t = i
  ·subst h1
   rw [dif_neg (by omega), dif_pos (by simp), if_pos ⟨rfl, rfl⟩]
   simp
  ·rw [if_neg (fun g => h1 ((GW ht (by omega)).1 g))]
   by_cases h2 : i ≤ t ∧ t < i + (l.length + 1)
   ·rw [dif_pos (by omega), dif_pos (by simpa using h2)]
    have : t - i = (t - (i + 1)) + 1 := by omega
    simp only [this, List.getElem_cons_succ]
   ·rw [dif_neg (by omega), dif_neg (by simpa using h2)]
theorem Hd (a b : H) : aC a b .nil = .undef := by
 simp only [aC, A2.get_nil, A1.get_nil]
theorem St.start {args : List AV} {vals : List Value} (H : HR φ h w) (hv : cU φ args vals) (hg : mF G φ) (hl : args.length ≤ 256) (n : Nat) : St n G φ (bE args 0 .nil) h { tmps := vals.toArray ++ Array.replicate (n - vals.toArray.size) undef, defers := [] } w := by
 refine St.mk' H (fun t ht => ?_) rfl ?_ hg
 ·rw [sk args 0 _ t ht (by omega)]
  by_cases h1 : t < args.length
  ·rw [dif_pos (by omega)]
   have hlen := hv.length
   have : ({ tmps := vals.toArray ++ Array.replicate (n - vals.toArray.size) undef, defers := [] } : Act).tmps.getD t undef = vals[t]'(by omega) := by
    rw [Array.getD_eq_getD_getElem?, Array.getElem?_append_left (by simpa using (by omega : t < vals.length))]
    simp [List.getElem?_eq_getElem (show t < vals.length by omega)]
   rw [this]
   exact hv.get t h1 (by omega)
  ·rw [dif_neg (by omega), Hd]; exact .undef _
 ·simp; omega
section
variable {P : Program} {ops : Array Oper} {x y : Nat}
theorem sr (i : Nat) : (fY x y ops)[i]? = (ops[i]?).map fun o => if i = y then { o with after := o.after.push ⟨x, .data⟩ } else o := by
 unfold fY
 rw [Array.getElem?_modify]
 by_cases h : y = i
 ·subst h; simp
 ·rw [if_neg h]
  have : ¬ i = y := fun e => h e.symm
  simp [this]
theorem uW : (fY x y ops).size = ops.size := by simp [fY]
theorem He (j : Nat) : ((fY x y ops)[j]?).bind (·.dst) = (ops[j]?).bind (·.dst) := by
 rw [sr]
 cases ops[j]? with
 | none => rfl
 | some o =>
  show (if j = y then _ else o : Oper).dst = o.dst
  split <;> rfl
theorem wH (t : Array Value) : yielded (fY x y ops) t = yielded ops t := by
 funext j
 unfold yielded
 rw [He]
theorem mf (Q : Exit → Act → World → Prop) (i : Nat) (K : Act → World → Prop) (a : Act) (w : World) : wpOp P (fY x y ops) Q i K a w = wpOp P ops Q i K a w := by
 unfold wpOp
 rw [sr, wH]
 cases ops[i]? with
 | none => rfl
 | some o =>
  show (if Region.wanted (if i = y then _ else o : Oper) _ then (if i = y then _ else o : Oper).wp P a w K Q ∨ ((if i = y then _ else o : Oper).asks P a w ∧ LetsOut Q) else K (a.put (if i = y then _ else o : Oper).dst undef) w) = _
  by_cases h : i = y
  ·rw [if_pos h]; rfl
  ·rw [if_neg h]
theorem eB {L : Array Bool} (i : Nat) : i ∈ Region.ready .any (fY x y ops) L ↔ i ∈ Region.ready .any ops L ∧ (i = y → L.getD x false = true) := by
 unfold Region.ready
 rw [List.mem_filter, List.mem_filter, uW, sr]
 cases ho : ops[i]? with
 | none => simp
 | some o =>
  by_cases h : i = y
  ·subst h
   have hb : Region.binds .any ⟨x, .data⟩ = true := rfl
   simp [hb, and_assoc]
  ·simp [h]
def Flat (P : Program) (o : Oper) : Prop := ∀ (a : Act) (w : World) (n : Next) (w' : World), (execOp a.eval o).run P w = .ok n w' → (∃ v, n = .value v) ∨ n = .skip
variable {Q Q1 Q2 : Exit → Act → World → Prop}
theorem Hf {o : Oper} (hf : Flat P o) {a : Act} {w : World} {K1 K2 K : Act → World → Prop} (hK : ∀ a w, K1 a w → K2 a w → K a w) (hQ : ∀ e a w, Q1 e a w → Q e a w) (h1 : o.wp P a w K1 Q1) (h2 : o.wp P a w K2 Q2) : o.wp P a w K Q := by
 unfold Oper.wp at *
 cases hr : (execOp a.eval o).run P w with
 | ok n w' =>
  rw [hr] at h1 h2
  rcases hf a w n w' hr with ⟨v, rfl⟩ | rfl
  ·exact hK _ _ h1 h2
  ·exact hK _ _ h1 h2
 | halt s w' =>
  rw [hr] at h1 h2
  cases s <;> simp only [Oper.upon] at h1 h2 ⊢ <;> exact hQ _ _ _ h1
theorem Hg (hf : ∀ (i : Nat) (o : Oper), ops[i]? = some o → Flat P o) (hl1 : ¬ LetsOut Q1) (hl2 : ¬ LetsOut Q2) {i : Nat} {a : Act} {w : World} {K1 K2 K : Act → World → Prop} (hK : ∀ a w, K1 a w → K2 a w → K a w) (hQ : ∀ e a w, Q1 e a w → Q e a w)
  (h1 : wpOp P ops Q1 i K1 a w) (h2 : wpOp P ops Q2 i K2 a w) : wpOp P ops Q i K a w := by
 unfold wpOp at *
 cases ho : ops[i]? with
 | none => rw [ho] at h1 h2; exact hK _ _ h1 h2
 | some o =>
  rw [ho] at h1 h2
  simp only at h1 h2 ⊢
  split
  ·rename_i hw
   rw [if_pos hw] at h1 h2
   rcases h1 with h1 | h1
   ·rcases h2 with h2 | h2
    ·exact .inl (Hf (hf i o ho) hK hQ h1 h2)
    ·exact absurd h2.2 hl2
   ·exact absurd h1.2 hl1
  ·rename_i hw
   rw [if_neg hw] at h1 h2
   exact hK _ _ h1 h2
theorem Hh (hQ : ∀ e a w, Q1 e a w → Q e a w) (h : LetsOut Q1) : LetsOut Q := let ⟨a, w, h⟩ := h; ⟨a, w, hQ _ _ _ h⟩
theorem pz (hQ : ∀ e a w, Q1 e a w → Q e a w) (hf : ∀ (i : Nat) (o : Oper), ops[i]? = some o → Flat P o) {i : Nat} {a : Act} {w : World} {K1 K : Act → World → Prop} (hK : ∀ a w, K1 a w → K a w) (h1 : wpOp P ops Q1 i K1 a w) : wpOp P ops Q i K a w := by
 unfold wpOp at *
 cases ho : ops[i]? with
 | none => rw [ho] at h1; exact hK _ _ h1
 | some o =>
  rw [ho] at h1
  simp only at h1 ⊢
  split
  ·rename_i hw
   rw [if_pos hw] at h1
   rcases h1 with h1 | h1
   ·exact .inl (Hf (hf i o ho) (fun a w h _ => hK a w h) hQ h1 h1)
   ·exact .inr ⟨h1.1, Hh hQ h1.2⟩
  ·rename_i hw
   rw [if_neg hw] at h1
   exact hK _ _ h1
theorem kr (hf : ∀ (i : Nat) (o : Oper), ops[i]? = some o → Flat P o) (hQ : ∀ e a w, Q1 e a w → Q e a w) : ∀ (fuel : Nat) (L : Array Bool) (a : Act) (w : World), L.getD x false = true → wpAny P .any (fY x y ops) Q1 fuel L a w → wpAny P .any ops Q fuel L a w
 | 0, L, a, w, hx, h => by
  have hr : Region.ready .any ops L = [] := List.eq_nil_iff_forall_not_mem.2 fun j hj => by
   have : j ∈ Region.ready .any (fY x y ops) L := eB j |>.2 ⟨hj, fun _ => hx⟩
   rw [h.1] at this; cases this
  exact ⟨hr, hQ _ _ _ h.2⟩
 | fuel + 1, L, a, w, hx, h => by
  have hrd : ∀ j, j ∈ Region.ready .any ops L → j ∈ Region.ready .any (fY x y ops) L := fun j hj => eB j |>.2 ⟨hj, fun _ => hx⟩
  refine ⟨fun hr => hQ _ _ _ (h.1 (List.eq_nil_iff_forall_not_mem.2 fun j hj => ?_)), fun i hi => ?_⟩
  ·have := (eB j |>.1 hj).1
   rw [hr] at this; cases this
  ·have := h.2 i (hrd i hi)
   rw [mf] at this
   refine pz hQ hf (fun a w h => kr hf hQ fuel _ a w ?_ h) this
   rw [Array.getD_eq_getD_getElem?] at hx ⊢
   rw [Array.getElem?_setIfInBounds]
   split
   ·rename_i e; subst e
    split
    ·rfl
    ·rename_i hlt
     rw [Array.getElem?_eq_none (by omega)] at hx
     cases hx
   ·exact hx
theorem uX (hf : ∀ (i : Nat) (o : Oper), ops[i]? = some o → Flat P o) (hl1 : ¬ LetsOut Q1) (hl2 : ¬ LetsOut Q2) (h1Q : ∀ e a w, Q1 e a w → Q e a w) (h2Q : ∀ e a w, Q2 e a w → Q e a w) :
  ∀ (fuel : Nat) (L : Array Bool) (a : Act) (w : World), wpAny P .any (fY x y ops) Q1 fuel L a w → wpAny P .any (fY y x ops) Q2 fuel L a w → x ≠ y → (L.getD x false = false) → (L.getD y false = false) → L.size = ops.size → x < ops.size → y < ops.size → wpAny P .any ops Q fuel L a w
 | 0, L, a, w, h1, h2, hn, hx, hy, hs, hxs, hys => by
  refine ⟨List.eq_nil_iff_forall_not_mem.2 fun j hj => ?_, h1Q _ _ _ h1.2⟩
  by_cases e : j = y
  ·have hjx : j ≠ x := fun e2 => hn (e2.symm.trans e)
   have : j ∈ Region.ready .any (fY y x ops) L := eB j |>.2 ⟨hj, fun e2 => absurd e2 hjx⟩
   rw [h2.1] at this; cases this
  ·have : j ∈ Region.ready .any (fY x y ops) L := eB j |>.2 ⟨hj, fun e2 => absurd e2 e⟩
   rw [h1.1] at this; cases this
 | fuel + 1, L, a, w, h1, h2, hn, hx, hy, hs, hxs, hys => by
  have r1 : ∀ j, j ∈ Region.ready .any ops L → j ≠ y → j ∈ Region.ready .any (fY x y ops) L := fun j hj e => eB j |>.2 ⟨hj, fun e2 => absurd e2 e⟩
  have r2 : ∀ j, j ∈ Region.ready .any ops L → j ≠ x → j ∈ Region.ready .any (fY y x ops) L := fun j hj e => eB j |>.2 ⟨hj, fun e2 => absurd e2 e⟩
  refine ⟨fun hr => h1Q _ _ _ (h1.1 (List.eq_nil_iff_forall_not_mem.2 fun j hj => ?_)), fun i hi => ?_⟩
  ·have := (eB j |>.1 hj).1
   rw [hr] at this; cases this
  ·by_cases e : i = x
   ·subst e
    have := h1.2 i (r1 i hi hn)
    rw [mf] at this
    refine pz h1Q hf (fun a w h => kr hf h1Q fuel _ a w ?_ h) this
    rw [Array.getD_eq_getD_getElem?, Array.getElem?_setIfInBounds, if_pos rfl, if_pos (by omega)]; rfl
   ·by_cases e' : i = y
    ·subst e'
     have := h2.2 i (r2 i hi e)
     rw [mf] at this
     refine pz h2Q hf (fun a w h => kr hf h2Q fuel _ a w ?_ h) this
     rw [Array.getD_eq_getD_getElem?, Array.getElem?_setIfInBounds, if_pos rfl, if_pos (by omega)]; rfl
    ·have g1 := h1.2 i (r1 i hi e')
     have g2 := h2.2 i (r2 i hi e)
     rw [mf] at g1 g2
     refine Hg hf hl1 hl2 (fun a w k1 k2 => uX hf hl1 hl2 h1Q h2Q fuel _ a w k1 k2 hn ?_ ?_ (by simp [hs]) hxs hys) h1Q g1 g2
     ·rw [Array.getD_eq_getD_getElem?, Array.getElem?_setIfInBounds, if_neg e, ← Array.getD_eq_getD_getElem?]; exact hx
     ·rw [Array.getD_eq_getD_getElem?, Array.getElem?_setIfInBounds, if_neg e', ← Array.getD_eq_getD_getElem?]; exact hy
end
variable {P : Program}
theorem Hi {s : Sem Value} {w w' : World} {n : Next} (h : (s >>= fun x => pure (Next.value x) : Sem Next).run P w = .ok n w') : (∃ v, n = .value v) ∨ n = .skip := by
 rw [Sem.run_bind] at h
 cases hs : s.run P w with
 | ok x w2 => rw [hs] at h; cases h; exact .inl ⟨_, rfl⟩
 | halt q w2 => rw [hs] at h; cases h
theorem Ps {s : Sem Unit} {w w' : World} {n : Next} (h : (s >>= fun _ => pure Next.skip : Sem Next).run P w = .ok n w') : (∃ v, n = .value v) ∨ n = .skip := by
 rw [Sem.run_bind] at h
 cases hs : s.run P w with
 | ok x w2 => rw [hs] at h; cases h; exact .inr rfl
 | halt q w2 => rw [hs] at h; cases h
theorem rz {α β : Type} {s : Sem α} {f : α → Sem β} {w w' : World} {n : β} (h : (s >>= f).run P w = .ok n w') : ∃ x w2, s.run P w = .ok x w2 ∧ (f x).run P w2 = .ok n w' := by
 rw [Sem.run_bind] at h
 cases hs : s.run P w with
 | ok x w2 => rw [hs] at h; exact ⟨x, w2, rfl, h⟩
 | halt q w2 => rw [hs] at h; cases h
theorem Ll {o : Oper} (hf : wI o.op = true) : Flat P o := by
 intro a w n w' h
 unfold execOp at h
 cases ho : o.op with
 | move x => rw [ho] at h; cases h; exact .inl ⟨_, rfl⟩
 | assign x => rw [ho] at h; cases h; exact .inl ⟨_, rfl⟩
 | pick c x y =>
  rw [ho] at h
  have h : ((asBool (a.eval c)) >>= fun b => pure (Next.value (if b then a.eval x else a.eval y)) : Sem Next).run P w = .ok n w' := h
  rw [Sem.run_bind] at h
  cases hs : (asBool (a.eval c)).run P w with
  | ok x w2 => rw [hs] at h; cases h; exact .inl ⟨_, rfl⟩
  | halt q w2 => rw [hs] at h; cases h
 | nilCheck x =>
  rw [ho] at h
  simp only at h
  split at h
  ·cases h
  ·cases h
  ·cases h
  ·split at h
   ·cases h
   ·obtain ⟨_, _, _, h⟩ := rz h
    obtain ⟨_, _, _, h⟩ := rz h
    split at h
    ·obtain ⟨_, _, h1, _⟩ := rz h
     cases h1
    ·first
      | (cases h; exact .inl ⟨_, rfl⟩)
      | (obtain ⟨_, _, _, h⟩ := rz h; cases h; exact .inl ⟨_, rfl⟩)
   ·cases h; exact .inl ⟨_, rfl⟩
  ·cases h; exact .inl ⟨_, rfl⟩
 | call c =>
  rw [ho] at hf h
  simp only [wI] at hf
  split at hf
  ·rename_i b hb
   have h : (resolve a.eval c o.type >>= fun d => invoke d.target d.args).run P w = .ok n w' := h
   unfold resolve at h
   simp only [hb] at h
   have h : (builtin b c.argTypes o.type (c.args.map fun | .const _ => true | _ => false) (c.args.map a.eval)).run P w = .ok n w' := h
   unfold builtin at h
   cases b <;> first | exact Hi h | (exact absurd hf (by decide)) | cases h
  ·cases hf
 | go c => rw [ho] at hf; cases hf
 | defer c => rw [ho] at hf; cases hf
 | send c x => rw [ho] at hf; cases hf
 | recv c x y => rw [ho] at hf; cases hf
 | select c x => rw [ho] at hf; cases hf
 | panic x => rw [ho] at hf; cases hf
 | _ => rw [ho] at h; first | exact Hi h | exact Ps h
variable {P : Program} {φ φ' : aU} {h h' h2 : Hp} {w w' : World} {v : AV} {r r2 : A2} {a : Act} {cv : Value} {n : Nat} {G : Gl} [NB G] {names : List String} {p : Pg} {run : iP}
def qT (P : Program) (G : Gl) (names : List String) (f : Nat) (body : AC) (res : List Rs) : Prop := ∃ fn body0, P.funcs[f]? = some fn ∧ cF P G names fn = .mk body0 res ∧ Impl body0 body
def wJ (P : Program) (G : Gl) (k : PK) (f : Nat) : Prop := ∀ (φ : aU) (h : Hp) (w : World) (args : List AV) (vals : List Value), mF G φ → HR φ h w → cU φ args vals → (fx k args h).Safe →
 Calls P f vals.toArray w (fB φ h w (fx k args h))
def Cc (P : Program) (G : Gl) (k : PK) (f : Nat) : Prop := ∀ (φ : aU) (h : Hp) (w : World) (args : List AV) (vals : List Value), mF G φ → HR φ h w → cU φ args vals → (fx k args h).Safe →
 ∃ cv w', (callFunc f vals.toArray).run P w = .ok (.value cv) w' ∧ fB φ h w (fx k args h) (.returned cv) w'
structure Env (P : Program) (G : Gl) (names : List String) (p : Pg) : Prop where
 mixed : P.follows .mixedOrders = true
 ms : nY P names p.ms
 fs : ∀ f, match ak f p.fs with
  | .none => True
  | .mk body res => qT P G names f body res
  | .uo k body res => qT P G names f body res ∧ wJ P G k f
  | .QB body res => qT P G names f body res
  | .ext k => Cc P G k f
def Pt (P : Program) (G : Gl) (names : List String) (p : Pg) : Prop := ∀ (n : Nat) (run : iP), eg P G p run → ∀ (id : Nat) (ops : Array Oper) (l : List (Nat × Bk)) (kf : A2 → Hp → RS) (r : A2) (h : Hp) (φ : aU) (a : Act) (w : World), ku P G n names ops l = true → St n G φ r h a w →
 (ox (aB p run) (aH p run) kf (l.map fun (i, b) => .mk b (py P G n names ops (ops.getD i default))) r h h []).Safe → (Code.region id ops true).wp P (fun e a' w' => e = .normal ∧ ∃ r' h' φ',
  ox (aB p run) (aH p run) kf (l.map fun (i, b) => .mk b (py P G n names ops (ops.getD i default))) r h h [] = kf r' h' ∧ St n G φ' r' h' a' w' ∧ Step φ h w φ' h' w') a w
def wK (P : Program) (G : Gl) (names : List String) (p : Pg) : Prop := ∀ (n : Nat) (run : iP), eg P G p run → ∀ (ops : Array Oper) (l : List (Nat × Bk)) (kf : A2 → Hp → RS) (r : A2) (h : Hp) (φ : aU) (a : Act) (w : World) (Q : Exit → Act → World → Prop), ku P G n names ops l = true → St n G φ r h a w →
 (ox (aB p run) (aH p run) kf (l.map fun (i, b) => .mk b (py P G n names ops (ops.getD i default))) r h h []).Safe → (∀ r' h' φ' a' w',
  ox (aB p run) (aH p run) kf (l.map fun (i, b) => .mk b (py P G n names ops (ops.getD i default))) r h h [] = kf r' h' → St n G φ' r' h' a' w' → Step φ h w φ' h' w' → Q .normal a' w') → wpAny P .any ops Q ops.size (Array.replicate ops.size false) a { w with drawn := w.drawn + 1 }
theorem wK.TQ (hm : P.follows .mixedOrders = true) (D : wK P G names p) : Pt P G names p := fun n run CO _ ops l kf r h φ a w hd S hs => wp_region_any hm (D n run CO ops l kf r h φ a w _ hd S hs fun r' h' φ' _ _ e S' T => ⟨rfl, r', h', φ', e, S', T⟩)
theorem kv {bad : Array Oper → AC} (ops : Array Oper) : (∃ l, ku P G n names ops l = true ∧ jo P G bad n names ops = .nT (l.map fun (i, b) => .mk b (py P G n names ops (ops.getD i default)))) ∨ jo P G bad n names ops = bad ops := by
 unfold jo
 dsimp only
 split
 ·rename_i h; exact .inl ⟨_, h, rfl⟩
 ·split
  ·rename_i h; exact .inl ⟨_, h, rfl⟩
  ·split
   ·rename_i h; exact .inl ⟨_, h, rfl⟩
   ·exact .inr rfl
theorem kx {next : Array Oper → AC} (ops : Array Oper) : (∃ x y, (∀ o, o ∈ ops.toList → wI o.op = true) ∧ x ≠ y ∧ x < ops.size ∧ y < ops.size ∧ lA P G next names ops = .alt (next (fY x y ops)) (next (fY y x ops))) ∨ ∃ k, lA P G next names ops = .bad k := by
 unfold lA
 split
 ·rename_i x y _
  split
  ·rename_i h
   simp only [Bool.and_eq_true, bne_iff_ne, ne_eq, decide_eq_true_eq] at h
   obtain ⟨⟨⟨h1, h2⟩, h3⟩, h4⟩ := h
   refine .inl ⟨x, y, fun o ho => ?_, h2, h3, h4, rfl⟩
   obtain ⟨i, hi, rfl⟩ := List.getElem_of_mem ho
   have := (Array.all_eq_true.1 h1) i (by simpa using hi)
   simpa using this
  ·exact .inr ⟨_, rfl⟩
 ·exact .inr ⟨_, rfl⟩
theorem iu (ops : Array Oper) : qU P G n names ops = .ops (ops.toList.map fun o => np P G n names ops o) ∨ ∃ q, qU P G n names ops = .OK q (ops.toList.map fun o => np P { G with b := some q } n names ops o) := by
 unfold qU
 dsimp only
 split
 ·split
  ·exact .inr ⟨_, rfl⟩
  ·exact .inl rfl
 ·exact .inl rfl
theorem AJ (ops : Array Oper) (l : Nat) : cY (qU P G n names ops) l = none := by
 rcases iu (P := P) (G := G) (n := n) (names := names) ops with e | ⟨q, e⟩ <;> rw [e] <;> rfl
theorem bQ.lift {x x' : RS} (hl : ∀ y, x.bt y → x'.bt y) {e : Exit} (hq : bQ n G φ h w x e a w') : bQ n G φ h w x' e a w' :=
 let ⟨y, r', h', φ', h1, h2, h3, h4⟩ := hq; ⟨y, r', h', φ', hl y h1, h2, h3, h4⟩
theorem oy (i : Nat) (c : Code) : cC P G n names (.block i c) = .block i (cC P G n names c) ∨ cC P G n names (.block i c) = .join (.block i (cC P G n names c)) := by
 cases c with
 | loop b =>
  show (if hasNext b then AC.join (.block i (.loop (cC P G n names b))) else .block i (.loop (cC P G n names b))) = _ ∨ (if hasNext b then AC.join (.block i (.loop (cC P G n names b))) else .block i (.loop (cC P G n names b))) = _
  split
  ·exact .inr rfl
  ·exact .inl rfl
 | _ => exact .inl rfl
theorem AK {bad : Array Oper → AC} (hb : ∀ ops l, cY (bad ops) l = none) (ops : Array Oper) (l : Nat) : cY (jo P G bad n names ops) l = none := by
 unfold jo
 dsimp only
 split
 ·rfl
 ·split
  ·rfl
  ·split
   ·rfl
   ·exact hb _ _
theorem AL {next : Array Oper → AC} (ops : Array Oper) (l : Nat) : cY (lA P G next names ops) l = none := by
 unfold lA
 split
 ·split <;> rfl
 ·rfl
theorem AM (ops : Array Oper) (l : Nat) : cY (oz P G n names ops) l = none :=
 AK (fun ops l => AL ops l) ops l
theorem su (l : Nat) : ∀ c : Code, cY (cC P G n names c) l = (findLabel c l).map (cC P G n names)
 | .seq a b => by
  have ha := su l a
  have hb := su l b
  show (match cY (cC P G n names a) l with | some c => some (AC.seq c (cC P G n names b)) | none => cY (cC P G n names b) l) = (match findLabel a l with | some rest => some (Code.seq rest b) | none => findLabel b l).map (cC P G n names)
  rw [ha, hb]
  cases findLabel a l <;> rfl
 | .label l' => by
  show (if Nat.beq l' l then some AC.skip else none) = (if l' == l then some Code.skip else none).map (cC P G n names)
  have : (l' == l) = Nat.beq l' l := by
   rw [Bool.eq_iff_iff, beq_iff_eq]; exact ⟨fun e => e ▸ Nat.beq_refl _, fun e => Nat.eq_of_beq_eq_true e⟩
  rw [this]
  cases Nat.beq l' l <;> rfl
 | .skip => rfl
 | .region _ ops false => AJ ops l
 | .region _ ops true => AM ops l
 | .cond c a b => by simp only [cC]; split <;> rfl
 | .block i a => by
  rcases oy (P := P) (G := G) (n := n) (names := names) i a with e | e <;> rw [e] <;> rfl
 | .loop a => rfl
 | .rangeFunc .. => rfl
 | .exit _ => rfl
 | .scope a => rfl
 | .goto _ => rfl
 | .ret => rfl
 | .refuse _ => rfl
theorem iw (l : Nat) : ∀ {a : AC}, qB a = true → cY a l = none
 | .seq a b, h => by
  simp only [qB, Bool.and_eq_true] at h
  simp only [cY, iw l h.1, iw l h.2]
 | .skip, _ => rfl
 | .ops _, _ => rfl
 | .nT _, _ => rfl
 | .cond .., _ => rfl
 | .block .., _ => rfl
 | .loop _, _ => rfl
 | .scope _, _ => rfl
 | .sat .., _ => rfl
 | .exit _, _ => rfl
 | .goto _, _ => rfl
 | .label _, h => by cases h
 | .ret, _ => rfl
 | .join _, _ => rfl
 | .bad _, _ => rfl
 | .ag .., h => by cases h
 | .alt .., _ => rfl
 | .OK .., _ => rfl
theorem sw (l : Nat) : ∀ {k : Nat} {c : AC}, lB k c = true → cY c l = cY (ky k c) l
 | 0, c, _ => rfl
 | k + 1, c, h => by
  cases c with
  | seq a b =>
   simp only [lB, Bool.and_eq_true] at h
   simp only [cY, iw l h.1, ky]
   exact sw l h.2
  | _ => exact iw l h
theorem sA (l : Nat) {a a' : AC} (h : Impl a a') : (cY a l = none ∧ cY a' l = none) ∨ ∃ c c', cY a l = some c ∧ cY a' l = some c' ∧ Impl c c' := by
 induction h with
 | refl c =>
  cases hc : cY c l with
  | none => exact .inl ⟨rfl, rfl⟩
  | some d => exact .inr ⟨d, d, rfl, rfl, .refl d⟩
 | @seq a a' b b' ha hb iha ihb =>
  simp only [cY]
  rcases iha with ⟨e1, e2⟩ | ⟨c, c', e1, e2, e3⟩
  ·simp only [e1, e2]; exact ihb
  ·simp only [e1, e2]; exact .inr ⟨_, _, rfl, rfl, .seq e3 hb⟩
 | cond => exact .inl ⟨rfl, rfl⟩
 | block => exact .inl ⟨rfl, rfl⟩
 | loop => exact .inl ⟨rfl, rfl⟩
 | scope => exact .inl ⟨rfl, rfl⟩
 | join => exact .inl ⟨rfl, rfl⟩
 | TC => exact .inl ⟨rfl, rfl⟩
 | bad n hn => exact .inl ⟨iw l hn, rfl⟩
 | ag k Lin L Lr Lx hn he hx ih =>
  rw [sw l hn]
  exact ih
def Ry (c x : AC) : Prop := match c with
 | .seq a b => ∃ a' b', x = .seq a' b' ∧ Impl a a' ∧ Impl b b'
 | .cond o a b => ∃ a' b', x = .cond o a' b' ∧ Impl a a' ∧ Impl b b'
 | .block i a => ∃ a', x = .block i a' ∧ Impl a a'
 | .loop a => ∃ a', x = .loop a' ∧ Impl a a'
 | .scope a => ∃ a', x = .scope a' ∧ Impl a a'
 | .join a => x = .join a ∨ (∃ i b b', a = .block i (.loop b) ∧ x = .join (.block i (.loop b')) ∧ Impl b b') ∨ ∃ i b b', a = .block i b ∧ x = .block i b' ∧ Impl b b'
 | c => x = c
theorem AN {c x : AC} (h : Impl c x) : (∃ k Lin L Lr Lx y, x = .ag (sB c k Lin L Lr Lx) y ∧ lB k c = true ∧ Impl (ky k c) y) ∨ (∃ n, x = .bad n) ∨ Ry c x := by
 cases h with
 | refl =>
  right; right
  cases c <;> first
   | exact ⟨_, _, rfl, .refl _, .refl _⟩
   | exact ⟨_, rfl, .refl _⟩
   | exact .inl rfl
   | rfl
 | seq ha hb => exact .inr (.inr ⟨_, _, rfl, ha, hb⟩)
 | cond ha hb => exact .inr (.inr ⟨_, _, rfl, ha, hb⟩)
 | block ha => exact .inr (.inr ⟨_, rfl, ha⟩)
 | loop ha => exact .inr (.inr ⟨_, rfl, ha⟩)
 | scope ha => exact .inr (.inr ⟨_, rfl, ha⟩)
 | join ha => exact .inr (.inr (.inr (.inl ⟨_, _, _, rfl, rfl, ha⟩)))
 | TC ha => exact .inr (.inr (.inr (.inr ⟨_, _, _, rfl, rfl, ha⟩)))
 | bad n hn => exact .inr (.inl ⟨n, rfl⟩)
 | ag k Lin L Lr Lx hn he hx => subst he; exact .inl ⟨k, Lin, L, Lr, Lx, _, rfl, hn, hx⟩
structure kz (P : Program) (G : Gl) (names : List String) (p : Pg) (m : Nat) : Prop where
 code : ∀ (n : Nat) (c : Code) (x : AC) (r : A2) (h : Hp) (φ : aU) (a : Act) (w : World), Impl (cC P G n names c) x → St n G φ r h a w → (exec p m x r h).Safe → c.wp P (bQ n G φ h w (exec p m x r h)) a w
 block : ∀ (n i : Nat) (c : Code) (x : AC) (r : A2) (h : Hp) (φ : aU) (a : Act) (w : World), Impl (cC P G n names c) x → St n G φ r h a w → (exec p m (.block i x) r h).Safe → (Code.block i c).wp P (bQ n G φ h w (exec p m (.block i x) r h)) a w
 loop : ∀ (n : Nat) (c : Code) (x : AC) (r : A2) (h : Hp) (φ : aU) (a : Act) (w : World), Impl (cC P G n names c) x → St n G φ r h a w → (exec p m (.loop x) r h).Safe → qA P c (bQ n G φ h w (exec p m (.loop x) r h)) a w
 sat : ∀ (n : Nat) (s c : Code) (x y : AC) (r : A2) (h : Hp) (φ : aU) (a : Act) (w : World), Impl (cC P G n names s) x → Impl (cC P G n names c) y → St n G φ r h a w → (exec p m (.sat x y) r h).Safe → wG P s c (bQ n G φ h w (exec p m (.sat x y) r h)) a w
theorem kE {res : List Rs} {z : RT} : ∀ {x y : RS}, x.bt y → (eJ res y).bt z → (eJ res x).bt z
 | _, _, .nm .., g => g
 | _, _, .ex .., g => g
 | _, _, .go .., g => g
 | _, _, .ret .., g => g
 | _, _, .err .., g => g
 | _, _, .ch n k c y hc hl, g => .ch n _ c _ hc (kE hl g)
theorem fZ {res : List Rs} {x y : RS} (hs : (eJ res x).Safe) (hl : x.bt y) : (eJ res y).Safe := fun n hn => hs n (kE hl hn)
theorem yt {f : Nat} {body : AC} {res : List Rs} {args : List AV} (e : ak f p.fs = .mk body res) : aB p run f args h = (@Bool.rec (fun _ => RT) (.err 207) (eJ res (run body (bE args 0 .nil) h)) (Nat.ble args.length 256)) := by
 show (AF.rec _ _ _ _ _ (ak f p.fs) : RT) = _
 rw [e]
theorem ur {f : Nat} {k : PK} {body : AC} {res : List Rs} {args : List AV} (e : ak f p.fs = .uo k body res) : aB p run f args h = (RT.rec (fun v h => RT.ok v h) (fun _ => @Bool.rec (fun _ => RT) (.err 207) (eJ res (run body (bE args 0 .nil) h)) (Nat.ble args.length 256)) (fun n k _ => .ch n k) (fx k args h) : RT) := by
 show (AF.rec _ _ _ _ _ (ak f p.fs) : RT) = _
 rw [e]
theorem wL {f : Nat} {body : AC} {res : List Rs} {args : List AV} (e : ak f p.fs = .QB body res) : aB p run f args h = (@Bool.rec (fun _ => RT) (.err 207) (eJ res (dH (rT (run body (bE args 0 .nil) h)))) (Nat.ble args.length 256)) := by
 show (AF.rec _ _ _ _ _ (ak f p.fs) : RT) = _
 rw [e]
theorem wM {f : Nat} {k : PK} {args : List AV} (e : ak f p.fs = .ext k) : aB p run f args h = fx k args h := by
 unfold aB; rw [e]
theorem mQ {f : Nat} {args : List AV} (e : ak f p.fs = .none) : aB p run f args h = .err (Nat.add 1000 f) := by
 show (AF.rec _ _ _ _ _ (ak f p.fs) : RT) = _
 rw [e]
theorem CB {m f : Nat} {body : AC} {res : List Rs} {args : List AV} {vals : List Value} (C : kz P G names p m) (F : qT P G names f body res) (hg : mF G φ) (H : HR φ h w) (hv : cU φ args vals)
  (hs : (@Bool.rec (fun _ => RT) (.err 207) (eJ res (exec p m body (bE args 0 .nil) h)) (Nat.ble args.length 256)).Safe) :
  (∃ fn c, P.funcs[f]? = some fn ∧ fn.name ≠ "runtime.NumGoroutine" ∧ fn.body = some c) ∧ Calls P f vals.toArray w (fB φ h w (@Bool.rec (fun _ => RT) (.err 207) (eJ res (exec p m body (bE args 0 .nil) h)) (Nat.ble args.length 256))) := by
 cases hb : Nat.ble args.length 256 with
 | false => rw [hb] at hs; exact (RT.Safe.err hs).elim
 | true =>
  rw [hb] at hs
  have hs : (eJ res (exec p m body (bE args 0 .nil) h)).Safe := hs
  have hl := Nat.le_of_ble_eq_true hb
  obtain ⟨fn, body0, hf, hc, hI⟩ := F
  unfold cF at hc
  split at hc
  ·rename_i c rs hbody hrs
   split at hc
   ·cases hc
   ·rename_i hname
    cases hc
    refine ⟨⟨fn, c, hf, by simpa using hname, hbody⟩, ?_⟩
    have S := St.start H hv hg hl fn.ntmps
    have hxs : (exec p m body (bE args 0 .nil) h).Safe := by
     intro j hj
     have := fZ hs hj
     exact RT.Safe.err (n := j) this
    refine calls_of_wp hf hbody (wp_mono (C.code _ c body _ h φ _ w hI S hxs) ?_)
    rintro e a' w' ⟨y, r', h', φ', hy, he, S', T⟩
    have hsy := fZ hs hy
    have fin : ∀ r' h', y = .nm r' h' ∨ y = .ret r' h' → St fn.ntmps G φ' r' h' a' w' → Step φ h w φ' h' w' → a'.defers = [] ∧ ∃ v, (results fn a'.tmps).run P w' = .ok v w' ∧ fB φ h w (eJ res (exec p m body (bE args 0 .nil) h)) (.returned v) w' := by
     intro r' h' hyy S' T
     have hr : eJ res y = (qR res r' h').nU := by rcases hyy with rfl | rfl <;> rfl
     rw [hr] at hsy
     obtain ⟨v, h2, hv2⟩ := rY hsy
     obtain ⟨e1, cv, e2, e3⟩ := sj S' hrs hv2
     subst e1
     refine ⟨S'.fT, cv, e2, v, h2, cv, φ', kE hy ?_, rfl, e3, S'.hr, T⟩
     rw [hr, hv2]; exact .ok _ _
    cases he with
    | nm => exact fin _ _ (.inl rfl) S' T
    | ret => exact fin _ _ (.inr rfl) S' T
    | ex i => exact (RT.Safe.err hsy).elim
    | go i => exact (RT.Safe.err hsy).elim
  ·cases hc
theorem jI {z : RS} : ∀ {x y : RS}, x.bt y → (rT y).bt z → (rT x).bt z
 | _, _, .nm .., g => g
 | _, _, .ex .., g => g
 | _, _, .go .., g => g
 | _, _, .ret .., g => g
 | _, _, .err .., g => g
 | _, _, .ch n k c y hc hl, g => .ch n _ c _ hc (jI hl g)
theorem Ed {x : RS} (hs : (rT x).Safe) : x.Safe := fun n hn => hs n (jI hn (.err n))
theorem Hj {m f : Nat} {body : AC} {res : List Rs} {args : List AV} {vals : List Value} (C : kz P G names p m) (F : qT P G names f body res) (hg : mF G φ) (H : HR φ h w) (hv : cU φ args vals)
  (hs : (@Bool.rec (fun _ => RT) (.err 207) (eJ res (dH (rT (exec p m body (bE args 0 .nil) h)))) (Nat.ble args.length 256)).Safe) :
  (∃ fn c, P.funcs[f]? = some fn ∧ fn.name ≠ "runtime.NumGoroutine" ∧ fn.body = some c) ∧ Calls P f vals.toArray w (fB φ h w (@Bool.rec (fun _ => RT) (.err 207) (eJ res (dH (rT (exec p m body (bE args 0 .nil) h)))) (Nat.ble args.length 256))) := by
 cases hb : Nat.ble args.length 256 with
 | false => rw [hb] at hs; exact (RT.Safe.err hs).elim
 | true =>
  rw [hb] at hs
  have hs : (eJ res (dH (rT (exec p m body (bE args 0 .nil) h)))).Safe := hs
  have hl := Nat.le_of_ble_eq_true hb
  obtain ⟨fn, body0, hf, hc, hI⟩ := F
  unfold cF at hc
  split at hc
  ·rename_i c rs hbody hrs
   split at hc
   ·cases hc
   ·rename_i hname
    cases hc
    refine ⟨⟨fn, c, hf, by simpa using hname, hbody⟩, ?_⟩
    have S := St.start H hv hg hl fn.ntmps
    have hjs : (dH (rT (exec p m body (bE args 0 .nil) h))).Safe := by
     intro j hj
     have := fZ hs hj
     exact RT.Safe.err (n := j) this
    obtain ⟨s1, s2⟩ := rq _ hjs
    refine calls_of_wp hf hbody (wp_mono (C.code _ c body _ h φ _ w hI S (Ed s1)) ?_)
    rintro e a' w' ⟨y, r', h', φ', hy, he, S', T⟩
    have fin : (rT y).bt (.nm r' h') → a'.defers = [] ∧ ∃ v, (results fn a'.tmps).run P w' = .ok v w' ∧ fB φ h w (eJ res (dH (rT (exec p m body (bE args 0 .nil) h)))) (.returned v) w' := by
     intro hyy
     obtain ⟨y2, r2, h2, q1, q2, q3, q4⟩ := s2 _ (jI hy hyy) .normal r' h' (.nm _ _)
     cases q2
     have hsy := fZ hs q1
     have hr : eJ res (.nm r2 h2) = (qR res r2 h2).nU := rfl
     rw [hr] at hsy
     obtain ⟨v, h3, hv2⟩ := rY hsy
     have S2 := S'.less q3 q4
     obtain ⟨e1, cv, e2, e3⟩ := sj S2 hrs hv2
     subst e1
     refine ⟨S'.fT, cv, e2, v, h3, cv, φ', kE q1 ?_, rfl, e3, S2.hr, T.less q4⟩
     rw [hr, hv2]; exact .ok _ _
    cases he with
    | nm => exact fin (.nm _ _)
    | ret => exact fin (.nm _ _)
    | ex i =>
     obtain ⟨y2, r2, h2, q1, q2, q3, q4⟩ := s2 _ (jI hy (.ex _ _ _)) (.exit i) r' h' (.ex _ _ _)
     cases q2
     exact (RT.Safe.err (fZ hs q1)).elim
    | go i =>
     obtain ⟨y2, r2, h2, q1, q2, q3, q4⟩ := s2 _ (jI hy (.go _ _ _)) (.goto i) r' h' (.go _ _ _)
     cases q2
     exact (RT.Safe.err (fZ hs q1)).elim
  ·cases hc
theorem sC {m : Nat} (E : Env P G names p) (C : kz P G names p m) : eg P G p (exec p m) := by
 intro f args h φ w vals hg H hv hs
 have hF := E.fs f
 cases hf : ak f p.fs with
 | none => rw [mQ hf] at hs; exact (RT.Safe.err hs).elim
 | mk body res =>
  rw [hf] at hF
  rw [yt hf] at hs ⊢
  exact .inl (CB C hF hg H hv hs)
 | ext k =>
  rw [hf] at hF
  rw [wM hf] at hs ⊢
  exact .inr (hF φ h w args vals hg H hv hs)
 | QB body res =>
  rw [hf] at hF
  rw [wL hf] at hs ⊢
  exact .inl (Hj C hF hg H hv hs)
 | uo k body res =>
  rw [hf] at hF
  obtain ⟨hF, hP⟩ := hF
  rw [ur hf] at hs ⊢
  have hex : ∃ fn c, P.funcs[f]? = some fn ∧ fn.name ≠ "runtime.NumGoroutine" ∧ fn.body = some c := by
   obtain ⟨fn, body0, hfn, hc, hI⟩ := hF
   unfold cF at hc
   split at hc
   ·rename_i c rs hbody hrs
    split at hc
    ·cases hc
    ·rename_i hname
     exact ⟨fn, c, hfn, by simpa using hname, hbody⟩
   ·cases hc
  have := hP φ h w args vals hg H hv
  cases hp : fx k args h with
  | err j =>
   rw [hp] at hs
   exact .inl (CB C hF hg H hv hs)
  | ok v h2 =>
   rw [hp] at this
   exact .inl ⟨hex, this fun j hj => by cases hj⟩
  | ch j g =>
   rw [hp] at this hs
   exact .inl ⟨hex, this hs⟩
section
variable {P : Program} {φ φ' φ₀ : aU} {h h' h2 h₀ : Hp} {w w' w₀ : World} {v : AV} {r r2 : A2} {a : Act} {cv : Value} {n : Nat} {G : Gl} [NB G] {names : List String} {p : Pg} {run : iP} {ops : Array Oper}
theorem yu (i : DI) (k : DK) (r : A2) (h g : Hp) (hs : List Hp) : i.lC (aB p run) (aH p run) k r h g hs = i.exec p run k r h g hs := by
 cases i with
 | mk b y =>
  cases y with
  | o d i => cases i <;> rfl
  | g x y w d i => cases i <;> rfl
theorem uY : ∀ (l : List DI), dK p run l = ox (aB p run) (aH p run) (fun r h => .nm r h) l
 | [] => rfl
 | i :: l => by
  funext r h g hs
  show i.exec p run (dK p run l) r h g hs = i.lC (aB p run) (aH p run) (ox (aB p run) (aH p run) _ l) r h g hs
  rw [yu, uY l]
def Sub (y x : RS) : Prop := ∀ z, y.bt z → x.bt z
theorem Sub.safe {x y : RS} (s : Sub y x) (h : x.Safe) : y.Safe := fun n hn => h n (s _ hn)
def Kt.at (K : Kt) : Exit → A2 → Hp → RS → Prop
 | .normal, r, h, x => Sub (K.n r h) x
 | .exit i, r, h, x => Sub (K.e i r h) x
 | .goto l, r, h, x => Sub (K.g l r h) x
 | .ret, r, h, x => Sub (K.r r h) x
 | _, _, _, _ => False
theorem Kt.Lm {K : Kt} {e : Exit} {x y : RS} (s : Sub x y) (h : K.at e r h2 x) : K.at e r h2 y := by
 cases e with
 | normal => exact fun z hz => s z (h z hz)
 | exit i => exact fun z hz => s z (h z hz)
 | goto i => exact fun z hz => s z (h z hz)
 | ret => exact fun z hz => s z (h z hz)
 | panic c => exact h
 | outgrown => exact h
def oA (n : Nat) (G : Gl) (φ : aU) (h : Hp) (w : World) (K : Kt) (x : RS) (e : Exit) (a' : Act) (w' : World) : Prop :=
 ∃ r' h' φ', St n G φ' r' h' a' w' ∧ Step φ h w φ' h' w' ∧ K.at e r' h' x
theorem yv (i : AI) (d : bX) (k : A2 → Hp → RS) (r : A2) (h : Hp) : i.lC (aB p run) (aH p run) d k r h = i.exec p run d k r h := by cases i <;> rfl
theorem Hk (i : GI) (k : A2 → Hp → RS) (r : A2) (h : Hp) : i.lC (aB p run) (aH p run) k r h = i.exec p run k r h := by
 cases i with
 | o d i => exact yv i d k r h
 | g x y w d i =>
  show AV.bN (gb w (aC x y r)) (fun t => @Bool.rec (fun _ => RS) (k (dg d cM r) h) (i.lC (aB p run) (aH p run) d k r h) (jW t w)) (.err 210) = AV.bN (gb w (aC x y r)) (jm d k r h i p run w) (.err 210)
  rw [yv]; rfl
theorem CC {kf : A2 → Hp → RS} (M : nY P names p.ms) (CO : eg P G p run) {Q : Exit → Act → World → Prop} : ∀ (os pre : List Oper) (r : A2) (h : Hp) (φ : aU) (a : Act) (w : World), ops.toList = pre ++ os → St n G φ r h a w →
  (uv (aB p run) (aH p run) kf (os.map fun o => np P G n names ops o) r h).Safe →
  (∀ r' h' φ' a' w', Sub (kf r' h') (uv (aB p run) (aH p run) kf (os.map fun o => np P G n names ops o) r h) → St n G φ' r' h' a' w' → Step φ h w φ' h' w' → Q .normal a' w') →
  wpOps P ops Q (List.range' pre.length os.length) a w
 | [], pre, r, h, φ, a, w, _, S, _, hQ => hQ r h φ a w (fun _ hz => hz) S (.refl _ _ _)
 | o :: os, pre, r, h, φ, a, w, e, S, hs, hQ => by
  have hoi : ops[pre.length]? = some o := by rw [← Array.getElem?_toList, e]; simp
  rw [List.length_cons, List.range'_succ, wpOps_cons]
  have e0 : uv (aB p run) (aH p run) kf ((o :: os).map fun o => np P G n names ops o) r h = (np P G n names ops o).exec p run (uv (aB p run) (aH p run) kf (os.map fun o => np P G n names ops o)) r h := Hk _ _ _ _
  rw [e0] at hs hQ
  refine ND M CO S hoi hs fun r' h' φ' a' w' s1 s2 S' T => ?_
  have := CC M CO os (pre ++ [o]) r' h' φ' a' w' (by rw [e]; simp) S' s1 (Q := Q) fun r'' h'' φ'' a'' w'' hl S'' T' => hQ r'' h'' φ'' a'' w'' (fun z hz => s2 _ (hl z hz)) S'' (T.trans T')
  simpa using this
theorem Hl (M : nY P names p.ms) (D : Pt P G names p) (CO : eg P G p run) : ∀ (c : Code) (K : Kt) (r : A2) (h : Hp) (φ : aU) (a : Act) (w : World), St n G φ r h a w → (den (aB p run) (aH p run) (cC P G n names c) K r h).Safe →
  c.wp P (oA n G φ h w K (den (aB p run) (aH p run) (cC P G n names c) K r h)) a w := by
 intro c
 induction c with
 | skip => exact fun K r h φ a w S _ => wp_skip ⟨r, h, φ, S, .refl _ _ _, fun _ hz => hz⟩
 | region id ops d =>
  intro K r h φ a w S hs
  cases d with
  | false =>
   have hs : (den (aB p run) (aH p run) (qU P G n names ops) K r h).Safe := hs
   show (Code.region id ops false).wp P (oA n G φ h w K (den (aB p run) (aH p run) (qU P G n names ops) K r h)) a w
   rcases iu (P := P) (G := G) (n := n) (names := names) ops with e | ⟨q, e⟩
   case inr => rw [e] at hs; exact (RS.Safe.err hs).elim
   rw [e] at hs ⊢
   have hs : (uv (aB p run) (aH p run) K.n (ops.toList.map fun o => np P G n names ops o) r h).Safe := hs
   show (Code.region id ops false).wp P (oA n G φ h w K (uv (aB p run) (aH p run) K.n (ops.toList.map fun o => np P G n names ops o) r h)) a w
   refine wp_region ?_
   have := CC (Q := oA n G φ h w K (uv (aB p run) (aH p run) K.n (ops.toList.map fun o => np P G n names ops o) r h)) M CO ops.toList [] r h φ a w (by simp) S hs (fun r' h' φ' a' w' hl S' T => ⟨r', h', φ', S', T, hl⟩)
   rw [List.range_eq_range']
   show wpOps P ops (oA n G φ h w K (uv (aB p run) (aH p run) K.n (ops.toList.map fun o => np P G n names ops o) r h)) (List.range' 0 ops.size) a w
   simpa using this
  | true =>
   have key : ∀ l, ku P G n names ops l = true → (ox (aB p run) (aH p run) K.n (l.map fun (i, b) => .mk b (py P G n names ops (ops.getD i default))) r h h []).Safe →
     (Code.region id ops true).wp P (oA n G φ h w K (ox (aB p run) (aH p run) K.n (l.map fun (i, b) => .mk b (py P G n names ops (ops.getD i default))) r h h [])) a w := fun l hl hs => by
    refine wp_mono (D n run CO id ops l K.n r h φ a w hl S hs) ?_
    rintro e a' w' ⟨rfl, r', h', φ', e1, S', T⟩
    refine ⟨r', h', φ', S', T, ?_⟩
    rw [e1]; exact fun _ hz => hz
   have hs : (den (aB p run) (aH p run) (oz P G n names ops) K r h).Safe := hs
   show (Code.region id ops true).wp P (oA n G φ h w K (den (aB p run) (aH p run) (oz P G n names ops) K r h)) a w
   rcases kv (P := P) (G := G) (n := n) (names := names) (bad := lA P G (jo P G (lA P G (jo P G (fun _ => .bad 404) n names) names) n names) names) ops with ⟨l, hl, e⟩ | e
   ·have e : oz P G n names ops = _ := e
    rw [e] at hs ⊢
    exact key l hl hs
   ·have e : oz P G n names ops = _ := e
    rw [e] at hs
    rcases kx (P := P) (G := G) (names := names) (next := jo P G (lA P G (jo P G (fun _ => .bad 404) n names) names) n names) ops with ⟨x, y, _, _, _, _, e2⟩ | ⟨k, e2⟩
    ·rw [e2] at hs; exact (RS.Safe.err hs).elim
    ·rw [e2] at hs; exact (RS.Safe.err hs).elim
 | seq x y ihx ihy =>
  intro K r h φ a w S hs
  refine wp_seq (wp_mono (ihx ⟨den (aB p run) (aH p run) (cC P G n names y) K, K.e, K.g, K.r⟩ r h φ a w S hs) ?_)
  rintro e a' w' ⟨r', h', φ', S', T, hk⟩
  cases e with
  | normal =>
   have hk : Sub (den (aB p run) (aH p run) (cC P G n names y) K r' h') _ := hk
   refine wp_mono (ihy K r' h' φ' a' w' S' (hk.safe hs)) ?_
   rintro e a'' w'' ⟨r'', h'', φ'', S'', T', hk'⟩
   exact ⟨r'', h'', φ'', S'', T.trans T', Kt.Lm hk hk'⟩
  | exit i => exact ⟨r', h', φ', S', T, hk⟩
  | goto i => exact ⟨r', h', φ', S', T, hk⟩
  | ret => exact ⟨r', h', φ', S', T, hk⟩
  | panic c => exact hk.elim
  | outgrown => exact hk.elim
 | cond c x y ihx ihy =>
  intro K r h φ a w S hs
  simp only [cC] at hs ⊢
  cases hc : cO G c with
  | none => rw [hc] at hs; exact (RS.Safe.err hs).elim
  | some b =>
   rw [hc] at hs
   have hs : (AV.bN (ev b r) (fun t => @Bool.rec (fun _ => RS) (den (aB p run) (aH p run) (cC P G n names y) K r h) (den (aB p run) (aH p run) (cC P G n names x) K r h) t) (.err 213)).Safe := hs
   obtain ⟨t, ht, e⟩ := gr hs
   show (Code.cond c x y).wp P (oA n G φ h w K (AV.bN (ev b r) (fun t => @Bool.rec (fun _ => RS) (den (aB p run) (aH p run) (cC P G n names y) K r h) (den (aB p run) (aH p run) (cC P G n names x) K r h) t) (.err 213))) a w
   rw [e] at hs ⊢
   have hv := S.Su hc
   rw [ht] at hv
   refine wp_cond hv.dT ?_
   cases t with
   | true => exact ihx K r h φ a w S hs
   | false => exact ihy K r h φ a w S hs
 | block i c ih =>
  intro K r h φ a w S hs
  rcases oy (P := P) (G := G) (n := n) (names := names) i c with e | e <;> rw [e] at hs ⊢
  ·refine wp_block (wp_mono (ih ⟨K.n, fun j r h => @Bool.rec (fun _ => RS) (K.e j r h) (K.n r h) (Nat.beq j i), K.g, K.r⟩ r h φ a w S hs) ?_)
   rintro e a' w' ⟨r', h', φ', S', T, hk⟩
   cases e with
   | normal => exact ⟨r', h', φ', S', T, hk⟩
   | exit j =>
    have hk : Sub (@Bool.rec (fun _ => RS) (K.e j r' h') (K.n r' h') (Nat.beq j i)) _ := hk
    show if j = i then _ else _
    by_cases e : j = i
    ·rw [if_pos e]
     rw [e, Nat.beq_refl] at hk
     exact ⟨r', h', φ', S', T, hk⟩
    ·rw [if_neg e]
     have : Nat.beq j i = false := by rw [← Bool.not_eq_true]; exact fun g => e (Nat.eq_of_beq_eq_true g)
     rw [this] at hk
     exact ⟨r', h', φ', S', T, hk⟩
   | goto i => exact ⟨r', h', φ', S', T, hk⟩
   | ret => exact ⟨r', h', φ', S', T, hk⟩
   | panic c => exact hk.elim
   | outgrown => exact hk.elim
  ·exact (RS.Safe.err hs).elim
 | loop c => exact fun K r h φ a w S hs => (RS.Safe.err hs).elim
 | rangeFunc f ps x y => exact fun K r h φ a w S hs => (RS.Safe.err hs).elim
 | exit i => exact fun K r h φ a w S hs => wp_exit ⟨r, h, φ, S, .refl _ _ _, fun _ hz => hz⟩
 | scope c => exact fun K r h φ a w S hs => (RS.Safe.err hs).elim
 | label l => exact fun K r h φ a w S hs => (RS.Safe.err hs).elim
 | goto l => exact fun K r h φ a w S hs => wp_goto ⟨r, h, φ, S, .refl _ _ _, fun _ hz => hz⟩
 | ret => exact fun K r h φ a w S hs => wp_ret ⟨r, h, φ, S, .refl _ _ _, fun _ hz => hz⟩
 | refuse s => exact fun K r h φ a w S hs => (RS.Safe.err hs).elim
theorem uZ {t : Nat} (ht : t < 256) : ∀ {L : List Nat}, aC (hi t) (lo t) (bV r L) = if t ∈ L then aC (hi t) (lo t) r else .undef
 | [] => by
  show aC (hi t) (lo t) .nil = _
  rw [if_neg (by simp)]
  show A1.get (lo t) (A2.get (hi t) .nil) = _
  rw [A2.get_nil, A1.get_nil]
 | s :: L => by
  have ih := uZ ht (L := L)
  show aC (hi t) (lo t) (if s < 256 then rM (hi s) (lo s) (aC (hi s) (lo s) r) (bV r L) else bV r L) = _
  split
  ·rename_i hs
   rw [gZ]
   by_cases e : t = s
   ·subst e; simp
   ·rw [if_neg (fun g => e ((GW ht hs).1 g)), ih]
    simp [e]
  ·rename_i hs
   have e : t ≠ s := by omega
   rw [ih]; simp [e]
theorem St.bV (S : St n G φ r h a w) (L : List Nat) : St n G φ (bV r L) h a w := ⟨S.hr, fun t ht => by
 rw [uZ ht]
 split
 ·exact S.aI t ht
 ·exact .undef _, S.fT, S.size, S.jD⟩
theorem Hm {L Lr : List Nat} {x : RS} {e : Exit} {a' : Act} {w' : World} (hd : oA n G φ h w (nt L Lr) x e a' w') : bQ n G φ h w x e a' w' := by
 obtain ⟨r', h', φ', S, T, hk⟩ := hd
 cases e with
 | normal => exact ⟨_, _, h', φ', hk _ (.nm _ _), .nm _ _, S.bV L, T⟩
 | exit i => exact ⟨_, _, h', φ', hk _ (.ex _ _ _), .ex _ _ _, S.bV L, T⟩
 | goto i => exact ⟨_, _, h', φ', hk _ (.go _ _ _), .go _ _ _, S.bV L, T⟩
 | ret => exact ⟨_, _, h', φ', hk _ (.ret _ _), .ret _ _, S.bV Lr, T⟩
 | panic c => exact hk.elim
 | outgrown => exact hk.elim
theorem CD (M : nY P names p.ms) (D : Pt P G names p) (CO : eg P G p run) {L Lr Lx : List Nat} {y : AC} (hT : ∀ (n : Nat) (c : Code) (r : A2) (h : Hp) (φ : aU) (a : Act) (w : World), Impl (cC P G n names c) y → St n G φ r h a w → (run y r h).Safe → c.wp P (bQ n G φ h w (run y r h)) a w) :
  ∀ (k : Nat) (c : Code) (r : A2) (h : Hp) (φ : aU) (a : Act) (w : World), Impl (ky k (cC P G n names c)) y → St n G φ r h a w →
   (wN (aB p run) (aH p run) (nt L Lr) (fun r h => run y (bV r Lx) h) k (cC P G n names c) r h).Safe →
   c.wp P (bQ n G φ h w (wN (aB p run) (aH p run) (nt L Lr) (fun r h => run y (bV r Lx) h) k (cC P G n names c) r h)) a w
 | 0, c, r, h, φ, a, w, hI, S, hs => hT n c (bV r Lx) h φ a w hI (S.bV Lx) hs
 | k + 1, c, r, h, φ, a, w, hI, S, hs => by
  by_cases hc : ∃ x y', c = .seq x y'
  ·obtain ⟨c1, c2, rfl⟩ := hc
   have hs : (den (aB p run) (aH p run) (cC P G n names c1) ⟨wN (aB p run) (aH p run) (nt L Lr) (fun r h => run y (bV r Lx) h) k (cC P G n names c2), (nt L Lr).e, (nt L Lr).g, (nt L Lr).r⟩ r h).Safe := hs
   refine wp_seq (wp_mono (Hl M D CO c1 _ r h φ a w S hs) ?_)
   rintro e a' w' ⟨r', h', φ', S', T, hk⟩
   cases e with
   | normal =>
    have hk : Sub (wN (aB p run) (aH p run) (nt L Lr) (fun r h => run y (bV r Lx) h) k (cC P G n names c2) r' h') _ := hk
    refine wp_mono (CD M D CO hT k c2 r' h' φ' a' w' hI S' (hk.safe hs)) ?_
    rintro e a'' w'' ⟨z, r'', h'', φ'', hl, he, S'', T'⟩
    exact ⟨z, r'', h'', φ'', hk _ hl, he, S'', T.trans T'⟩
   | exit i => exact ⟨_, _, h', φ', hk _ (.ex _ _ _), .ex _ _ _, S'.bV L, T⟩
   | goto i => exact ⟨_, _, h', φ', hk _ (.go _ _ _), .go _ _ _, S'.bV L, T⟩
   | ret => exact ⟨_, _, h', φ', hk _ (.ret _ _), .ret _ _, S'.bV Lr, T⟩
   | panic c => exact hk.elim
   | outgrown => exact hk.elim
  ·have e0 : wN (aB p run) (aH p run) (nt L Lr) (fun r h => run y (bV r Lx) h) (k + 1) (cC P G n names c) = den (aB p run) (aH p run) (cC P G n names c) (nt L Lr) := by
    cases c with
    | seq x y' => exact absurd ⟨_, _, rfl⟩ hc
    | region id ops d =>
     cases d with
     | false =>
      show wN (aB p run) (aH p run) (nt L Lr) (fun r h => run y (bV r Lx) h) (k + 1) (qU P G n names ops) = den (aB p run) (aH p run) (qU P G n names ops) (nt L Lr)
      rcases iu (P := P) (G := G) (n := n) (names := names) ops with e | ⟨q, e⟩ <;> rw [e] <;> rfl
     | true =>
      show wN (aB p run) (aH p run) (nt L Lr) (fun r h => run y (bV r Lx) h) (k + 1) (oz P G n names ops) = den (aB p run) (aH p run) (oz P G n names ops) (nt L Lr)
      rcases kv (P := P) (G := G) (n := n) (names := names) (bad := lA P G (jo P G (lA P G (jo P G (fun _ => .bad 404) n names) names) n names) names) ops with ⟨l, hl, e⟩ | e
      ·have e : oz P G n names ops = _ := e
       rw [e]; rfl
      ·have e : oz P G n names ops = _ := e
       rw [e]
       rcases kx (P := P) (G := G) (names := names) (next := jo P G (lA P G (jo P G (fun _ => .bad 404) n names) names) n names) ops with ⟨x, y, _, _, _, _, e2⟩ | ⟨k, e2⟩
       ·rw [e2]; rfl
       ·rw [e2]; rfl
    | cond c x y =>
     simp only [cC]
     split <;> rfl
    | block i c => rcases oy (P := P) (G := G) (n := n) (names := names) i c with e | e <;> rw [e] <;> rfl
    | _ => rfl
   rw [e0] at hs ⊢
   exact wp_mono (Hl M D CO c _ r h φ a w S hs) fun e a' w' hd => Hm hd
end
variable {P : Program} {φ φ' : aU} {h h' h2 : Hp} {w w' : World} {v : AV} {r r2 : A2} {a : Act} {cv : Value} {n : Nat} {G : Gl} [NB G] {names : List String} {p : Pg} {run : iP}
theorem bQ.cases {x : RS} {Q : Exit → Act → World → Prop} {w0 : World}
  (hn : ∀ r' h' φ' a w, x.bt (.nm r' h') → St n G φ' r' h' a w → Step φ h w0 φ' h' w → Q .normal a w)
  (he : ∀ i r' h' φ' a w, x.bt (.ex i r' h') → St n G φ' r' h' a w → Step φ h w0 φ' h' w → Q (.exit i) a w)
  (hg : ∀ i r' h' φ' a w, x.bt (.go i r' h') → St n G φ' r' h' a w → Step φ h w0 φ' h' w → Q (.goto i) a w)
  (hr : ∀ r' h' φ' a w, x.bt (.ret r' h') → St n G φ' r' h' a w → Step φ h w0 φ' h' w → Q .ret a w) (e : Exit) (a : Act) (w : World) (hq : bQ n G φ h w0 x e a w) : Q e a w := by
 obtain ⟨y, r', h', φ', hl, hy, S, T⟩ := hq
 cases hy with
 | nm => exact hn _ _ _ _ _ hl S T
 | ex i => exact he _ _ _ _ _ _ hl S T
 | go i => exact hg _ _ _ _ _ _ hl S T
 | ret => exact hr _ _ _ _ _ hl S T
theorem bQ.then {x x' : RS} {w0 w1 : World} {φ0 φ1 : aU} {h0 h1 : Hp} (T : Step φ0 h0 w0 φ1 h1 w1) (hl : ∀ y, x.bt y → x'.bt y) (e : Exit) (a : Act) (w : World) (hq : bQ n G φ1 h1 w1 x e a w) : bQ n G φ0 h0 w0 x' e a w :=
 let ⟨y, r', h', φ', g1, g2, g3, g4⟩ := hq; ⟨y, r', h', φ', hl y g1, g2, g3, T.trans g4⟩
theorem qA.mono {c : Code} {Q Q' : Exit → Act → World → Prop} (hl : qA P c Q a w) (hq : ∀ e a w, Q e a w → Q' e a w) : qA P c Q' a w := fun b k cs =>
 let ⟨e, a', w', q, g⟩ := hl b k cs; ⟨e, a', w', hq _ _ _ q, g⟩
theorem wG.mono {s c : Code} {Q Q' : Exit → Act → World → Prop} (hl : wG P s c Q a w) (hq : ∀ e a w, Q e a w → Q' e a w) : wG P s c Q' a w := fun b k cs =>
 let ⟨e, a', w', q, g⟩ := hl b k cs; ⟨e, a', w', hq _ _ _ q, g⟩
theorem yw {m : Nat} (C : kz P G names p m) (s c : Code) {x y : AC} (hI : Impl (cC P G n names s) x) (hJ : Impl (cC P G n names c) y) (S : St n G φ r h a w) (hs : (yf x y (exec p m) r h).Safe) :
  wG P s c (bQ n G φ h w (yf x y (exec p m) r h)) a w := by
 unfold yf at hs ⊢
 refine Lg (wp_mono (C.code n c y r h φ a w hJ S (jE hs)) (bQ.cases ?_ ?_ ?_ ?_))
 ·exact fun r' h' φ' a' w' hl S' T => ⟨_, r', h', φ', dL hl rfl (.nm _ _), .nm _ _, S', T⟩
 ·exact fun i r' h' φ' a' w' hl S' T => ⟨_, r', h', φ', eF hl rfl (.ex _ _ _), .ex _ _ _, S', T⟩
 ·intro l r' h' φ' a' w' hl S' T
  have Oo := wF hs hl
  have e := su (P := P) (G := G) (n := n) (names := names) l s
  show (match findLabel s l with
   | some c => wG P s c _ a' w'
   | none => _)
  cases hf : findLabel s l with
  | none =>
   rw [hf] at e
   have e2 : cY x l = none := by
    rcases sA l hI with ⟨_, e2⟩ | ⟨_, _, e1, _⟩
    ·exact e2
    ·rw [e] at e1; cases e1
   have hk : (Option.rec (.go l r' h') (fun c => exec p m (.sat x c) r' h') (cY x l) : RS) = .go l r' h' := by rw [e2]
   refine ⟨_, r', h', φ', dM hl rfl ?_, .go _ _ _, S', T⟩
   show (Option.rec (.go l r' h') (fun c => exec p m (.sat x c) r' h') (cY x l) : RS).bt _
   rw [hk]; exact .go _ _ _
  | some c' =>
   rw [hf] at e
   obtain ⟨y', e2, e3⟩ : ∃ y', cY x l = some y' ∧ Impl (cC P G n names c') y' := by
    rcases sA l hI with ⟨e1, _⟩ | ⟨d, d', e1, e2, e3⟩
    ·rw [e] at e1; cases e1
    ·rw [e] at e1; cases e1; exact ⟨d', e2, e3⟩
   have hk : (Option.rec (.go l r' h') (fun c => exec p m (.sat x c) r' h') (cY x l) : RS) = exec p m (.sat x y') r' h' := by rw [e2]
   have hs3 : (Option.rec (.go l r' h') (fun c => exec p m (.sat x c) r' h') (cY x l) : RS).Safe := Oo
   rw [hk] at hs3
   refine (C.sat n s c' x y' r' h' φ' a' w' hI e3 S' hs3).mono (bQ.then T fun y hy => dM hl rfl ?_)
   show (Option.rec (.go l r' h') (fun c => exec p m (.sat x c) r' h') (cY x l) : RS).bt _
   rw [hk]; exact hy
 ·exact fun r' h' φ' a' w' hl S' T => ⟨_, r', h', φ', eQ hl rfl, .ret _ _, S', T⟩
theorem nu {m : Nat} (C : kz P G names p m) (i : Nat) (c : Code) {x : AC} (hI : Impl (cC P G n names c) x) (S : St n G φ r h a w) (hs : (rj i x (exec p m) r h).Safe) :
  (Code.block i c).wp P (bQ n G φ h w (rj i x (exec p m) r h)) a w := by
 unfold rj at hs ⊢
 refine wp_block (wp_mono (C.code n c x r h φ a w hI S (jE hs)) (bQ.cases ?_ ?_ ?_ ?_))
 ·exact fun r' h' φ' a' w' hl S' T => ⟨_, r', h', φ', dL hl rfl (.nm _ _), .nm _ _, S', T⟩
 ·intro j r' h' φ' a' w' hl S' T
  show if j = i then _ else _
  by_cases e : j = i
  ·rw [if_pos e]
   refine ⟨_, r', h', φ', eF hl rfl ?_, .nm _ _, S', T⟩
   show (@Bool.rec (fun _ => RS) (.ex j r' h') (.nm r' h') (Nat.beq j i)).bt _
   rw [e, Nat.beq_refl]; exact .nm _ _
  ·rw [if_neg e]
   refine ⟨_, r', h', φ', eF hl rfl ?_, .ex _ _ _, S', T⟩
   show (@Bool.rec (fun _ => RS) (.ex j r' h') (.nm r' h') (Nat.beq j i)).bt _
   have : Nat.beq j i = false := by rw [← Bool.not_eq_true]; exact fun g => e (Nat.eq_of_beq_eq_true g)
   rw [this]; exact .ex _ _ _
 ·exact fun i r' h' φ' a' w' hl S' T => ⟨_, r', h', φ', dM hl rfl (.go _ _ _), .go _ _ _, S', T⟩
 ·exact fun r' h' φ' a' w' hl S' T => ⟨_, r', h', φ', eQ hl rfl, .ret _ _, S', T⟩
theorem vb {m : Nat} (C : kz P G names p m) (c : Code) {x : AC} (hI : Impl (cC P G n names c) x) (S : St n G φ r h a w) (hs : (wq x (exec p m) r h).Safe) :
  qA P c (bQ n G φ h w (wq x (exec p m) r h)) a w := by
 unfold wq at hs ⊢
 refine GZ (wp_mono (C.code n c x r h φ a w hI S (jE hs)) (bQ.cases ?_ ?_ ?_ ?_))
 ·intro r' h' φ' a' w' hl S' T
  exact (C.loop n c x r' h' φ' a' w' hI S' (ov hs hl)).mono (bQ.then T fun y hy => dL hl rfl hy)
 ·exact fun i r' h' φ' a' w' hl S' T => ⟨_, r', h', φ', eF hl rfl (.ex _ _ _), .ex _ _ _, S', T⟩
 ·exact fun i r' h' φ' a' w' hl S' T => ⟨_, r', h', φ', dM hl rfl (.go _ _ _), .go _ _ _, S', T⟩
 ·exact fun r' h' φ' a' w' hl S' T => ⟨_, r', h', φ', eQ hl rfl, .ret _ _, S', T⟩
def vd (P : Program) (G : Gl) (n : Nat) (p : Pg) (mk : Array Oper → AC) : Prop := ∀ (m : Nat), (∀ k, k ≤ m → eg P G p (exec p k)) → ∀ (ops : Array Oper) (r : A2) (h : Hp) (φ : aU) (a : Act) (w : World), St n G φ r h a w →
 (rV (mk ops) p (exec p m) r h).Safe → wpAny P .any ops (bQ n G φ h w (rV (mk ops) p (exec p m) r h)) ops.size (Array.replicate ops.size false) a { w with drawn := w.drawn + 1 }
theorem Ee (k : Nat) : vd P G n p (fun _ => .bad k) := fun _ _ _ _ _ _ _ _ _ hs => (RS.Safe.err hs).elim
theorem wO (D : wK P G names p) {bad : Array Oper → AC} (hb : vd P G n p bad) : vd P G n p (jo P G bad n names) := by
 intro m CO ops r h φ a w S hs
 rcases kv (P := P) (G := G) (n := n) (names := names) (bad := bad) ops with ⟨l, hl, e⟩ | e
 ·rw [e] at hs ⊢
  have hs : (dK p (exec p m) (l.map fun (i, b) => .mk b (py P G n names ops (ops.getD i default))) r h h []).Safe := hs
  show wpAny P .any ops (bQ n G φ h w (dK p (exec p m) (l.map fun (i, b) => .mk b (py P G n names ops (ops.getD i default))) r h h [])) ops.size (Array.replicate ops.size false) a { w with drawn := w.drawn + 1 }
  rw [uY] at hs ⊢
  refine D n (exec p m) (CO m (Nat.le_refl _)) ops l _ r h φ a w _ hl S hs ?_
  intro r' h' φ' a' w' e1 S' T
  rw [e1]
  exact ⟨_, r', h', φ', .nm _ _, .nm _ _, S', T⟩
 ·rw [e] at hs ⊢
  exact hb m CO ops r h φ a w S hs
theorem ve {x : RS} {w0 : World} : ¬ LetsOut (bQ n G φ h w0 x) := by
 rintro ⟨a, w, y, r', h', φ', _, he, _⟩
 cases he
theorem bQ.Hn {x : RS} (hs : (dH x).Safe) (e : Exit) (a' : Act) (w' : World) (hq : bQ n G φ h w x e a' w') : bQ n G φ h w (dH x) e a' w' := by
 obtain ⟨y, r', h', φ', hl, he, S', T⟩ := hq
 obtain ⟨y2, r2, h2, q1, q2, q3, q4⟩ := (rq _ hs).2 y hl e r' h' he
 exact ⟨y2, r2, h2, φ', q1, q2, S'.less q3 q4, T.less q4⟩
theorem Ln {x y : RS} (hs : (wu x y).Safe) : x.Safe ∧ y.Safe ∧ (∀ e a' w', bQ n G φ h w x e a' w' → bQ n G φ h w (wu x y) e a' w') ∧ (∀ e a' w', bQ n G φ h w y e a' w' → bQ n G φ h w (wu x y) e a' w') := by
 have e0 : wu x y = @Bool.rec (fun _ => RS) (.ch 2 (fun i => @Nat.rec (fun _ => RS) x (fun _ _ => y) i)) (dH (.ch 2 (fun i => @Nat.rec (fun _ => RS) x (fun _ _ => y) i))) (Pb x y) := rfl
 cases he : Pb x y with
 | true =>
  rw [he] at e0
  have e0 : wu x y = dH (.ch 2 (fun i => @Nat.rec (fun _ => RS) x (fun _ _ => y) i)) := e0
  rw [e0] at hs ⊢
  have hj := (rq _ hs).1
  exact ⟨fun k hk => hj k (.ch 2 _ 0 _ (by omega) hk), fun k hk => hj k (.ch 2 _ 1 _ (by omega) hk), fun e a' w' hq => bQ.Hn hs e a' w' (hq.lift fun z hz => .ch 2 _ 0 _ (by omega) hz), fun e a' w' hq => bQ.Hn hs e a' w' (hq.lift fun z hz => .ch 2 _ 1 _ (by omega) hz)⟩
 | false =>
  rw [he] at e0
  have e0 : wu x y = .ch 2 (fun i => @Nat.rec (fun _ => RS) x (fun _ _ => y) i) := e0
  rw [e0] at hs ⊢
  exact ⟨fun k hk => hs k (.ch 2 _ 0 _ (by omega) hk), fun k hk => hs k (.ch 2 _ 1 _ (by omega) hk), fun e a' w' hq => hq.lift fun z hz => .ch 2 _ 0 _ (by omega) hz, fun e a' w' hq => hq.lift fun z hz => .ch 2 _ 1 _ (by omega) hz⟩
theorem CE {next : Array Oper → AC} (hn : vd P G n p next) : vd P G n p (lA P G next names) := by
 intro m CO ops r h φ a w S hs
 rcases kx (P := P) (G := G) (names := names) (next := next) ops with ⟨x, y, hf, hxy, hx, hy, e⟩ | ⟨k, e⟩
 ·rw [e] at hs ⊢
  have hs : (wu (exec p m (next (fY x y ops)) r h) (exec p m (next (fY y x ops)) r h)).Safe := hs
  show wpAny P .any ops (bQ n G φ h w (wu (exec p m (next (fY x y ops)) r h) (exec p m (next (fY y x ops)) r h))) ops.size (Array.replicate ops.size false) a { w with drawn := w.drawn + 1 }
  obtain ⟨s1, s2, s3, s4⟩ := Ln (n := n) (G := G) (φ := φ) (h := h) (w := w) hs
  cases m with
  | zero => exact (RS.Safe.err s1).elim
  | succ m =>
   have g1 := hn m (fun k hk => CO k (by omega)) (fY x y ops) r h φ a w S s1
   have g2 := hn m (fun k hk => CO k (by omega)) (fY y x ops) r h φ a w S s2
   rw [uW] at g1 g2
   refine uX (fun i o ho => Ll (hf o (Array.mem_toList_iff.2 (Array.mem_of_getElem? ho)))) ve ve ?_ ?_ _ _ _ _ g1 g2 hxy ?_ ?_ (by simp) hx hy
   ·exact s3
   ·exact s4
   ·simp [Array.getD_eq_getD_getElem?, Array.getElem?_replicate, hx]
   ·simp [Array.getD_eq_getD_getElem?, Array.getElem?_replicate, hy]
 ·rw [e] at hs
  exact (RS.Safe.err hs).elim
theorem Lo (D : wK P G names p) : vd P G n p (oz P G n names) := wO D (CE (wO D (CE (wO D (Ee 404)))))
theorem Ef {m : Nat} (E : Env P G names p) (D : wK P G names p) (CA : ∀ k, k ≤ m → kz P G names p k) (c : Code) {z : AC} (hI : Impl (cC P G n names c) z) (S : St n G φ r h a w) (hs : (rV z p (exec p m) r h).Safe) :
  c.wp P (bQ n G φ h w (rV z p (exec p m) r h)) a w := by
 have C := CA m (Nat.le_refl _)
 have CO := sC E C
 rcases AN hI with ⟨k, Lin, L, Lr, Lx, y, rfl, hn, hy⟩ | ⟨q, rfl⟩ | hN
 ·exact CD E.ms (D.TQ E.mixed) CO (fun n c r h φ a w => C.code n c y r h φ a w) k c (bV r Lin) h φ a w hy (S.bV Lin) hs
 ·exact (RS.Safe.err hs).elim
 cases c with
 | skip =>
  have hN : z = .skip := hN
  subst hN
  exact wp_skip ⟨_, r, h, φ, .nm _ _, .nm _ _, S, .refl _ _ _⟩
 | region id ops d =>
  have hz : z = cC P G n names (.region id ops d) := by
   cases d with
   | false =>
    have e3 : cC P G n names (.region id ops false) = qU P G n names ops := rfl
    rw [e3] at hN ⊢
    rcases iu (P := P) (G := G) (n := n) (names := names) ops with e | ⟨q, e⟩ <;> rw [e] at hN ⊢ <;> exact hN
   | true =>
    have e3 : cC P G n names (.region id ops true) = oz P G n names ops := rfl
    rw [e3] at hN ⊢
    rcases kv (P := P) (G := G) (n := n) (names := names) (bad := lA P G (jo P G (lA P G (jo P G (fun _ => .bad 404) n names) names) n names) names) ops with ⟨l, hl, e⟩ | e
    ·have e : oz P G n names ops = _ := e
     rw [e] at hN ⊢; exact hN
    ·have e : oz P G n names ops = _ := e
     rw [e] at hN ⊢
     rcases kx (P := P) (G := G) (names := names) (next := jo P G (lA P G (jo P G (fun _ => .bad 404) n names) names) n names) ops with ⟨x, y, _, _, _, _, e2⟩ | ⟨k, e2⟩
     ·rw [e2] at hN ⊢; exact hN
     ·rw [e2] at hN ⊢; exact hN
  subst hz
  cases d with
  | false =>
   have hs : (rV (qU P G n names ops) p (exec p m) r h).Safe := hs
   show (Code.region id ops false).wp P (bQ n G φ h w (rV (qU P G n names ops) p (exec p m) r h)) a w
   rcases iu (P := P) (G := G) (n := n) (names := names) ops with e | ⟨q, e⟩
   case inr =>
    rw [e] at hs ⊢
    have hs : (wv q (ops.toList.map fun o => np P { G with b := some q } n names ops o) p (exec p m) r h).Safe := hs
    show (Code.region id ops false).wp P (bQ n G φ h w (wv q (ops.toList.map fun o => np P { G with b := some q } n names ops o) p (exec p m) r h)) a w
    unfold wv at hs ⊢
    refine wp_region ?_
    have := AG (Q := bQ n G φ h w (RS.bind (fe p (exec p m) (ops.toList.map fun o => np P { G with b := some q } n names ops o) (rU q r) h) (fun r h => .nm (Ay q r) h) (fun i r h => .ex i r h) (fun l r h => .go l r h))) E.ms (show eg P { G with b := some q } p (exec p m) from fun f args h φ w vals hg => CO f args h φ w vals hg) ops.toList [] (rU q r) h φ a w (by simp) (S.drop q) (jE hs)
     (fun r' h' φ' a' w' hl S' T => ⟨_, Ay q r', h', φ', dL hl rfl (.nm _ _), .nm _ _, S'.ins, T⟩)
    rw [List.range_eq_range']
    simpa using this
   rw [e] at hs ⊢
   have hs : (fe p (exec p m) (ops.toList.map fun o => np P G n names ops o) r h).Safe := hs
   show (Code.region id ops false).wp P (bQ n G φ h w (fe p (exec p m) (ops.toList.map fun o => np P G n names ops o) r h)) a w
   refine wp_region ?_
   have := AG (Q := bQ n G φ h w (fe p (exec p m) (ops.toList.map fun o => np P G n names ops o) r h)) E.ms CO ops.toList [] r h φ a w (by simp) S hs (fun r' h' φ' a' w' hl S' T => ⟨_, r', h', φ', hl, .nm _ _, S', T⟩)
   rw [List.range_eq_range']
   show wpOps P ops (bQ n G φ h w (fe p (exec p m) (ops.toList.map fun o => np P G n names ops o) r h)) (List.range' 0 ops.size) a w
   simpa using this
  | true =>
   exact wp_region_any E.mixed (Lo D m (fun k hk => sC E (CA k hk)) ops r h φ a w S hs)
 | seq c1 c2 =>
  obtain ⟨x, y, rfl, hx, hy⟩ : ∃ a' b', z = .seq a' b' ∧ Impl (cC P G n names c1) a' ∧ Impl (cC P G n names c2) b' := hN
  have hs : (Cr x y (exec p m) r h).Safe := hs
  show (Code.seq c1 c2).wp P (bQ n G φ h w (Cr x y (exec p m) r h)) a w
  unfold Cr at hs ⊢
  refine wp_seq (wp_mono (C.code n c1 x r h φ a w hx S (jE hs)) (bQ.cases ?_ ?_ ?_ ?_))
  ·intro r' h' φ' a' w' hl S' T
   exact wp_mono (C.code n c2 y r' h' φ' a' w' hy S' (ov hs hl)) (bQ.then T fun z hz => dL hl rfl hz)
  ·exact fun i r' h' φ' a' w' hl S' T => ⟨_, r', h', φ', eF hl rfl (.ex _ _ _), .ex _ _ _, S', T⟩
  ·exact fun i r' h' φ' a' w' hl S' T => ⟨_, r', h', φ', dM hl rfl (.go _ _ _), .go _ _ _, S', T⟩
  ·exact fun r' h' φ' a' w' hl S' T => ⟨_, r', h', φ', eQ hl rfl, .ret _ _, S', T⟩
 | cond c x y =>
  simp only [cC] at hN
  cases hc : cO G c with
  | none =>
   rw [hc] at hN
   have hN : z = .bad 401 := hN
   subst hN
   exact (RS.Safe.err hs).elim
  | some b =>
   rw [hc] at hN
   obtain ⟨x', y', rfl, hx, hy⟩ : ∃ a' b', z = .cond b a' b' ∧ Impl (cC P G n names x) a' ∧ Impl (cC P G n names y) b' := hN
   have hs : (AV.bN (ev b r) (fun t => @Bool.rec (fun _ => RS) (exec p m y' r h) (exec p m x' r h) t) (.err 213)).Safe := hs
   obtain ⟨t, ht, e⟩ := gr hs
   show (Code.cond c x y).wp P (bQ n G φ h w (AV.bN (ev b r) (fun t => @Bool.rec (fun _ => RS) (exec p m y' r h) (exec p m x' r h) t) (.err 213))) a w
   rw [e] at hs ⊢
   have hv := S.Su hc
   rw [ht] at hv
   refine wp_cond hv.dT ?_
   cases t with
   | true => exact C.code n x x' r h φ a w hx S hs
   | false => exact C.code n y y' r h φ a w hy S hs
 | block i c =>
  rcases oy (P := P) (G := G) (n := n) (names := names) i c with e | e <;> rw [e] at hN
  ·obtain ⟨x, rfl, hx⟩ : ∃ a', z = .block i a' ∧ Impl (cC P G n names c) a' := hN
   exact nu C i c hx S hs
  ·have hz : (∃ a', z = .join (.block i a') ∧ Impl (cC P G n names c) a') ∨ ∃ a', z = .block i a' ∧ Impl (cC P G n names c) a' := by
    rcases (show z = .join (.block i (cC P G n names c)) ∨ (∃ i' b b', AC.block i (cC P G n names c) = .block i' (.loop b) ∧ z = .join (.block i' (.loop b')) ∧ Impl b b') ∨ ∃ i' b b', AC.block i (cC P G n names c) = .block i' b ∧ z = .block i' b' ∧ Impl b b' from hN) with rfl | ⟨i', b, b', e1, rfl, hb⟩ | ⟨i', b, b', e1, rfl, hb⟩
    ·exact .inl ⟨_, rfl, .refl _⟩
    ·injection e1 with e1 e2
     subst e1
     rw [e2]
     exact .inl ⟨_, rfl, .loop hb⟩
    ·injection e1 with e1 e2
     subst e1
     rw [e2]
     exact .inr ⟨_, rfl, hb⟩
   rcases hz with ⟨x, rfl, hx⟩ | ⟨x, rfl, hx⟩
   case inr => exact nu C i c hx S hs
   have hs : (dH (exec p m (.block i x) r h)).Safe := hs
   show (Code.block i c).wp P (bQ n G φ h w (dH (exec p m (.block i x) r h))) a w
   obtain ⟨s1, s2⟩ := rq _ hs
   refine wp_mono (C.block n i c x r h φ a w hx S s1) ?_
   rintro e a' w' ⟨y, r', h', φ', hl, he, S', T⟩
   obtain ⟨y2, r2, h2, q1, q2, q3, q4⟩ := s2 y hl e r' h' he
   exact ⟨y2, r2, h2, φ', q1, q2, S'.less q3 q4, T.less q4⟩
 | loop c =>
  obtain ⟨x, rfl, hx⟩ : ∃ a', z = .loop a' ∧ Impl (cC P G n names c) a' := hN
  exact yj (vb C c hx S hs)
 | rangeFunc f ps x y =>
  have hN : z = .bad 402 := hN
  subst hN
  exact (RS.Safe.err hs).elim
 | exit i =>
  have hN : z = .exit i := hN
  subst hN
  exact wp_exit ⟨_, r, h, φ, .ex _ _ _, .ex _ _ _, S, .refl _ _ _⟩
 | scope c =>
  obtain ⟨x, rfl, hx⟩ : ∃ a', z = .scope a' ∧ Impl (cC P G n names c) a' := hN
  exact AH (yw C c c hx hx S hs)
 | label l =>
  have hN : z = .label l := hN
  subst hN
  exact wp_label ⟨_, r, h, φ, .nm _ _, .nm _ _, S, .refl _ _ _⟩
 | goto l =>
  have hN : z = .goto l := hN
  subst hN
  exact wp_goto ⟨_, r, h, φ, .go _ _ _, .go _ _ _, S, .refl _ _ _⟩
 | ret =>
  have hN : z = .ret := hN
  subst hN
  exact wp_ret ⟨_, r, h, φ, .ret _ _, .ret _ _, S, .refl _ _ _⟩
 | refuse s =>
  have hN : z = .bad 403 := hN
  subst hN
  exact (RS.Safe.err hs).elim
theorem yx (E : Env P G names p) (D : wK P G names p) : ∀ m k, k ≤ m → kz P G names p k
 | 0, 0, _ => ⟨fun _ _ _ _ _ _ _ _ _ _ hs => (RS.Safe.err hs).elim, fun _ _ _ _ _ _ _ _ _ _ _ hs => (RS.Safe.err hs).elim, fun _ _ _ _ _ _ _ _ _ _ hs => (RS.Safe.err hs).elim, fun _ _ _ _ _ _ _ _ _ _ _ _ _ hs => (RS.Safe.err hs).elim⟩
 | m + 1, k, hk => by
  have CA := yx E D m
  rcases Nat.lt_or_ge k (m + 1) with g | g
  ·exact CA k (by omega)
  ·have e : k = m + 1 := by omega
   subst e
   have C := CA m (Nat.le_refl _)
   exact ⟨fun _ c _ _ _ _ _ _ hI S hs => Ef E D CA c hI S hs, fun _ i c _ _ _ _ _ _ hI S hs => nu C i c hI S hs, fun _ c _ _ _ _ _ _ hI S hs => vb C c hI S hs, fun _ s c _ _ _ _ _ _ _ hI hJ S hs => yw C s c hI hJ S hs⟩
theorem Lp (E : Env P G names p) (D : wK P G names p) (m : Nat) : kz P G names p m := yx E D m m (Nat.le_refl _)
def CF (x : AF) : Bool := match x with | .ext _ => true | _ => false
theorem CG {x : AF} (h : CF x = false) (k : PK) : x ≠ .ext k := fun e => by rw [e] at h; cases h
theorem Lq (E : Env P G names p) (D : wK P G names p) (m f : Nat) (args : List AV) (vals : List Value) (hg : mF G φ) (H : HR φ h w) (hv : cU φ args vals) (hs : (aB p (exec p m) f args h).Safe) (hb : ∀ k, ak f p.fs ≠ .ext k) :
  Calls P f vals.toArray w (fB φ h w (aB p (exec p m) f args h)) := by
 rcases sC E (Lp E D m) f args h φ w vals hg H hv hs with ⟨_, hC⟩ | ⟨cv, w', hcf, _⟩
 ·exact hC
 ·exfalso
  have hF := E.fs f
  have go : ∀ {body res}, qT P G names f body res → False := by
   rintro body res ⟨fn, body0, hfn, hc, _⟩
   unfold cF at hc
   split at hc
   ·rename_i c rs hbody hrs
    split at hc
    ·cases hc
    ·rename_i hname
     rw [gQ hfn (by simpa using hname) hbody] at hcf
     cases hcf
   ·cases hc
  cases hf : ak f p.fs with
  | none => rw [mQ hf] at hs; exact (RT.Safe.err hs).elim
  | mk body res => rw [hf] at hF; exact go hF
  | QB body res => rw [hf] at hF; exact go hF
  | uo k body res => rw [hf] at hF; exact go hF.1
  | ext k => exact hb k hf
def fi (r r' : A2) (L : List Nat) : Prop := ∀ a b : H, (16 * a.nat + b.nat) ∈ L → aC a b r = aC a b r'
variable {r r' : A2} {h h' : Hp} {v : AV}
theorem fi.left {L M : List Nat} (e : fi r r' (L ++ M)) : fi r r' L := fun a b m => e a b (List.mem_append_left _ m)
theorem fi.right {L M : List Nat} (e : fi r r' (L ++ M)) : fi r r' M := fun a b m => e a b (List.mem_append_right _ m)
theorem aE {x : AO} (e : fi r r' x.aI) : ev x r = ev x r' := by
 cases x with
 | t a b => exact e a b (by simp [AO.aI])
 | c v => rfl
theorem hY : ∀ {xs : List AO}, fi r r' (sD xs) → fR xs r = fR xs r'
 | [], _ => rfl
 | x :: xs, e => by
  have e : fi r r' (x.aI ++ sD xs) := e
  show ev x r :: fR xs r = ev x r' :: fR xs r'
  rw [aE e.left, hY e.right]
theorem dI {x : OA} {d : Nat} (e : fi r r' x.aI) : fS x d r = fS x d r' := by
 cases x with
 | none => rfl
 | some x =>
  funext k q
  show ik (ev x r) k q = ik (ev x r') k q
  rw [aE (x := x) e]
theorem nv : ∀ {ps : List Part}, fi r r' (ps.flatMap Part.aI) → fits ps r = fits ps r'
 | [], _ => rfl
 | .mk off sz x :: ps, e => by
  have e : fi r r' (x.aI ++ ps.flatMap Part.aI) := e
  show (OL.rec (@Bool.rec (fun _ => Bool) false (fits ps r) (Bool.and (ev x r).one (Nat.beq sz 1))) (fun l => @Bool.rec (fun _ => Bool) false (fits ps r) (Nat.beq l.length sz)) (ev x r).asAgg : Bool) =
   (OL.rec (@Bool.rec (fun _ => Bool) false (fits ps r') (Bool.and (ev x r').one (Nat.beq sz 1))) (fun l => @Bool.rec (fun _ => Bool) false (fits ps r') (Nat.beq l.length sz)) (ev x r').asAgg : Bool)
  rw [aE e.left, nv e.right]
theorem ny : ∀ {ps : List Part} {l : List AV}, fi r r' (ps.flatMap Part.aI) → fill ps r l = fill ps r' l
 | [], _, _ => rfl
 | .mk off sz x :: ps, l, e => by
  have e : fi r r' (x.aI ++ ps.flatMap Part.aI) := e
  show fill ps r (mM (AV.cs (ev x r)) off l) = fill ps r' (mM (AV.cs (ev x r')) off l)
  rw [aE e.left, ny e.right]
theorem sE {op : nV} (e : fi r r' op.aI) : op.run r h = op.run r' h := by
 cases op with
 | mv x => show Kz x r h = Kz x r' h; unfold Kz; rw [aE e]
 | pick c a b => show dX c a b r h = dX c a b r' h; unfold dX; rw [aE e.left, aE e.right.left, aE e.right.right]
 | alloc el n c => rfl
 | box el x => show xU el x r h = xU el x r' h; unfold xU; rw [aE (x := x) e]
 | build z ps => show jY z ps r h = jY z ps r' h; unfold jY; rw [nv e, ny e]
 | cG el es n z ps => show gp el es n z ps r h = gp el es n z ps r' h; unfold gp; rw [nv e, ny e]
 | fQ x => show qv x r h = qv x r' h; unfold qv; rw [aE (x := x) e]
 | pk m x => show qw m x r h = qw m x r' h; unfold qw; rw [aE (x := x) e]
 | Ki x y => show xV x y r h = xV x y r' h; unfold xV; rw [aE (x := x) e.left, aE (x := y) e.right]
 | Kj m x y => show xW m x y r h = xW m x y r' h; unfold xW; rw [aE (x := x) e.left, aE (x := y) e.right]
 | qQ x => show pv x r h = pv x r' h; unfold pv; rw [aE (x := x) e]
 | bin k x y => show bK k (ev x r) (ev y r) h = bK k (ev x r') (ev y r') h; rw [aE (x := x) e.left, aE (x := y) e.right]
 | un k x => show Ky k x r h = Ky k x r' h; unfold Ky; rw [aE (x := x) e]
 | conv k x => show rO k x r h = rO k x r' h; unfold rO; rw [aE (x := x) e]
 | Rg t x => show xX t x r h = xX t x r' h; unfold xX; rw [aE (x := x) e]
 | Ss f xs => show xY f xs r h = xY f xs r' h; unfold xY; rw [hY e]
 | oh => rfl
 | om el z l c => show fh el z l c r h = fh el z l c r' h; unfold fh; rw [aE (x := l) e.left, aE (x := c) e.right]
 | Oj es x lo hi mx => show fu es x lo hi mx r h = fu es x lo hi mx r' h; unfold fu; rw [aE (x := x) e.left]; simp only [dI e.right.left, dI e.right.right.left, dI e.right.right.right]
 | KD x lo hi => show fw x lo hi r h = fw x lo hi r' h; unfold fw; rw [aE (x := x) e.left]; simp only [dI e.right.left, dI e.right.right]
 | KE len es x lo hi mx => show jU len es x lo hi mx r h = jU len es x lo hi mx r' h; unfold jU; rw [aE (x := x) e.left]; simp only [dI e.right.left, dI e.right.right.left, dI e.right.right.right]
 | fP d x => show rP d x r h = rP d x r' h; unfold rP; rw [aE (x := x) e]
 | KG d x => rfl
 | KH d n x => rfl
 | Fp es x y => show uO es x y r h = uO es x y r' h; unfold uO; rw [aE (x := x) e.left, aE (x := y) e.right]
 | Ok len es x y => show uP len es x y r h = uP len es x y r' h; unfold uP; rw [aE (x := x) e.left, aE (x := y) e.right]
 | idxs x y => rfl
 | KI len es agg x y => show nc len es agg x y r h = nc len es agg x y r' h; unfold nc; rw [aE (x := x) e.left, aE (x := y) e.right]
 | ext i x => show uQ i x r h = uQ i x r' h; unfold uQ; rw [aE (x := x) e]
 | Fq t z ok x y => show Co t z ok x y r h = Co t z ok x y r' h; unfold Co; rw [aE (x := x) e.left, aE (x := y) e.right]
 | OE t x y z => rfl
 | del t x y => rfl
 | Gp x => rfl
 | len x => show Cp x r h = Cp x r' h; unfold Cp; rw [aE (x := x) e]
 | jA x => show wm x r h = wm x r' h; unfold wm; rw [aE (x := x) e]
 | cap x => rfl
 | max mn xs => show ya mn xs r h = ya mn xs r' h; unfold ya; rw [hY e]
 | app el es x y => show uR el es x y r h = uR el es x y r' h; unfold uR; rw [aE (x := x) e.left, aE (x := y) e.right]
 | apps el x y => show jj el x y r h = jj el x y r' h; unfold jj; rw [aE (x := x) e.left, aE (x := y) e.right]
 | Rh es x y => show uS es x y r h = uS es x y r' h; unfold uS; rw [aE (x := x) e.left, aE (x := y) e.right]
 | Ri z x => rfl
 | KJ x => rfl
 | Gq x => rfl
 | NA x => rfl
 | QA t z ok x => rfl
 | gN k x y => show px k x y r h = px k x y r' h; unfold px; rw [aE (x := x) e.left, aE (x := y) e.right]
 | real im x => rfl
 | KL x => show lr x r h = lr x r' h; unfold lr; rw [aE (x := x) e]
 | Ar t z x y => rfl
 | Gs el es z x y => rfl
 | Au x y z => rfl
 | Gr el x y => show na el x y r h = na el x y r' h; unfold na; rw [aE (x := x) e.left, aE (x := y) e.right]
 | bad n => rfl
theorem vg {i : AI} {p : Pg} {run : iP} (e : fi r r' i.aI) : i.res p run r h = i.res p run r' h := by
 cases i with
 | op o => show (o.run r h).nU = (o.run r' h).nU; rw [sE e]
 | KM s x => rfl
 | call f xs => show aB p run f (fR xs r) h = aB p run f (fR xs r') h; rw [hY e]
 | mO x xs => show kY p run (ev x r) (fR xs r) h = kY p run (ev x r') (fR xs r') h; rw [aE (x := x) e.left, hY e.right]
 | inv k x xs => show aH p run k (ev x r) (fR xs r) h = aH p run k (ev x r') (fR xs r') h; rw [aE (x := x) e.left, hY e.right]
variable {P : Program} {r r' : A2} {h h' : Hp} {v : AV} {n : Nat}
theorem du {a : AV} {h0 : Hp} (e : RV.ok a h0 = .ok v h') : h' = h0 := (RV.aA e).2.symm
theorem jt {neg : Bool} {b : EB} (e : EB.rv neg h b = .ok v h') : h' = h := (Ho e).1
theorem mR {f : IntKind → Int → Int → AV} {x y : AV} (e : Aq f x y h = .ok v h') : h' = h := by obtain ⟨_, _, _, _, _, _, e⟩ := Hq e; exact e
theorem yz {f : IntKind → Int → Int → AV} {x y : AV} (e : Kv f x y h = .ok v h') : h' = h := by obtain ⟨_, _, _, _, _, _, e, _⟩ := Hr e; exact e
theorem vh {f : List Nat → List Nat → AV} {x y : AV} (e : Kw f x y h = .ok v h') : h' = h := by obtain ⟨_, _, _, _, _, e⟩ := Hs e; exact e
theorem NF {f : IntKind → Int → Int → AV} {x y : AV} (e : Qz f x y h = .ok v h') : h' = h := by obtain ⟨_, _, _, _, _, _, _, e, _⟩ := AP e; exact e
theorem Pu {k : FloatKind} {op : BinOp} {a b : Nat} (e : Kx k op a b h = .ok v h') : h' = h := by
 unfold Kx at e
 simp only at e
 split at e <;> (try (split at e)) <;> first | exact du e | cases e
theorem Lt {k : FloatKind} {op : BinOp} {a b c d : Nat} (e : Cj k op a b c d h = .ok v h') : h' = h := by
 unfold Cj at e
 split at e <;> (try (split at e)) <;> first | exact du e | cases e
theorem SM {k : BK} {x y : AV} (e : bK k x y h = .ok v h') : h' = h := by
 cases k with
 | add => exact mR e
 | sub => exact mR e
 | mul => exact mR e
 | quo => exact yz e
 | rem => exact yz e
 | and => exact yz e
 | or => exact yz e
 | xor => exact yz e
 | QS => exact mR e
 | shl => exact NF e
 | shr => exact NF e
 | eq => exact mR e
 | ne => exact mR e
 | lt => exact mR e
 | le => exact mR e
 | gt => exact mR e
 | ge => exact mR e
 | seq => exact vh e
 | So => exact vh e
 | slt => exact vh e
 | sle => exact vh e
 | Tv => exact vh e
 | Tw => exact vh e
 | cat =>
  obtain ⟨a, _, e⟩ := dm (show FT x y h = _ from e)
  obtain ⟨b, _, e⟩ := dm e
  obtain ⟨_, e⟩ := aG e
  exact du e
 | beq => exact jt e
 | bne => exact jt e
 | rL => exact jt e
 | SE => exact jt e
 | jB k => exact jt e
 | qt k => exact jt e
 | Tx ks =>
  obtain ⟨a, _, e⟩ := fC (show xT false ks x y h = _ from e)
  obtain ⟨b, _, e⟩ := fC e
  exact jt e
 | Oi ks =>
  obtain ⟨a, _, e⟩ := fC (show xT true ks x y h = _ from e)
  obtain ⟨b, _, e⟩ := fC e
  exact jt e
 | Ty op =>
  obtain ⟨k, a, _, e⟩ := eR (show FU op x y h = _ from e)
  obtain ⟨k', b, _, e⟩ := eR e
  obtain ⟨_, e⟩ := aG e
  exact Pu e
 | Tz op =>
  obtain ⟨k, a, b, _, e⟩ := mh (show FV op x y h = _ from e)
  obtain ⟨k', c, d, _, e⟩ := mh e
  obtain ⟨_, e⟩ := aG e
  exact Lt e
 | xB => exact jt e
 | TJ => exact jt e
theorem eh {x : OA} {d : Nat} {k : Nat → RV} {q : Nat} (e : fS x d r k (.err q) = .ok v h') : ∃ b, k b = .ok v h' := by
 cases x with
 | none => exact ⟨d, e⟩
 | some x => obtain ⟨_, m, _, e⟩ := eS (show ik (ev x r) k (.err q) = _ from e); exact ⟨m, e⟩
theorem CH {es o a b m cap : Nat} {i : P4} (e : Gf es i o a b m cap h = .ok v h') : h' = h := by
 obtain ⟨_, e⟩ := aG e
 obtain ⟨_, e⟩ := aG e
 obtain ⟨_, e⟩ := aG e
 exact du e
theorem Lu {es o a b : Nat} {i : P4} (e : Nu es i o a b h = .ok v h') : h' = h := by
 obtain ⟨_, e⟩ := aG e
 obtain ⟨_, _, _, _, _, _, e⟩ := bg e
 obtain ⟨_, e⟩ := aG e
 exact du e
theorem Lw {es o a b m : Nat} {i : P4} (e : Nv es i o a b m h = .ok v h') : h' = h := by
 obtain ⟨_, e⟩ := aG e
 obtain ⟨_, e⟩ := aG e
 obtain ⟨_, _, _, _, _, _, e⟩ := bg e
 obtain ⟨_, e⟩ := aG e
 exact du e
theorem Rz {es : Nat} {x : AO} {lo hi mx : OA} (e : fu es x lo hi mx r h = .ok v h') : h' = h := by
 rcases eX e with ⟨i, o, l, c, _, e⟩ | ⟨i, o, l, c, _, e⟩ | ⟨_, e⟩
 ·obtain ⟨_, e⟩ := eh e
  obtain ⟨_, e⟩ := eh e
  obtain ⟨_, e⟩ := eh e
  exact CH e
 ·obtain ⟨_, e⟩ := aG e
  obtain ⟨_, e⟩ := eh e
  obtain ⟨_, e⟩ := eh e
  rcases gu e with ⟨_, e⟩ | ⟨_, e⟩
  ·exact Lu e
  ·obtain ⟨_, e⟩ := eh e
   exact Lw e
 ·obtain ⟨_, e⟩ := eh e
  obtain ⟨_, e⟩ := eh e
  obtain ⟨_, e⟩ := eh e
  obtain ⟨_, e⟩ := aG e
  exact du e
theorem Pv {len es : Nat} {x : AO} {lo hi mx : OA} (e : jU len es x lo hi mx r h = .ok v h') : h' = h := by
 obtain ⟨_, _, _, e⟩ := cZ e
 obtain ⟨_, e⟩ := eh e
 obtain ⟨_, e⟩ := eh e
 obtain ⟨_, e⟩ := eh e
 exact CH e
theorem Pw {x : AO} {lo hi : OA} (e : fw x lo hi r h = .ok v h') : h' = h := by
 obtain ⟨_, _, e⟩ := dm e
 obtain ⟨_, e⟩ := eh e
 obtain ⟨_, e⟩ := eh e
 obtain ⟨_, e⟩ := aG e
 obtain ⟨_, e⟩ := aG e
 exact du e
theorem CI {α : Type} {l : List α} {f : α → AV} {n : Nat} (e : (List.rec (.err n) (fun a _ _ => .ok (f a) h) l : RV) = .ok v h') : h' = h := by
 cases l with
 | nil => cases e
 | cons a t => exact du e
theorem vi {es o n : Nat} {i : P4} {k : List AV → RV} {q : Nat} (e : iV es i o n h k (.err q) = .ok v h') : ∃ l, k l = .ok v h' := by
 cases n with
 | zero => exact ⟨_, e⟩
 | succ n =>
  change (Obj.bp (ah i h) (fun _ m _ _ c => @Bool.rec (fun _ => RV) (.err q) (k (bP (Nat.mul (Nat.succ n) es) c o)) (Nat.ble (Nat.add o (Nat.mul (Nat.succ n) es)) m)) (.err q) : RV) = _ at e
  obtain ⟨_, _, _, _, _, _, e⟩ := bg e
  obtain ⟨_, e⟩ := aG e
  exact ⟨_, e⟩
theorem Ly {es : Nat} {x : AV} {k : List AV → RV} {q : Nat} (e : elems es x h k (.err q) = .ok v h') : ∃ l, k l = .ok v h' := by
 rcases eX e with ⟨i, o, l, c, _, e⟩ | ⟨i, o, l, c, _, e⟩ | ⟨_, e⟩
 ·exact vi e
 ·obtain ⟨_, e⟩ := aG e
  exact vi e
 ·exact ⟨_, e⟩
theorem Ht {mn : Bool} {k : IntKind} : ∀ {l : List AV} {a : Int}, xZ mn k h l a = .ok v h' → h' = h
 | [], a, e => du e
 | y :: l, a, e => by
  rw [vj] at e
  obtain ⟨_, _, _, e⟩ := bT e
  obtain ⟨_, e⟩ := aG e
  exact Ht e
theorem RB {t : KT} {z : AV} {ok : Bool} {x k : AV} (e : Fq t z ok x k h = .ok v h') : h' = h := by
 obtain ⟨_, e⟩ := aG e
 have ho : ∀ {f : Bool} {a : AV}, QX ok f a h = .ok v h' → h' = h := fun e => du e
 rcases yA e with ⟨i, _, e⟩ | ⟨_, e⟩
 ·obtain ⟨l, c, _, e⟩ := vk e
  rw [yB] at e
  rcases sF e with ⟨_, e⟩ | ⟨_, _, _, _, _, e⟩
  ·exact ho e
  ·exact ho e
 ·exact ho e
theorem Px {x : AO} (e : pv x r h = .ok v h') : h' = h := by
 have e : (OP.rec (qQ (ev x r) h) (fun i o => .ok (.ptr i o) h) (ev x r).kV : RV) = _ := e
 generalize ev x r = a at e
 cases a <;> first | exact du e | cases e
theorem Py {len es : Nat} {agg : Bool} {x y : AO} (e : nc len es agg x y r h = .ok v h') : h' = h := by
 obtain ⟨_, _, _, e⟩ := eS e
 obtain ⟨_, _, e⟩ := fC e
 obtain ⟨_, e⟩ := aG e
 rcases gu e with ⟨_, e⟩ | ⟨_, e⟩
 ·exact CI (f := fun v => v) e
 ·obtain ⟨_, e⟩ := aG e
  exact du e
theorem RC {x : AV} (e : len x h = .ok v h') : h' = h := by
 rcases eX e with ⟨i, o, l, c, _, e⟩ | ⟨i, o, l, c, _, e⟩ | ⟨_, e⟩ <;> exact du e
theorem RD {x : AV} (e : Ge x h = .ok v h') : h' = h := by
 cases x <;> try (cases e; done)
 case cV => exact du (show RV.ok .cV h = .ok v h' from e)
 case ptr i o =>
  obtain ⟨_, _, _, _, _, _, e⟩ := bg (show Obj.bp (ah i h) (fun _ n ex _ _ => @Bool.rec (fun _ => RV) (.err 191) (.ok (.ptr i o) h) (Bool.and ex (FW o n))) (RV.err 192) = RV.ok v h' from e)
  obtain ⟨_, e⟩ := aG e
  exact du e
theorem Lz {u sz : Nat} {x : AV} (e : wk u sz x h = .ok v h') : h' = h := by
 cases x <;> try (cases e; done)
 case cV => exact du (show RV.ok .cV h = .ok v h' from e)
 case ptr i o =>
  obtain ⟨_, _, _, _, _, _, e⟩ := bg (show Obj.bp (ah i h) (fun el n ex _ _ => @Bool.rec (fun _ => RV) (.err 193) (.ok (.ptr i o) h) (Bool.and ex (Bool.and (Nat.beq o 0) (Bool.and (Nat.beq el u) (Nat.beq n sz))))) (RV.err 194) = RV.ok v h' from e)
  obtain ⟨_, e⟩ := aG e
  exact du e
theorem SN {k : CK} {x : AV} {y : AO} (hk : pA (.op (.conv k y)) = true) (e : cK k x h = .ok v h') : h' = h := by
 cases k <;> (try (cases hk; done))
 ·obtain ⟨_, _, e⟩ := dm (show Gc x h = _ from e); exact du e
 ·obtain ⟨_, _, _, e⟩ := bT (show wj _ x h = _ from e); exact du e
 ·obtain ⟨_, e⟩ := Ly (show FZ x h = _ from e)
  obtain ⟨_, _, e⟩ := kF e
  exact du e
 ·obtain ⟨_, _, _, e⟩ := bT (show Nt x h = _ from e); exact du e
 ·obtain ⟨_, _, _, e⟩ := bT (show Ga _ x h = _ from e); exact du e
 ·obtain ⟨_, _, _, e⟩ := eR (show Gb _ x h = _ from e)
  split at e
  ·split at e
   ·exact du e
   ·cases e
  ·cases e
 ·exact RD e
 ·exact Lz e
theorem yC {op : nV} (hf : pA (.op op) = true) (e : op.run r h = .ok v h') : h' = h := by
 cases op with
 | mv x => exact du e
 | pick c a b => obtain ⟨_, _, e⟩ := mi (show dX c a b r h = _ from e); exact du e
 | alloc => cases hf
 | box => cases hf
 | build z ps => obtain ⟨_, e⟩ := aG (show jY z ps r h = _ from e); exact du e
 | cG => cases hf
 | Ar => cases hf
 | Au => cases hf
 | Gs => cases hf
 | fQ x =>
  obtain ⟨_, _, _, e⟩ := cZ (show qv x r h = _ from e)
  obtain ⟨_, _, _, _, _, _, e⟩ := bg e
  obtain ⟨_, e⟩ := aG e
  exact du e
 | pk m x =>
  obtain ⟨_, _, _, e⟩ := cZ (show qw m x r h = _ from e)
  obtain ⟨_, _, _, _, _, _, e⟩ := bg e
  obtain ⟨_, e⟩ := aG e
  exact du e
 | Ki => cases hf
 | Kj => cases hf
 | qQ x => exact Px e
 | bin k x y => exact SM (show bK k (ev x r) (ev y r) h = _ from e)
 | un k x =>
  cases k with
  | not => obtain ⟨_, _, e⟩ := mi (show jz (ev x r) h = _ from e); exact du e
  | neg => obtain ⟨_, _, _, e⟩ := bT (show Ca (ev x r) h = _ from e); exact du e
  | TA => obtain ⟨_, _, _, e⟩ := bT (show Cb (ev x r) h = _ from e); exact du e
 | conv k x => exact SN (k := k) (x := ev x r) (y := x) hf e
 | Rg t x => exact du e
 | Ss f xs => exact du e
 | oh => cases hf
 | om => cases hf
 | Oj es x lo hi mx => exact Rz e
 | KD x lo hi => exact Pw e
 | KE len es x lo hi mx => exact Pv e
 | fP d x => obtain ⟨_, _, _, e⟩ := cZ (show rP d x r h = _ from e); exact du e
 | KG => cases e
 | KH => cases e
 | Fp es x y =>
  obtain ⟨_, _, _, e⟩ := eS (show uO es x y r h = _ from e)
  rcases eX e with ⟨i, o, l, c, _, e⟩ | ⟨i, o, l, c, _, e⟩ | ⟨_, e⟩
  ·obtain ⟨_, e⟩ := aG e; exact du e
  ·obtain ⟨_, e⟩ := aG e; exact du e
  ·cases e
 | Ok len es x y =>
  obtain ⟨_, _, _, e⟩ := eS (show uP len es x y r h = _ from e)
  obtain ⟨_, _, _, e⟩ := cZ e
  obtain ⟨_, e⟩ := aG e; exact du e
 | idxs => cases e
 | KI len es agg x y => exact Py e
 | ext i x => obtain ⟨_, _, e⟩ := yD (show uQ i x r h = _ from e); exact CI (f := fun v => v) e
 | Fq t z ok x y => exact RB e
 | OE => cases hf
 | del => cases hf
 | Gp => cases e
 | len x => exact RC e
 | jA x => obtain ⟨_, _, e⟩ := dm (show jA (ev x r) h = _ from e); exact du e
 | cap => cases e
 | max mn xs =>
  have e : FD mn (fR xs r) h = _ := e
  generalize fR xs r = l at e
  cases l with
  | nil => cases e
  | cons a l => obtain ⟨_, _, _, e⟩ := bT (show AV.eI a (fun k b => xZ mn k h l b) (.err 76) = _ from e); exact Ht e
 | app => cases hf
 | apps => cases hf
 | Rh => cases hf
 | Ri => cases hf
 | KJ => cases hf
 | Gq => cases hf
 | NA => cases hf
 | QA => cases e
 | gN k x y =>
  obtain ⟨_, _, _, e⟩ := eR (show px k x y r h = _ from e)
  obtain ⟨_, _, _, e⟩ := eR e
  obtain ⟨_, e⟩ := aG e
  exact du e
 | real => cases e
 | KL x =>
  rcases eX (show lr x r h = _ from e) with ⟨i, o, l, c, _, e⟩ | ⟨i, o, l, c, _, e⟩ | ⟨_, e⟩
  ·rcases gh e with ⟨_, e⟩ | ⟨m, _, e⟩
   ·cases e
   ·exact du e
  ·rcases gh e with ⟨_, e⟩ | ⟨m, _, e⟩
   ·cases e
   ·exact du e
  ·exact du e
 | Gr => cases hf
 | bad => cases hf
variable {ops : Array Oper}
def bA (L : Array Bool) (i : Nat) : Prop := L.getD i false = true
def SO (ops : Array Oper) (L : Array Bool) : Prop := ∀ j o, ops[j]? = some o → bA L j → ∀ e, e ∈ o.after → Region.binds .any e = true → bA L e.on
def Bf (ops : Array Oper) (i j : Nat) : Prop := ∀ L, SO ops L → bA L j → bA L i
theorem Bf.trans {i j k : Nat} (h : Bf ops i j) (g : Bf ops j k) : Bf ops i k := fun L c l => h L c (g L c l)
theorem oB {g : Nat → Nat} {i : Nat} : ∀ (es : List Edge) (s : Nat), (es.foldl (fun s e => if Region.binds .any e then s ||| 2 ^ e.on ||| g e.on else s) s).testBit i = true →
  s.testBit i = true ∨ ∃ e, e ∈ es ∧ Region.binds .any e = true ∧ (i = e.on ∨ (g e.on).testBit i = true)
 | [], s, h => .inl h
 | e :: es, s, h => by
  rw [List.foldl_cons] at h
  rcases oB es _ h with g | ⟨e', h1, h2, h3⟩
  ·by_cases hb : Region.binds .any e = true
   ·rw [if_pos hb] at g
    rw [Nat.testBit_or, Nat.testBit_or, Bool.or_eq_true, Bool.or_eq_true] at g
    rcases g with (g | g) | g
    ·exact .inl g
    ·rw [Nat.testBit_two_pow] at g
     exact .inr ⟨e, by simp, hb, .inl (of_decide_eq_true g).symm⟩
    ·exact .inr ⟨e, by simp, hb, .inr g⟩
   ·rw [if_neg hb] at g; exact .inl g
  ·exact .inr ⟨e', by simp [h1], h2, h3⟩
theorem mj {prev : List Nat} (hp : ∀ j i, (prev.getD j 0).testBit i = true → Bf ops i j) : ∀ (os pre : List Oper) (acc : List Nat), ops.toList = pre ++ os → acc.length = pre.length → (∀ j i, (acc.getD j 0).testBit i = true → Bf ops i j) → ∀ j i, ((sG prev os acc).getD j 0).testBit i = true → Bf ops i j
 | [], pre, acc, _, _, h => h
 | o :: os, pre, acc, e, hl, h => by
  refine mj hp os (pre ++ [o]) _ (by rw [e]; simp) (by simp [hl]) ?_
  intro j i hj
  rcases Nat.lt_trichotomy j acc.length with g | g | g
  ·rw [List.getD_eq_getElem?_getD, List.getElem?_append_left g] at hj
   exact h j i (by rw [List.getD_eq_getElem?_getD]; exact hj)
  ·subst g
   rw [List.getD_eq_getElem?_getD, List.getElem?_append_right (Nat.le_refl _)] at hj
   simp only [Nat.sub_self, List.getElem?_cons_zero, Option.getD_some] at hj
   have ho : ops[acc.length]? = some o := by rw [← Array.getElem?_toList, e, hl]; simp
   rcases oB (g := fun k => if k < acc.length then acc.getD k 0 else prev.getD k 0) _ _ hj with g | ⟨e', h1, h2, h3⟩
   ·simp at g
   ·have hb : Bf ops e'.on acc.length := fun L c l => c _ o ho l e' (by simpa using h1) h2
    rcases h3 with rfl | h3
    ·exact hb
    ·split at h3
     ·exact (h _ _ h3).trans hb
     ·exact (hp _ _ h3).trans hb
  ·rw [List.getD_eq_getElem?_getD, List.getElem?_eq_none (by simp; omega)] at hj
   simp at hj
theorem Hu : ∀ j i, ((oC ops.toList).getD j 0).testBit i = true → Bf ops i j := by
 have h0 : ∀ j i, (([] : List Nat).getD j 0).testBit i = true → Bf ops i j := fun j i g => by simp at g
 exact mj (mj (mj h0 _ [] [] rfl rfl h0) _ [] [] rfl rfl h0) _ [] [] rfl rfl h0
def Kk (ops : Array Oper) (i j : Nat) : Bool := ((oC ops.toList).getD j 0).testBit i
theorem kG {i j : Nat} (h : Kk ops i j = true) : Bf ops i j := Hu j i h
def dA (acc : List Nat) (x : Nat × Bk) : List Nat := match x.2 with
 | .dZ => x.1 :: acc
 | _ => acc
def cw (l : List (Nat × Bk)) : List Nat := l.foldl dA []
theorem qC (l : List (Nat × Bk)) (x : Nat × Bk) : cw (l ++ [x]) = dA (cw l) x := by simp [cw]
theorem oD : ∀ (m : List (Nat × Bk)) (acc : List Nat) (x : Nat), x ∈ acc → x ∈ m.foldl dA acc
 | [], acc, x, hx => hx
 | y :: m, acc, x, hx => oD m _ x (by unfold dA; split <;> simp [hx])
theorem yE : ∀ (m : List (Nat × Bk)) (acc : List Nat) (x : Nat), (x, Bk.dZ) ∈ m → x ∈ m.foldl dA acc
 | [], acc, x, hx => by cases hx
 | y :: m, acc, x, hx => by
  rcases List.mem_cons.1 hx with rfl | hx
  ·exact oD m _ x (by simp [dA])
  ·exact yE m _ x hx
theorem LA {l pre : List (Nat × Bk)} {i : Nat} (h2 : (match l.find? (fun x => NG x.2) with | some (e, _) => Kk ops i e | none => true) = true)
  (hc : ∀ q (hq : q < l.length), l[q].2 = .dZ → ∀ x, x ∈ cw (pre ++ l.take q) → Bf ops x l[q].1) : ∀ q2 (hq2 : q2 < l.length), l[q2].2 = .dZ → Bf ops i l[q2].1 := by
 intro q2 hq2 he
 cases hf : l.find? (fun x => NG x.2) with
 | none =>
  have := List.find?_eq_none.1 hf l[q2] (List.getElem_mem hq2)
  rw [he] at this; simp [NG] at this
 | some y =>
  rw [hf] at h2
  obtain ⟨g1, as, bs, g2, g3⟩ := List.find?_eq_some_iff_append.1 hf
  have hy : y.2 = .dZ := by
   cases hy : y.2 <;> rw [hy] at g1 <;> first | rfl | cases g1
  have hlen : as.length < l.length := by rw [g2]; simp
  have ah : l[as.length] = y := by simp [g2]
  have hl : Bf ops i l[as.length].1 := by rw [ah]; exact kG h2
  rcases Nat.lt_trichotomy as.length q2 with g | g | g
  ·refine hl.trans (hc q2 hq2 he _ ?_)
   refine yE _ [] _ (List.mem_append_right _ ?_)
   have : (l[as.length].1, Bk.dZ) = l[as.length] := by rw [ah, ← hy]
   rw [this]
   exact List.mem_take_iff_getElem.2 ⟨as.length, by omega, rfl⟩
  ·subst g; exact hl
  ·have hm : l[q2] ∈ as := by
    have : l[q2] = as[q2] := by simp [g2, List.getElem_append_left g]
    rw [this]; exact List.getElem_mem g
   have := g3 _ hm
   rw [he] at this; simp [NG] at this
theorem oE : ∀ (l pre : List (Nat × Bk)) (fl : Bool), ja (Kk ops) fl l (cw pre) = true → (cw pre).Pairwise (fun x y => Bf ops y x) → ∀ q (hq : q < l.length),
   (l[q].2 = .dZ → ∀ x, x ∈ cw (pre ++ l.take q) → Bf ops x l[q].1) ∧
   (∀ n, l[q].2 = .rd n → n ≤ (cw (pre ++ l.take q)).length ∧ ∀ x, x ∈ (cw (pre ++ l.take q)).drop n → Bf ops x l[q].1) ∧
   (l[q].2 ≠ .dZ → ∀ q2 (h2 : q2 < l.length), q < q2 → l[q2].2 = .dZ → Bf ops l[q].1 l[q2].1)
 | [], pre, fl, _, _, q, hq => by simp at hq
 | (i, b) :: l, pre, fl, h, hp, q, hq => by
  have hall : b = .dZ → ∀ x, x ∈ cw pre → Bf ops x i := by
   intro hb x hx
   subst hb
   simp only [ja, Bool.and_eq_true] at h
   cases he : cw pre with
   | nil => rw [he] at hx; cases hx
   | cons e es =>
    rw [he] at h hx hp
    rcases List.mem_cons.1 hx with rfl | hx
    ·exact kG h.1
    ·exact ((List.pairwise_cons.1 hp).1 x hx).trans (kG h.1)
  have e1 : cw (pre ++ [(i, b)]) = dA (cw pre) (i, b) := qC _ _
  have hp2 : (cw (pre ++ [(i, b)])).Pairwise (fun x y => Bf ops y x) := by
   rw [e1]
   cases b with
   | dZ => exact List.pairwise_cons.2 ⟨hall rfl, hp⟩
   | rd n => exact hp
   | new => exact hp
  have hih : ∃ fl', ja (Kk ops) fl' l (cw (pre ++ [(i, b)])) = true := by
   rw [e1]
   cases b with
   | dZ => simp only [ja, Bool.and_eq_true] at h; exact ⟨_, h.2⟩
   | rd n => simp only [ja, Bool.and_eq_true] at h; exact ⟨_, h.2⟩
   | new => simp only [ja, Bool.and_eq_true] at h; exact ⟨_, h.2⟩
  obtain ⟨fl', hih⟩ := hih
  have ih := oE l (pre ++ [(i, b)]) fl' hih hp2
  have hnext : b ≠ .dZ → ∀ q2 (hq2 : q2 < l.length), l[q2].2 = .dZ → Bf ops i l[q2].1 := by
   intro hb
   refine LA (pre := pre ++ [(i, b)]) ?_ (fun q hq he => (ih q hq).1 he)
   cases b with
   | dZ => exact absurd rfl hb
   | rd n => simp only [ja, Bool.and_eq_true] at h; exact h.1.2
   | new => simp only [ja, Bool.and_eq_true] at h; exact h.1
  cases q with
  | zero =>
   refine ⟨fun hb x hx => hall hb x (by simpa using hx), fun m hm => ?_, fun hb q2 hq2 hlt he => ?_⟩
   ·have hm : b = .rd m := hm
    subst hm
    simp only [ja, Bool.and_eq_true] at h
    obtain ⟨⟨⟨_, h1⟩, h2⟩, h3⟩ := h
    simp only [List.take_zero, List.append_nil, List.getElem_cons_zero]
    cases hd : (cw pre).drop m with
    | nil =>
     rw [hd] at h1
     exact ⟨Nat.le_of_eq (by simpa using h1), fun x hx => by cases hx⟩
    | cons e es =>
     rw [hd] at h1
     have hlt : m < (cw pre).length := by
      rcases Nat.lt_or_ge m (cw pre).length with g | g
      ·exact g
      ·rw [List.drop_of_length_le g] at hd; cases hd
     refine ⟨Nat.le_of_lt hlt, fun x hx => ?_⟩
     have hpd : ((cw pre).drop m).Pairwise (fun x y => Bf ops y x) := List.Pairwise.sublist (List.drop_sublist _ _) hp
     rw [hd] at hpd
     rcases List.mem_cons.1 hx with rfl | hx
     ·exact kG h1
     ·exact ((List.pairwise_cons.1 hpd).1 x hx).trans (kG h1)
   ·cases q2 with
    | zero => omega
    | succ q2 => exact hnext hb q2 (by simpa using hq2) he
  | succ q =>
   have := ih q (by simpa using hq)
   simp only [List.append_assoc, List.singleton_append] at this
   refine ⟨this.1, this.2.1, fun hn q2 h2 hlt he => ?_⟩
   cases q2 with
   | zero => omega
   | succ q2 => exact this.2.2 hn q2 (by simpa using h2) (by omega) he
variable {P : Program} {G : Gl} {n : Nat} {names : List String} {ops : Array Oper} {l : List (Nat × Bk)}
theorem rA {α : Type} {l : List α} {p : Nat} (hp : p < l.length) : (l[p], p) ∈ l.zipIdx := by
 rw [List.mem_zipIdx_iff_getElem?]; simp [hp]
structure Eg (P : Program) (G : Gl) (n : Nat) (names : List String) (ops : Array Oper) (l : List (Nat × Bk)) : Prop where
 len : l.length = ops.size
 RE : ∀ q (hq : q < l.length), l[q].1 < ops.size
 cover : ∀ i, i < ops.size → ∃ q, ∃ hq : q < l.length, l[q].1 = i
 inj : ∀ p q (hp : p < l.length) (hq : q < l.length), l[p].1 = l[q].1 → p = q
 lt : ∀ (j : Nat) (o : Oper), ops[j]? = some o → ∀ e, e ∈ o.after → Region.binds .any e = true → e.on < ops.size ∧ (oC ops.toList).getD e.on 0 < (oC ops.toList).getD j 0
 ord : ∀ p q (hp : p < l.length) (hq : q < l.length), Kk ops l[p].1 l[q].1 = true → p < q ∨ (l[p].2 = .new ∧ ∃ m, l[q].2 = .rd m)
 kind : ∀ q (hq : q < l.length), sH P G n names ops l l[q].1 l[q].2 = true
 seq : ja (Kk ops) true l [] = true
 dst : ∀ (i j : Nat) (oi oj : Oper) (t : Nat), ops[i]? = some oi → ops[j]? = some oj → oi.dst = some t → oj.dst = some t → i = j
 look : ∀ (i j : Nat) (oi oj : Oper) (t : Nat), ops[i]? = some oi → ops[j]? = some oj → t ∈ looks P G n names ops oi → oj.dst = some t → i = j ∨ Kk ops i j = true ∨ Kk ops j i = true
 RG : ∀ q (hq : q < l.length), l[q].2 = .new → ∀ t, t ∈ looks P G n names ops (ops.getD l[q].1 default) → ∀ (j : Nat) (oj : Oper), ops[j]? = some oj → oj.dst = some t → Kk ops j l[q].1 = true
theorem Pz (h : ku P G n names ops l = true) : Eg P G n names ops l := by
 unfold ku at h
 simp only [Bool.and_eq_true, List.all_eq_true, List.any_eq_true, beq_iff_eq] at h
 obtain ⟨⟨⟨⟨⟨⟨⟨⟨⟨⟨h1, h0⟩, h2⟩, h3⟩, h4⟩, h5⟩, h6⟩, h7⟩, h8⟩, h9⟩, h10⟩ := h
 have opm : ∀ {j o}, ops[j]? = some o → (o, j) ∈ ops.toList.zipIdx := fun {j o} e => by
  rw [List.mem_zipIdx_iff_getElem?]; simpa using e
 refine ⟨h1, fun q hq => by simpa using h0 _ (List.getElem_mem hq), fun i hi => ?_, fun p q hp hq e => ?_, fun j o ho e he hb => ?_, fun p q hp hq e => ?_, fun q hq => h6 _ (List.getElem_mem hq), h7, fun i j oi oj t hi hj ti tj => ?_, fun i j oi oj t hi hj ti tj => ?_, fun q hq hn t ht j oj hj tj => ?_⟩
 ·obtain ⟨x, hx, e⟩ := h2 i (by simpa using hi)
  obtain ⟨q, hq, rfl⟩ := List.getElem_of_mem hx
  exact ⟨q, hq, e⟩
 ·have := h3 _ (rA hp) _ (rA hq)
  simp only [e, bne_self_eq_false, Bool.false_or, beq_iff_eq] at this
  exact this
 ·have := h4 _ (opm ho)
  have := Array.all_eq_true_iff_forall_mem.1 this e he
  simpa [hb] using this
 ·have h := h5 _ (rA hp) _ (rA hq)
  have e' : ((oC ops.toList).getD l[q].1 0).testBit l[p].1 = true := e
  simp only [e', Bool.not_true, Bool.false_or, Bool.or_eq_true, decide_eq_true_eq, Bool.and_eq_true] at h
  rcases h with h | ⟨g1, g2⟩
  ·exact .inl h
  ·refine .inr ⟨?_, ?_⟩
   ·revert g1; cases l[p].2 <;> simp
   ·revert g2; cases l[q].2 <;> simp
 ·have h := h8 _ (opm hi)
  rw [ti] at h
  simp only [Option.all_some, List.all_eq_true] at h
  have := h _ (opm hj)
  simpa [tj] using this
 ·have h := h9 _ (opm hi) t ti _ (opm hj)
  simp only [tj, bne_self_eq_false, Bool.false_or, Bool.or_eq_true, beq_iff_eq] at h
  rcases h with (h | h) | h
  ·exact .inl h
  ·exact .inr (.inl h)
  ·exact .inr (.inr h)
 ·have h : (!(l[q].2 matches .new) || (looks P G n names ops (ops.getD l[q].1 default)).all fun t => ops.toList.zipIdx.all fun x => x.1.dst != some t || Kk ops x.2 l[q].1) = true := h10 _ (List.getElem_mem hq)
  rw [hn] at h
  simp only [Bool.not_true, Bool.false_or, List.all_eq_true] at h
  have := h t ht _ (opm hj)
  simpa [tj] using this
variable {P : Program} {G : Gl} [NB G] {n : Nat} {names : List String} {ops : Array Oper} {p : Pg} {run : iP}
structure DS where
 r : A2
 h : Hp
 g : Hp
 hs : List Hp
def PA (p : Pg) (run : iP) (d : bX) (x : AI) (b : Bk) (wnt : Bool) (s s' : DS) (v : AV) : Prop :=
 s'.r = dg d v s.r ∧ match wnt, b with
  | false, .dZ => v = cM ∧ s'.h = s.h ∧ s'.g = s.h ∧ s'.hs = s.g :: s.hs
  | false, .rd _ => v = cM ∧ s'.h = s.h ∧ s'.g = s.g ∧ s'.hs = s.hs
  | false, .new => False
  | true, .dZ => x.res p run s.r s.h = .ok v s'.h ∧ s'.g = s'.h ∧ s'.hs = s.g :: s.hs
  | true, .rd m => ∃ op, x = .op op ∧ (∃ h', op.run s.r s.g = .ok v h') ∧ fy op s.r v s.hs m = true ∧ s'.h = s.h ∧ s'.g = s.g ∧ s'.hs = s.hs
  | true, .new => ∃ op, x = .op op ∧ op.run s.r s.h = .ok v s'.h ∧ s'.g = s.g ∧ s'.hs = s.hs
def NH (ops : Array Oper) (o : Oper) (r : A2) (wnt : Bool) : Prop := match o.guard with
 | none => wnt = true
 | some (j, w) => ∃ t b, (ops[j]?).bind (·.dst) = some t ∧ t < 256 ∧ gb w (aC (hi t) (lo t) r) = .bool b ∧ wnt = (b == w)
structure SP (P : Program) (G : Gl) (n : Nat) (names : List String) (ops : Array Oper) (p : Pg) (run : iP) (o : Oper) (b : Bk) (s s' : DS) (d : bX) (x : AI) (wnt : Bool) (v : AV) : Prop where
 dst : ou G n o.dst = some d
 op : cQ P G names o = some x
 want : NH ops o s.r wnt
 Eh : PA p run d x b wnt s s' v
theorem Ei {d : bX} {k : DK} {r : A2} {g : Hp} {hs : List Hp} {v : RT} (h : (mE d k r g hs v).Safe) : ∃ u h', v = .ok u h' ∧ mE d k r g hs v = k (dg d u r) h' h' (g :: hs) := by
 cases v with
 | ok u h' => exact ⟨u, h', rfl, rfl⟩
 | err m => exact (RS.Safe.err h).elim
 | ch m k => exact (RS.Safe.err h).elim
theorem Ej {d : bX} {op : nV} {m : Nat} {k : DK} {r : A2} {h g : Hp} {hs : List Hp} {v : RV} (hh : (ye d op m k r h g hs v).Safe) : ∃ u h', v = .ok u h' ∧ fy op r u hs m = true ∧ ye d op m k r h g hs v = k (dg d u r) h g hs := by
 cases v with
 | ok u h' =>
  have hh : (@Bool.rec (fun _ => RS) (.err 211) (k (dg d u r) h g hs) (fy op r u hs m)).Safe := hh
  show ∃ u' h2, RV.ok u h' = .ok u' h2 ∧ _ ∧ (@Bool.rec (fun _ => RS) (.err 211) (k (dg d u r) h g hs) (fy op r u hs m)) = _
  cases hr : fy op r u hs m with
  | false => rw [hr] at hh; exact (RS.Safe.err hh).elim
  | true => exact ⟨u, h', rfl, hr, rfl⟩
 | err m => exact (RS.Safe.err hh).elim
theorem Ek {d : bX} {k : DK} {r : A2} {g : Hp} {hs : List Hp} {v : RV} (h : (Gy d k r g hs v).Safe) : ∃ u h', v = .ok u h' ∧ Gy d k r g hs v = k (dg d u r) h' g hs := by
 cases v with
 | ok u h' => exact ⟨u, h', rfl, rfl⟩
 | err m => exact (RS.Safe.err h).elim
def DK.at (k : DK) (s : DS) : RS := k s.r s.h s.g s.hs
theorem vl {b : Bk} {d : bX} {x : AI} {k : DK} {s : DS} (h : (uq b d x p run k s.r s.h s.g s.hs).Safe) (hb : b = .dZ ∨ ∃ op, x = .op op) : ∃ v s', PA p run d x b true s s' v ∧ uq b d x p run k s.r s.h s.g s.hs = k.at s' := by
 have heff : ∀ {y : RT}, (mE d k s.r s.g s.hs y).Safe → uq .dZ d x p run k s.r s.h s.g s.hs = mE d k s.r s.g s.hs y → y = x.res p run s.r s.h → ∃ v s', PA p run d x .dZ true s s' v ∧ uq .dZ d x p run k s.r s.h s.g s.hs = k.at s' := by
  intro y hy e1 e2
  obtain ⟨u, h', g1, g2⟩ := Ei hy
  exact ⟨u, ⟨dg d u s.r, h', h', s.g :: s.hs⟩, ⟨rfl, e2 ▸ g1, rfl, rfl⟩, by rw [e1, g2]; rfl⟩
 cases x with
 | op o =>
  cases b with
  | dZ => exact heff (y := (o.run s.r s.h).nU) h rfl rfl
  | rd m =>
   obtain ⟨u, h', g1, g2, g3⟩ := Ej (show (ye d o m k s.r s.h s.g s.hs (o.run s.r s.g)).Safe from h)
   exact ⟨u, ⟨dg d u s.r, s.h, s.g, s.hs⟩, ⟨rfl, o, rfl, ⟨h', g1⟩, g2, rfl, rfl, rfl⟩, g3⟩
  | new =>
   obtain ⟨u, h', g1, g2⟩ := Ek (show (Gy d k s.r s.g s.hs (o.run s.r s.h)).Safe from h)
   exact ⟨u, ⟨dg d u s.r, h', s.g, s.hs⟩, ⟨rfl, o, rfl, g1, rfl, rfl⟩, g2⟩
 | KM c y =>
  rcases hb with rfl | ⟨_, e⟩
  ·exact heff (y := qx c (ev y s.r) s.h) h rfl rfl
  ·cases e
 | call f xs =>
  rcases hb with rfl | ⟨_, e⟩
  ·exact heff (y := aB p run f (fR xs s.r) s.h) h rfl rfl
  ·cases e
 | mO y xs =>
  rcases hb with rfl | ⟨_, e⟩
  ·exact heff (y := kY p run (ev y s.r) (fR xs s.r) s.h) h rfl rfl
  ·cases e
 | inv c y xs =>
  rcases hb with rfl | ⟨_, e⟩
  ·exact heff (y := aH p run c (ev y s.r) (fR xs s.r) s.h) h rfl rfl
  ·cases e
theorem LB {o : Oper} {b : Bk} {k : DK} {s : DS} (h : ((DI.mk b (py P G n names ops o)).exec p run k s.r s.h s.g s.hs).Safe)
  (hb : b = .dZ ∨ ∃ op, cQ P G names o = some (.op op)) :
  ∃ d x wnt v s', SP P G n names ops p run o b s s' d x wnt v ∧ (DI.mk b (py P G n names ops o)).exec p run k s.r s.h s.g s.hs = k.at s' := by
 have hbad : ¬ ((DI.mk b qz).exec p run k s.r s.h s.g s.hs).Safe := by
  intro hh
  cases b with
  | dZ => exact RS.Safe.err (n := 400) hh
  | rd m => exact RS.Safe.err (n := 400) hh
  | new => exact RS.Safe.err (n := 400) hh
 unfold py at h ⊢
 split at h
 ·rename_i d x hd hx
  have hb' : b = .dZ ∨ ∃ op, x = .op op := hb.imp id fun ⟨op, e⟩ => ⟨op, by rw [e] at hx; exact (Option.some.inj hx).symm⟩
  split at h
  ·rename_i hg
   obtain ⟨v, s', g1, g2⟩ := vl (show (uq b d x p run k s.r s.h s.g s.hs).Safe from h) hb'
   exact ⟨d, x, true, v, s', ⟨hd, hx, by simp [NH, hg], g1⟩, g2⟩
  ·rename_i j w hg
   split at h
   ·rename_i t ht
    split at h
    ·rename_i s2 hsl
     try simp only [hsl]
     obtain ⟨es2, ht256⟩ := GV hsl
     subst s2
     have h : (AV.bN (gb w (aC (hi t) (lo t) s.r)) (DL b d x k s.r s.h s.g s.hs p run w) (.err 212)).Safe := h
     show ∃ d' x' wnt v s', _ ∧ (AV.bN (gb w (aC (hi t) (lo t) s.r)) (DL b d x k s.r s.h s.g s.hs p run w) (.err 212)) = _
     obtain ⟨c, hc, e⟩ := gr h
     rw [e] at h ⊢
     have h : (@Bool.rec (fun _ => RS) (KQ b d k s.r s.h s.g s.hs) (uq b d x p run k s.r s.h s.g s.hs) (jW c w)).Safe := h
     show ∃ d' x' wnt v s', _ ∧ (@Bool.rec (fun _ => RS) (KQ b d k s.r s.h s.g s.hs) (uq b d x p run k s.r s.h s.g s.hs) (jW c w)) = _
     rw [wE] at h ⊢
     have hw : ∀ z, z = (c == w) → NH ops o s.r z := fun z hz => by
      simp only [NH, hg]; exact ⟨t, c, ht, ht256, hc, hz⟩
     cases hcw : (c == w) with
     | true =>
      rw [hcw] at h
      obtain ⟨v, s', g1, g2⟩ := vl (show (uq b d x p run k s.r s.h s.g s.hs).Safe from h) hb'
      exact ⟨d, x, true, v, s', ⟨hd, hx, hw _ hcw.symm, g1⟩, g2⟩
     | false =>
      rw [hcw] at h
      cases b with
      | dZ => exact ⟨d, x, false, cM, ⟨dg d cM s.r, s.h, s.h, s.g :: s.hs⟩, ⟨hd, hx, hw _ hcw.symm, ⟨rfl, rfl, rfl, rfl, rfl⟩⟩, rfl⟩
      | rd m => exact ⟨d, x, false, cM, ⟨dg d cM s.r, s.h, s.g, s.hs⟩, ⟨hd, hx, hw _ hcw.symm, ⟨rfl, rfl, rfl, rfl, rfl⟩⟩, rfl⟩
      | new => exact (RS.Safe.err (n := 214) h).elim
    ·exact absurd h hbad
   ·exact absurd h hbad
 ·exact absurd h hbad
theorem yF {kf : A2 → Hp → RS} : ∀ (l : List (Nat × Bk)) (s : DS), (∀ q (hq : q < l.length), l[q].2 = .dZ ∨ ∃ op, cQ P G names (ops.getD l[q].1 default) = some (.op op)) →
  (ox (aB p run) (aH p run) kf (l.map fun (i, b) => .mk b (py P G n names ops (ops.getD i default))) s.r s.h s.g s.hs).Safe →
  ∃ T : Nat → DS, T 0 = s ∧ (∀ q (hq : q < l.length), ∃ d x wnt v, SP P G n names ops p run (ops.getD l[q].1 default) l[q].2 (T q) (T (q + 1)) d x wnt v) ∧
   ox (aB p run) (aH p run) kf (l.map fun (i, b) => .mk b (py P G n names ops (ops.getD i default))) s.r s.h s.g s.hs = kf (T l.length).r (T l.length).h
 | [], s, _, _ => ⟨fun _ => s, rfl, fun q hq => by simp at hq, rfl⟩
 | (i, b) :: l, s, hb, h => by
  have e0 : ox (aB p run) (aH p run) kf (((i, b) :: l).map fun (i, b) => .mk b (py P G n names ops (ops.getD i default))) s.r s.h s.g s.hs =
   (DI.mk b (py P G n names ops (ops.getD i default))).exec p run (ox (aB p run) (aH p run) kf (l.map fun (i, b) => .mk b (py P G n names ops (ops.getD i default)))) s.r s.h s.g s.hs := yu _ _ _ _ _ _
  rw [e0] at h
  obtain ⟨d, x, wnt, v, s', g1, g2⟩ := LB h (hb 0 (by simp))
  rw [g2] at h
  obtain ⟨T, t1, t2, t3⟩ := yF l s' (fun q hq => hb (q + 1) (by simpa using hq)) h
  refine ⟨fun q => match q with | 0 => s | q + 1 => T q, rfl, fun q hq => ?_, ?_⟩
  ·cases q with
   | zero => exact ⟨d, x, wnt, v, by simpa [t1] using g1⟩
   | succ q => exact t2 q (by simpa using hq)
  ·rw [e0, g2]
   exact t3
section
variable {P : Program} {G : Gl} [NB G] {n : Nat} {names : List String} {ops : Array Oper} {p : Pg} {run : iP} {l : List (Nat × Bk)}
def cn (ops : Array Oper) (l : List (Nat × Bk)) (q : Nat) (hq : q < l.length) : Oper := ops.getD l[q].1 default
def Trace (P : Program) (G : Gl) (n : Nat) (names : List String) (ops : Array Oper) (p : Pg) (run : iP) (l : List (Nat × Bk)) (T : Nat → DS) : Prop :=
 ∀ q (hq : q < l.length), ∃ d x wnt v, SP P G n names ops p run (cn ops l q hq) l[q].2 (T q) (T (q + 1)) d x wnt v
theorem dn (K : Eg P G n names ops l) {q : Nat} (hq : q < l.length) : ops[l[q].1]? = some (cn ops l q hq) := by
 have := K.RE q hq
 simp [cn, this]
def ec (l : List (Nat × Bk)) (q : Nat) : Nat := (cw (l.take q)).length
theorem CJ : ec l 0 = 0 := rfl
theorem gi {q : Nat} (hq : q < l.length) : cw (l.take (q + 1)) = dA (cw (l.take q)) l[q] := by
 rw [List.take_succ_eq_append_getElem hq, qC]
theorem nz {q : Nat} (hq : q < l.length) (he : l[q].2 = .dZ) : ec l (q + 1) = ec l q + 1 := by
 unfold ec; rw [gi hq]; simp [dA, he]
theorem pB {q : Nat} (hq : q < l.length) (he : l[q].2 ≠ .dZ) : ec l (q + 1) = ec l q := by
 unfold ec; rw [gi hq]
 cases hb : l[q].2 with
 | dZ => exact absurd hb he
 | rd m => simp [dA, hb]
 | new => simp [dA, hb]
theorem jc : ∀ {q q' : Nat}, q ≤ q' → q' ≤ l.length → ec l q ≤ ec l q' := by
 intro q q' h hl
 induction h with
 | refl => exact Nat.le_refl _
 | @step m h ih =>
  have ih := ih (by omega)
  by_cases he : (l[m]'(by omega)).2 = .dZ
  ·rw [nz (by omega) he]; omega
  ·rw [pB (by omega) he]; exact ih
theorem yG {q q' : Nat} (h : q < q') (hl : q' ≤ l.length) (he : (l[q]'(by omega)).2 = .dZ) : ec l q < ec l q' := by
 have := jc (l := l) (show q + 1 ≤ q' by omega) hl
 rw [nz (by omega) he] at this; omega
theorem oG : ∀ {q' k : Nat}, q' ≤ l.length → k < ec l q' → ∃ q, ∃ hq : q < l.length, q < q' ∧ l[q].2 = .dZ ∧ ec l q = k := by
 intro q' k hl hk
 induction q' with
 | zero => rw [CJ] at hk; omega
 | succ m ih =>
  by_cases he : (l[m]'(by omega)).2 = .dZ
  ·rw [nz (by omega) he] at hk
   rcases Nat.lt_or_ge k (ec l m) with g | g
   ·obtain ⟨q, hq, h1, h2, h3⟩ := ih (by omega) g
    exact ⟨q, hq, by omega, h2, h3⟩
   ·exact ⟨m, by omega, by omega, he, by omega⟩
  ·rw [pB (by omega) he] at hk
   obtain ⟨q, hq, h1, h2, h3⟩ := ih (by omega) hk
   exact ⟨q, hq, by omega, h2, h3⟩
theorem yH : ∀ {q' q : Nat} (hl : q' ≤ l.length) (h : q < q'), (l[q]'(by omega)).2 = .dZ → (cw (l.take q'))[ec l q' - 1 - ec l q]? = some (l[q]'(by omega)).1 := by
 intro q' q hl h he
 induction q' with
 | zero => omega
 | succ m ih =>
  rw [gi (by omega)]
  by_cases hem : (l[m]'(by omega)).2 = .dZ
  ·rw [nz (by omega) hem]
   have e1 : dA (cw (l.take m)) (l[m]'(by omega)) = (l[m]'(by omega)).1 :: cw (l.take m) := by simp [dA, hem]
   rw [e1]
   rcases Nat.lt_or_ge q m with g | g
   ·have h1 := yG g (by omega) he
    have := ih (by omega) g he
    rw [show ec l m + 1 - 1 - ec l q = (ec l m - 1 - ec l q) + 1 by omega, List.getElem?_cons_succ]
    exact this
   ·obtain rfl : q = m := by omega
    simp
  ·rw [pB (by omega) hem]
   have e1 : dA (cw (l.take m)) (l[m]'(by omega)) = cw (l.take m) := by
    cases hb : (l[m]'(by omega)).2 with
    | dZ => exact absurd hb hem
    | rd m => simp [dA, hb]
    | new => simp [dA, hb]
   rw [e1]
   rcases Nat.lt_or_ge q m with g | g
   ·exact ih (by omega) g he
   ·obtain rfl : q = m := by omega
    exact absurd he hem
theorem PB (K : Eg P G n names ops l) {q q' : Nat} (hq : q < l.length) (hq' : q' < l.length) (h : q < q') (he : l[q].2 = .dZ) (he' : l[q'].2 = .dZ) : Bf ops l[q].1 l[q'].1 := by
 have := (oE l [] true K.seq List.Pairwise.nil q' hq').1 he'
 refine this _ ?_
 simp only [List.nil_append]
 exact List.mem_of_getElem? (yH (by omega) h he)
theorem RH (K : Eg P G n names ops l) {q : Nat} (hq : q < l.length) {m : Nat} (hb : l[q].2 = .rd m) : m ≤ ec l q ∧ ∀ q1 (h1 : q1 < q), (l[q1]'(by omega)).2 = .dZ → ec l q1 < ec l q - m → Bf ops (l[q1]'(by omega)).1 l[q].1 := by
 obtain ⟨g1, g2⟩ := (oE l [] true K.seq List.Pairwise.nil q hq).2.1 m hb
 simp only [List.nil_append] at g1 g2
 refine ⟨g1, fun q1 h1 he hlt => g2 _ ?_⟩
 have := yH (by omega) h1 he
 refine List.mem_of_getElem? (i := ec l q - 1 - ec l q1 - m) ?_
 rw [List.getElem?_drop]
 rw [show m + (ec l q - 1 - ec l q1 - m) = ec l q - 1 - ec l q1 by omega]
 exact this
theorem CL (K : Eg P G n names ops l) {q q2 : Nat} (hq : q < l.length) (hq2 : q2 < l.length) (h : q < q2) (hb : l[q].2 ≠ .dZ) (he : l[q2].2 = .dZ) : Bf ops l[q].1 l[q2].1 :=
 (oE l [] true K.seq List.Pairwise.nil q hq).2.2 hb q2 hq2 h he
variable {T : Nat → DS}
theorem PC (hT : Trace P G n names ops p run l T) (h0 : (T 0).hs = []) : ∀ q, q ≤ l.length → (T q).hs.length = ec l q := by
 intro q hq
 induction q with
 | zero => rw [h0]; rfl
 | succ q ih =>
  have ih := ih (by omega)
  obtain ⟨d, x, wnt, v, D⟩ := hT q (by omega)
  have hs := D.Eh.2
  cases hb : (l[q]'(by omega)).2 with
  | dZ =>
   rw [hb] at hs
   rw [nz (by omega) hb]
   cases wnt with
   | true => rw [hs.2.2]; simp [ih]
   | false => rw [hs.2.2.2]; simp [ih]
  | rd m =>
   rw [hb] at hs
   rw [pB (by omega) (by simp [hb])]
   cases wnt with
   | true => obtain ⟨_, _, _, _, _, _, e⟩ := hs; rw [e]; exact ih
   | false => rw [hs.2.2.2]; exact ih
  | new =>
   rw [hb] at hs
   rw [pB (by omega) (by simp [hb])]
   cases wnt with
   | true => obtain ⟨_, _, _, _, e⟩ := hs; rw [e]; exact ih
   | false => exact hs.elim
theorem LC (hT : Trace P G n names ops p run l T) {q : Nat} (hq : q < l.length) : (T q).g :: (T q).hs <:+ (T (q + 1)).g :: (T (q + 1)).hs := by
 obtain ⟨d, x, wnt, v, D⟩ := hT q hq
 have hs := D.Eh.2
 cases hb : (l[q]'(by omega)).2 with
 | dZ =>
  rw [hb] at hs
  cases wnt with
  | true => rw [hs.2.2]; exact List.suffix_cons _ _
  | false => rw [hs.2.2.2]; exact List.suffix_cons _ _
 | rd m =>
  rw [hb] at hs
  cases wnt with
  | true => obtain ⟨_, _, _, _, _, e1, e2⟩ := hs; rw [e1, e2]; exact List.suffix_refl _
  | false => rw [hs.2.2.1, hs.2.2.2]; exact List.suffix_refl _
 | new =>
  rw [hb] at hs
  cases wnt with
  | true => obtain ⟨_, _, _, e1, e2⟩ := hs; rw [e1, e2]; exact List.suffix_refl _
  | false => exact hs.elim
theorem El (hT : Trace P G n names ops p run l T) {q : Nat} : ∀ {q' : Nat}, q ≤ q' → q' ≤ l.length → (T q).g :: (T q).hs <:+ (T q').g :: (T q').hs := by
 intro q' h hl
 induction h with
 | refl => exact List.suffix_refl _
 | @step m h ih => exact (ih (by omega)).trans (LC hT (by omega))
def bh (l : List (Nat × Bk)) (T : Nat → DS) (k : Nat) : Hp := (((T l.length).g :: (T l.length).hs).reverse[k]?).getD (T 0).h
theorem Hv (hT : Trace P G n names ops p run l T) (h0 : (T 0).hs = []) {q : Nat} (hq : q ≤ l.length) {j : Nat} (hj : j ≤ ec l q) : ((T q).g :: (T q).hs)[j]? = some (bh l T (ec l q - j)) := by
 obtain ⟨ys, e⟩ := El hT hq (Nat.le_refl _)
 have hlen := PC hT h0 q hq
 have hrev : ((T l.length).g :: (T l.length).hs).reverse = ((T q).g :: (T q).hs).reverse ++ ys.reverse := by rw [← e, List.reverse_append]
 have hl2 : ((T q).g :: (T q).hs).length = ec l q + 1 := by simp [hlen]
 unfold bh
 rw [hrev, List.getElem?_append_left (by rw [List.length_reverse, hl2]; omega), List.getElem?_reverse (by rw [hl2]; omega), hl2]
 rw [show ec l q + 1 - 1 - (ec l q - j) = j by omega]
 rw [List.getElem?_eq_getElem (by rw [hl2]; omega)]
 rfl
theorem LD (hT : Trace P G n names ops p run l T) (h0 : (T 0).hs = []) {q : Nat} (hq : q ≤ l.length) : bh l T (ec l q) = (T q).g := by
 have := Hv hT h0 hq (j := 0) (by omega)
 simpa using this.symm
theorem RI (hT : Trace P G n names ops p run l T) (h0 : (T 0).hs = []) {q : Nat} (hq : q ≤ l.length) {j : Nat} (hj : j < ec l q) : (T q).hs[j]? = some (bh l T (ec l q - 1 - j)) := by
 have := Hv hT h0 hq (j := j + 1) (by omega)
 rw [List.getElem?_cons_succ] at this
 rw [this, show ec l q - (j + 1) = ec l q - 1 - j by omega]
theorem yI (hT : Trace P G n names ops p run l T) (h0 : (T 0).g = (T 0).h) : ∀ q, q ≤ l.length → ∃ s, s ≤ q ∧ ec l s = ec l q ∧ (T s).h = (T s).g ∧ (∀ q' (h1 : s ≤ q') (h2 : q' < q) (h3 : q' < l.length), l[q'].2 ≠ .dZ) ∧ ∀ q', q' < s → ec l q' < ec l s := by
 intro q hq
 induction q with
 | zero => exact ⟨0, Nat.le_refl _, rfl, h0.symm, fun q' h1 h2 => by omega, fun q' h1 => by omega⟩
 | succ q ih =>
  by_cases he : (l[q]'(by omega)).2 = .dZ
  ·refine ⟨q + 1, Nat.le_refl _, rfl, ?_, fun q' h1 h2 => by omega, fun q' h1 => by have := jc (l := l) (show q' ≤ q by omega) (by omega); rw [nz (by omega) he]; omega⟩
   obtain ⟨d, x, wnt, v, D⟩ := hT q (by omega)
   have hs := D.Eh.2
   rw [he] at hs
   cases wnt with
   | true => exact hs.2.1.symm
   | false => rw [hs.2.1, hs.2.2.1]
  ·obtain ⟨s, g1, g2, g3, g4, g5⟩ := ih (by omega)
   refine ⟨s, by omega, by rw [pB (by omega) he]; exact g2, g3, fun q' h1 h2 h3 => ?_, g5⟩
   rcases Nat.lt_or_ge q' q with g | g
   ·exact g4 q' h1 g h3
   ·obtain rfl : q' = q := by omega
    exact he
theorem Hw (hT : Trace P G n names ops p run l T) {q : Nat} (hq : q < l.length) {t : Nat} (ht : t < 256) (hd : (cn ops l q hq).dst ≠ some t) : aC (hi t) (lo t) (T (q + 1)).r = aC (hi t) (lo t) (T q).r := by
 obtain ⟨d, x, wnt, v, D⟩ := hT q hq
 rw [D.Eh.1]
 have hdst := D.dst
 cases ho : (cn ops l q hq).dst with
 | none => rw [ho] at hdst; cases hdst; rfl
 | some s =>
  rw [ho] at hdst hd
  obtain ⟨h1, h2, rfl⟩ := rZ hdst
  show aC (hi t) (lo t) (rM (hi s) (lo s) v (T q).r) = _
  rw [gZ, if_neg (fun g => hd (by rw [(GW ht h1).1 g]))]
theorem yJ (hT : Trace P G n names ops p run l T) {q t : Nat} (ht : t < 256) : ∀ {q' : Nat}, q ≤ q' → q' ≤ l.length → (∀ q1 (h1 : q ≤ q1) (h2 : q1 < q') (h3 : q1 < l.length), (cn ops l q1 h3).dst ≠ some t) → aC (hi t) (lo t) (T q').r = aC (hi t) (lo t) (T q).r := by
 intro q' h hl hw
 induction h with
 | refl => rfl
 | @step m h ih =>
  rw [Hw hT (by omega) ht (hw m h (by omega) (by omega))]
  exact ih (by omega) fun q1 h1 h2 h3 => hw q1 h1 (by omega) h3
theorem Hx (K : Eg P G n names ops l) (hT : Trace P G n names ops p run l T) {q t : Nat} (hq : q ≤ l.length) (ht : t < 256) :
  (∀ q1 (h1 : q1 < l.length), (cn ops l q1 h1).dst = some t → q1 < q → aC (hi t) (lo t) (T q).r = aC (hi t) (lo t) (T (q1 + 1)).r) ∧
  ((∀ q1 (h1 : q1 < l.length), (cn ops l q1 h1).dst = some t → ¬ q1 < q) → aC (hi t) (lo t) (T q).r = aC (hi t) (lo t) (T 0).r) := by
 have uniq : ∀ q1 q2 (h1 : q1 < l.length) (h2 : q2 < l.length), (cn ops l q1 h1).dst = some t → (cn ops l q2 h2).dst = some t → q1 = q2 := fun q1 q2 h1 h2 e1 e2 =>
  K.inj q1 q2 h1 h2 (K.dst _ _ _ _ t (dn K h1) (dn K h2) e1 e2)
 constructor
 ·intro q1 h1 e1 hlt
  refine yJ hT ht (by omega) hq fun q2 g1 g2 g3 e2 => ?_
  have := uniq q1 q2 h1 g3 e1 e2
  omega
 ·intro hno
  exact yJ hT ht (by omega) hq fun q2 g1 g2 g3 e2 => hno q2 g3 e2 g2
theorem vm {op : nV} {r : A2} {v : AV} : ∀ {hs : List Hp} {m : Nat}, fy op r v hs m = true → ∀ j, j < m → ∃ hj, hs[j]? = some hj ∧ ∃ h', op.run r hj = .ok v h'
 | [], 0, _, j, hj => by omega
 | [], m + 1, e, _, _ => by cases e
 | h :: hs, 0, _, j, hj => by omega
 | h :: hs, m + 1, e, j, hj => by
  have e : (RV.rec (fun v' _ => @Bool.rec (fun _ => Bool) false (fy op r v hs m) (same v v')) (fun _ => false) (op.run r h) : Bool) = true := e
  cases ho : op.run r h with
  | err k => rw [ho] at e; cases e
  | ok v' h' =>
   rw [ho] at e
   obtain ⟨e1, e2⟩ := ez e
   cases j with
   | zero => exact ⟨h, rfl, h', by rw [ho, rp e1]⟩
   | succ j =>
    obtain ⟨hj', g1, g2⟩ := vm e2 j (by omega)
    exact ⟨hj', by simpa using g1, g2⟩
end
section
variable {P : Program} {φ φ' : aU} {h h' : Hp} {w w' : World} {v : AV} {n : Nat} {G : Gl} {names : List String}
theorem HR.RJ (H : HR φ h w) {o : Obj} {b room : Nat} {i n' : P4} (hi : ah i h = .none) (ho : o ≠ .none) (hb : b < w.heap.size) (hfree : ∀ j q, live (ah j h) → φ j = some q → q.gI ≠ b)
  (hOR : OR (φ.put i ⟨b, 0, room⟩) o ⟨b, 0, room⟩ w.heap[b]?) : HR (φ.put i ⟨b, 0, room⟩) (.mk (dy i o h.tree) n') w := by
 have hφ := H.fresh i hi
 have hle := aU.lE (φ := φ) (i := i) ⟨b, 0, room⟩ hφ
 have hg : ∀ j, ah j (.mk (dy i o h.tree) n') = if j = i then o else ah j h := by
  intro j
  cases h with
  | mk t n => exact dq j i o t
 have hbk : ∀ j q, j ≠ i → (φ.put i ⟨b, 0, room⟩) j = some q → φ j = some q := by
  intro j q hj hq
  simpa [aU.put, hj] using hq
 refine ⟨fun j hj => ?_, fun j k q r hj hk hw2 hjk hq hr => ?_, fun j hj => ?_, fun j q hq => ?_⟩
 ·rw [hg] at hj ⊢
  by_cases e : j = i
  ·subst e
   refine ⟨_, aU.aX _ _ _, ?_⟩
   rw [if_pos rfl]; exact hOR
  ·rw [if_neg e] at hj ⊢
   obtain ⟨q, hq, hr⟩ := H.obj j hj
   exact ⟨q, hle _ _ hq, hr.mono hle⟩
 ·rw [hg] at hj hk
  by_cases e1 : j = i
  ·by_cases e2 : k = i
   ·exact absurd (e1.trans e2.symm) hjk
   ·rw [if_neg e2] at hk
    have hr' := hbk k r e2 hr
    have hq' : q = ⟨b, 0, room⟩ := by rw [e1, aU.aX] at hq; exact (Option.some.inj hq).symm
    rw [hq']; exact fun e => hfree k r hk hr' e.symm
  ·rw [if_neg e1] at hj
   have hq' := hbk j q e1 hq
   by_cases e2 : k = i
   ·have hr' : r = ⟨b, 0, room⟩ := by rw [e2, aU.aX] at hr; exact (Option.some.inj hr).symm
    rw [hr']; exact hfree j q hj hq'
   ·rw [if_neg e2] at hk
    rw [hg, hg, if_neg e1, if_neg e2] at hw2
    exact H.inj j k q r hj hk hw2 hjk hq' (hbk k r e2 hr)
 ·rw [hg] at hj
  by_cases e : j = i
  ·rw [if_pos e] at hj; exact absurd hj ho
  ·rw [if_neg e] at hj
   show (if j = i then some _ else φ j) = none
   rw [if_neg e]; exact H.fresh j hj
 ·by_cases e : j = i
  ·have hq' : q = ⟨b, 0, room⟩ := by rw [e, aU.aX] at hq; exact (Option.some.inj hq).symm
   rw [hq']; exact hb
  ·exact H.bound j q (hbk j q e hq)
theorem HR.ext (H : HR φ h w) (hs : w.heap.size ≤ w'.heap.size) (hk : ∀ b, b < w.heap.size → w'.heap[b]? = w.heap[b]?) : HR φ h w' where
 obj i hl := let ⟨p, h1, h2⟩ := H.obj i hl; ⟨p, h1, by rw [hk _ (H.bound i p h1)]; exact h2⟩
 inj := H.inj
 fresh := H.fresh
 bound i p hp := Nat.lt_of_lt_of_le (H.bound i p hp) hs
theorem Step.ext (hs : w.heap.size ≤ w'.heap.size) (hk : ∀ b, b < w.heap.size → w'.heap[b]? = w.heap[b]?) (ht : w'.tape = w.tape) (ho : w'.os = w.os) (hu : w'.output = w.output) : Step φ h w φ h w' :=
 ⟨φ.le_refl, ⟨hs, fun b hb _ => hk b hb, ht, ho, hu⟩, fun _ _ a b => .inl ⟨a, b, id⟩⟩
structure uw (φ : aU) (r : A2) (op : nV) (ob : Go.Obj) (room : Nat) (val : Nat → Value) : Prop where
 am : ∀ h v h', op.run r h = .ok v h' → ∃ obj, h' = .mk (dy h.next obj h.tree) h.next.succ ∧ ah h.next h = .none ∧ live obj ∧ (∀ ψ b, φ.le ψ → OR ψ obj ⟨b, 0, room⟩ (some ob)) ∧ ∀ ψ b, ψ h.next = some ⟨b, 0, room⟩ → VR ψ v (val b)
theorem uw.mono {φ ψ : aU} {r : A2} {op : nV} {ob : Go.Obj} {room : Nat} {val : Nat → Value} (N : uw φ r op ob room val) (g : φ.le ψ) : uw ψ r op ob room val :=
 ⟨fun h v h' e => let ⟨obj, a, b, c, d, f⟩ := N.am h v h' e; ⟨obj, a, b, c, fun χ bb k => d χ bb (aU.le_trans g k), f⟩⟩
def LF (P : Program) (ρ : Operand → Value) (o : Oper) (ob : Go.Obj) (val : Nat → Value) : Prop := ∀ w : World, (execOp ρ o).run P w = .ok (.value (val w.heap.size)) { w with heap := w.heap.push ob }
variable {r : A2} {ρ : Operand → Value}
theorem Em {o : Oper} {e m : Nat} {c : Cl} (hop : cQ P G names o = some (.op (.alloc e m c))) : ∃ ob room val, uw φ r (.alloc e m c) ob room val ∧ LF P ρ o ob val := by
 have hin : ∃ z, o.op = .alloc e ∧ gv P e = some z ∧ m = z.length ∧ c = ng z := by
  obtain ⟨dst, y, type, pos, after, guard⟩ := o
  simp only [cQ] at hop
  split at hop
  case h_4 =>
   simp only [bind, Option.bind_eq_some_iff, Option.some.injEq, AI.op.injEq, nV.alloc.injEq] at hop
   obtain ⟨z, hz, rfl, rfl, rfl⟩ := hop
   exact ⟨z, rfl, hz, rfl, rfl⟩
  case h_21 =>
   split at hop
   ·simp only [bind, Option.bind_eq_some_iff] at hop
    obtain ⟨fd, _, hop⟩ := hop
    split at hop
    ·simp at hop
    ·split at hop <;> simp [Option.bind_eq_some_iff] at hop
   ·cases hop
  case h_32 c' =>
   simp only [bind, Option.bind_eq_some_iff] at hop
   obtain ⟨ys, hys, hop⟩ := hop
   split at hop
   ·simp only [Option.map_eq_some_iff, AI.op.injEq] at hop
    obtain ⟨op, ho, rfl⟩ := hop
    unfold jJ at ho
    split at ho <;> (repeat' split at ho) <;> simp [Option.bind_eq_some_iff] at ho
   ·cases hop
   ·simp [Option.bind_eq_some_iff] at hop
   ·simp [Option.bind_eq_some_iff] at hop
  all_goals (repeat' split at hop) <;> simp [Option.bind_eq_some_iff, Option.map_eq_some_iff] at hop
 obtain ⟨z, ho, hz, rfl, rfl⟩ := hin
 obtain ⟨inf, zv, h1, h2, _, _⟩ := jK hz (fun _ => none)
 refine ⟨.cells zv.cells e, z.length, fun b => .pointer (some ⟨b, 0, none⟩), ⟨fun h v h' he => ?_⟩, fun w => ?_⟩
 case refine_2 => simp [execOp, ho, Instr.alloc, newVar, eC, zeroValue, dS h1, h2]
 ·obtain ⟨hr, hi, he⟩ := kH (show ij e true .plain z.length (ng z) h um = .ok v h' from he)
  obtain ⟨rfl, rfl⟩ := CM he
  refine ⟨_, rfl, hi, aY, fun ψ b _ => ?_, fun ψ b hb => ?_⟩
  ·obtain ⟨inf', zv', h1', h2', g1, g2⟩ := jK hz ψ
   rw [h1] at h1'; cases h1'
   rw [h2] at h2'; cases h2'
   have hl := g1.length
   simp only [Array.length_toList] at hl
   refine ⟨zv.cells, (0, 0), rfl, by simp [hl], Nat.le_refl _, fun _ => ⟨rfl, rfl⟩, hr, fun k hk => ?_, rfl⟩
   have hk' : k < zv.cells.size := by omega
   refine ⟨zv.cells[k], by simp [hk'], ?_, g2 _ (by simp)⟩
   rw [eT z hr k hk]
   have := g1.get k hk (by simpa using hk')
   simpa using this
  ·have := VR.ptr (φ := ψ) h.next 0 _ hb
   simpa [Place.addr] using this
theorem LG {o : Oper} (hop : cQ P G names o = some (.op .oh)) (hc : ∀ c, ρ (.const c) = c) : ∃ ob room val, uw φ r .oh ob room val ∧ LF P ρ o ob val := by
 have hin : ∃ t re, o.op = .makeMap t re ∧ (re = none ∨ ∃ k m a b, re = some (.const (.int k m)) ∧ P.underlying t = some (.map a b)) := by
  obtain ⟨dst, y, type, pos, after, guard⟩ := o
  simp only [cQ] at hop
  split at hop
  case h_16 => exact ⟨_, _, rfl, .inl rfl⟩
  case h_17 =>
   split at hop
   ·rename_i hu
    exact ⟨_, _, rfl, .inr ⟨_, _, _, _, rfl, ar hu (by simp)⟩⟩
   ·cases hop
  case h_21 =>
   split at hop
   ·simp only [bind, Option.bind_eq_some_iff] at hop
    obtain ⟨fd, _, hop⟩ := hop
    split at hop
    ·simp at hop
    ·split at hop <;> simp [Option.bind_eq_some_iff] at hop
   ·cases hop
  case h_32 c' =>
   simp only [bind, Option.bind_eq_some_iff] at hop
   obtain ⟨ys, hys, hop⟩ := hop
   split at hop
   ·simp only [Option.map_eq_some_iff, AI.op.injEq] at hop
    obtain ⟨op, ho, rfl⟩ := hop
    unfold jJ at ho
    split at ho <;> (repeat' split at ho) <;> simp [Option.bind_eq_some_iff] at ho
   ·cases hop
   ·simp [Option.bind_eq_some_iff] at hop
   ·simp [Option.bind_eq_some_iff] at hop
  all_goals (repeat' split at hop) <;> simp [Option.bind_eq_some_iff, Option.map_eq_some_iff] at hop
 obtain ⟨t, re, ho, hre⟩ := hin
 have hno : ∀ w : World, (newObj (.map #[] 0)).run P w = .ok w.heap.size { w with heap := w.heap.push (.map #[] 0) } := fun w => run_newObj _
 refine ⟨.map #[] 0, 0, fun b => .map (some b), ⟨fun h v h' he => ?_⟩, fun w => ?_⟩
 case refine_2 =>
  rcases hre with rfl | ⟨k, m, a, b, rfl, hu⟩
  ·simp [execOp, ho, Instr.makeMap, hno]
  ·have ha : (asInt (.int k m)).run P w = .ok m w := rfl
   simp [execOp, ho, Instr.makeMap, hno, hc, az hu, ha]
 ·obtain ⟨hi, he⟩ := pC (show nd (.map .nil 0) h (fun i h => .ok (.map i) h) = .ok v h' from he)
  obtain ⟨rfl, rfl⟩ := RV.aA he
  exact ⟨_, rfl, hi, yK, fun ψ b _ => ⟨#[], rfl, .nil⟩, fun ψ b hb => .map _ _ hb⟩
theorem AQ {o : Oper} {e es m : Nat} {z : List AV} {ps : List Part} (hop : cQ P G names o = some (.op (.cG e es m z ps))) : ∃ t k qs, o.op = .buildSlice t k qs := by
 obtain ⟨dst, y, type, pos, after, guard⟩ := o
 simp only [cQ] at hop
 split at hop
 case h_7 => exact ⟨_, _, _, rfl⟩
 case h_21 =>
  split at hop
  ·simp only [bind, Option.bind_eq_some_iff] at hop
   obtain ⟨fd, _, hop⟩ := hop
   split at hop
   ·simp at hop
   ·split at hop <;> simp [Option.bind_eq_some_iff] at hop
  ·cases hop
 case h_32 c' =>
  simp only [bind, Option.bind_eq_some_iff] at hop
  obtain ⟨ys, hys, hop⟩ := hop
  split at hop
  ·simp only [Option.map_eq_some_iff, AI.op.injEq] at hop
   obtain ⟨op, ho, rfl⟩ := hop
   unfold jJ at ho
   split at ho <;> (repeat' split at ho) <;> simp [Option.bind_eq_some_iff] at ho
  ·cases hop
  ·simp [Option.bind_eq_some_iff] at hop
  ·simp [Option.bind_eq_some_iff] at hop
 all_goals (repeat' split at hop) <;> simp [Option.bind_eq_some_iff, Option.map_eq_some_iff] at hop
theorem PD {t e : TypeId} {zs : List AV} (ht : P.underlying t = some (.slice e)) (hz : gv P e = some zs) (hzl : zs.length = bH P e) (hes : bH P e ≠ 0) {n : Nat} {ps : List Part} {qs : List (Nat × Value)} (hl : ps.length = qs.length)
  (hp : ∀ k (h1 : k < ps.length) (h2 : k < qs.length), sI φ r (fun i => some (i * bH P e, bH P e)) ps[k] qs[k])
  (hb : ∀ p, p ∈ ps → match p with | .mk off sz _ => off + sz ≤ n * bH P e) (hf : fits ps r = true) (hr : (fill ps r (fc n zs)).length ≤ 16777216) :
  ∃ es : List Value, cU φ (fill ps r (fc n zs)) es ∧ (∀ c, c ∈ es → c.oneCell' = true) ∧ ∀ w : World, (Instr.buildSlice t n qs.toArray).run P w = .ok (.slice (some ⟨w.heap.size, 0, none⟩) n n) { w with heap := w.heap.push (.cells es.toArray e) } := by
 obtain ⟨i, zv, hi, hzv, g1, g2⟩ := jK hz φ
 rw [de hi] at hzl hes hp hb
 have hzs : zv.cells.size = i.size := by rw [← hzl, g1.length]; simp
 obtain ⟨k1, k2⟩ := jv g1 g2 n (n * i.size) (by rw [hzs])
 have hlen : ((Array.range (n * i.size)).map (zv.cells[· % zv.cells.size]!)).toList.length = n * i.size := by simp
 obtain ⟨es, f1, f2, f3⟩ := sJ ps qs (fc n zs) ((Array.range (n * i.size)).map (zv.cells[· % zv.cells.size]!)).toList hl hp hf (fun p hp' => by have := hb p hp'; rw [hlen]; exact this) k1 k2
 rw [lF, gw, hzl] at hr
 refine ⟨es, f2, f3, fun w => ?_⟩
 have hbig : ¬ (16777216 < n * i.size) := by omega
 by_cases h0 : n * i.size = 0
 ·have hn0 : n = 0 := by
   rcases Nat.mul_eq_zero.1 h0 with g | g
   ·exact g
   ·exact absurd g hes
  subst hn0
  have hh : ((Array.range (0 * i.size)).map (zv.cells[· % zv.cells.size]!)).toList.toArray = #[] := by simp
  rw [hh] at f1
  have hh2 : ∀ g : Nat → Value, (Array.range 0).map g = #[] := by intro g; simp
  simp only [Instr.buildSlice, Sem.run_bind, az ht, Result.andThen_ok, bG hi]
  simp only [Nat.zero_mul, hh2, f1]
  simp [eC]
 ·have f1' : Instr.fill (fun i_1 => some (i_1 * i.size, i.size)) ((Array.range (n * i.size)).map (zv.cells[· % zv.cells.size]!)) qs = some es.toArray := f1
  simp only [Instr.buildSlice, Sem.run_bind, az ht, Result.andThen_ok, bG hi]
  rw [if_neg hbig]
  simp only [h0, if_false, zeroValue, Sem.run_bind, dS hi, hzv, Result.andThen_ok, Sem.run_pure, f1', eC]
theorem AR {o : Oper} {e es m : Nat} {z : List AV} {ps : List Part} (hop : cQ P G names o = some (.op (.cG e es m z ps))) (hρ : ∀ q x, cO G q = some x → VR φ (ev x r) (ρ q)) {h1 h2 : Hp} {v1 : AV} (he : (nV.cG e es m z ps).run r h1 = .ok v1 h2) :
  ∃ ob room val, uw φ r (.cG e es m z ps) ob room val ∧ LF P ρ o ob val := by
 obtain ⟨t, k, qs, ho⟩ := AQ hop
 obtain ⟨dst, y, type, pos, after, guard⟩ := o
 have ho : y = .buildSlice t k qs := ho
 subst ho
 simp only [cQ] at hop
 split at hop
 ·rename_i e' hu
  simp only [bind, Option.bind_eq_some_iff] at hop
  obtain ⟨zs, hz, hop⟩ := hop
  split at hop
  ·simp at hop
  ·rename_i hs
   simp only [not_or, Decidable.not_not] at hs
   simp only [bind, pure, Option.bind_some, Option.bind_eq_some_iff, Option.some.injEq, AI.op.injEq, nV.cG.injEq] at hop
   obtain ⟨l, hl, rfl, rfl, rfl, rfl, rfl⟩ := hop
   obtain ⟨g1, g2, g3⟩ := jL (φ := φ) (r := r) (ρ := ρ) hl (fun q _ a ha => hρ _ _ ha)
   have he : gp e' (bH P e') k (fc k zs) l r h1 = .ok v1 h2 := he
   obtain ⟨hf, he1⟩ := aG he
   have hr := rB (show ij e' true .plain (fill l r (fc k zs)).length (ng (fill l r (fc k zs))) h1 (fun i h => .ok (.slice i 0 k k) h) = .ok v1 h2 from he1)
   obtain ⟨cs, f2, f3, f4⟩ := PD (ar hu (by simp)) hz hs.2 hs.1 (by simpa using g1) g2 g3 hf hr
   have hlen := f2.length
   refine ⟨.cells cs.toArray e', cs.length, fun b => .slice (some ⟨b, 0, none⟩) k k, ⟨fun h v h' hx => ?_⟩, fun w => ?_⟩
   ·have hx : gp e' (bH P e') k (fc k zs) l r h = .ok v h' := hx
    obtain ⟨_, hx1⟩ := aG hx
    obtain ⟨hr2, hi2, hx2⟩ := kH (show ij e' true .plain (fill l r (fc k zs)).length (ng (fill l r (fc k zs))) h (fun i h => .ok (.slice i 0 k k) h) = .ok v h' from hx1)
    obtain ⟨rfl, rfl⟩ := RV.aA hx2
    refine ⟨_, rfl, hi2, aY, fun ψ b hle => ?_, fun ψ b hb => ?_⟩
    ·refine ⟨cs.toArray, (0, 0), rfl, by simp, Nat.le_of_eq hlen, fun _ => ⟨rfl, hlen⟩, hr2, fun j hj => ?_, rfl⟩
     have hj' : j < cs.length := by omega
     refine ⟨cs[j], by simp [hj'], ?_, f3 _ (List.getElem_mem _)⟩
     rw [eT _ hr2 j hj]
     exact (f2.get j hj hj').mono hle
    ·have := VR.slice (φ := ψ) h.next 0 k k _ hb
     simpa [Place.addr] using this
   ·show ((do pure (.value (← Instr.buildSlice t k (qs.map fun (i, x) => (i, ρ x)))) : Sem Next).run P w) = _
    rw [pD hρ qs]
    simp only [Sem.run_bind, f4 w, Result.andThen_ok, Sem.run_pure]
 ·cases hop
theorem Hy {o : Oper} {op : nV} (hop : cQ P G names o = some (.op op)) (hx : CN (.op op) = true) (hρ : ∀ q x, cO G q = some x → VR φ (ev x r) (ρ q)) (hc : ∀ c, ρ (.const c) = c) {h1 h2 : Hp} {v1 : AV} (he : op.run r h1 = .ok v1 h2) :
  ∃ ob room val, uw φ r op ob room val ∧ LF P ρ o ob val := by
 cases op <;> (try (cases hx; done))
 ·exact Em hop
 ·exact AR hop hρ he
 ·exact LG hop hc
end
section
variable {P : Program} {G : Gl} [NB G] {n : Nat} {names : List String} {ops : Array Oper} {p : Pg} {run : iP} {l : List (Nat × Bk)} {T : Nat → DS} {φ₀ : aU} {w₀ : World}
theorem pE {d : bX} {v : AV} {r : A2} {o : Option Tmp} {t : Nat} (hd : ou G n o = some d) (ho : o = some t) : aC (hi t) (lo t) (dg d v r) = v := by
 subst ho
 obtain ⟨_, _, rfl⟩ := rZ hd
 show aC (hi t) (lo t) (rM (hi t) (lo t) v r) = v
 rw [gZ, if_pos ⟨rfl, rfl⟩]
theorem AU {L : Array Bool} {i j : Nat} (hi : i < L.size) : bA (L.setIfInBounds i true) j ↔ bA L j ∨ j = i := by
 unfold bA
 by_cases e : j = i
 ·subst e
  simp [hi]
 ·rw [Array.getD_eq_getD_getElem?, Array.getElem?_setIfInBounds, if_neg (fun g => e g.symm), ← Array.getD_eq_getD_getElem?]
  simp [e]
def ln (l : List (Nat × Bk)) (L : Array Bool) (k q : Nat) (hq : q < l.length) : Prop := l[q].2 = .new ∧ bA L l[q].1 ∧ k ≤ ec l q
structure Inv (P : Program) (G : Gl) (n : Nat) (names : List String) (ops : Array Oper) (l : List (Nat × Bk)) (T : Nat → DS) (φ₀ : aU) (w₀ : World) (L : Array Bool) (a : Act) (w : World) (φ : aU) (k : Nat) (pb : Nat → Nat) : Prop where
 sz : L.size = ops.size
 cl : SO ops L
 Sv : k ≤ ec l l.length
 gx : ∀ q (hq : q < l.length), l[q].2 = .dZ → (bA L l[q].1 ↔ ec l q < k)
 hr : HR φ (bh l T k) w
 Eh : Step φ₀ (bh l T 0) w₀ φ (bh l T k) w
 fT : a.defers = []
 size : n ≤ a.tmps.size
 jD : mF G φ
 AW : ∀ q (hq : q < l.length), ln l L k q hq → ∃ op ob room val, cQ P G names (cn ops l q hq) = some (.op op) ∧ uw φ (T q).r op ob room val ∧ w₀.heap.size ≤ pb q ∧ pb q < w.heap.size ∧ w.heap[pb q]? = some ob ∧
  (∀ i pl, live (ah i (bh l T k)) → φ i = some pl → pl.gI ≠ pb q) ∧ ∀ t, (cn ops l q hq).dst = some t → a.tmps.getD t undef = val (pb q)
 PE : ∀ q q' (hq : q < l.length) (hq' : q' < l.length), ln l L k q hq → ln l L k q' hq' → q ≠ q' → pb q ≠ pb q'
 old : ∀ t, t < 256 → (∀ q (hq : q < l.length), (cn ops l q hq).dst = some t → ¬ bA L l[q].1) → VR φ (aC (hi t) (lo t) (T 0).r) (a.tmps.getD t undef)
 new : ∀ t, t < 256 → ∀ q (hq : q < l.length), (cn ops l q hq).dst = some t → bA L l[q].1 → ¬ ln l L k q hq → VR φ (aC (hi t) (lo t) (T (q + 1)).r) (a.tmps.getD t undef)
variable {L : Array Bool} {a : Act} {w : World} {φ : aU} {k : Nat} {pb : Nat → Nat}
theorem iy (K : Eg P G n names ops l) {q : Nat} (hq : q < l.length) (hb : l[q].2 = .new) : (cn ops l q hq).guard = none ∧ (∃ x, cQ P G names (cn ops l q hq) = some x ∧ CN x = true) ∧
  ∀ t, (cn ops l q hq).dst = some t → ∀ q2 (hq2 : q2 < l.length), l[q2].2 = .dZ ∨ t ∉ looks P G n names ops (cn ops l q2 hq2) := by
 have h := K.kind q hq
 rw [hb] at h
 simp only [sH, Bool.and_eq_true] at h
 obtain ⟨⟨h1, h2⟩, h3⟩ := h
 refine ⟨Option.isNone_iff_eq_none.1 h1, ?_, fun t ht q2 hq2 => ?_⟩
 ·split at h2
  ·rename_i x hx; exact ⟨x, hx, h2⟩
  ·cases h2
 ·have ht' : (ops.getD l[q].1 default).dst = some t := ht
  rw [ht'] at h3
  simp only [Option.all_some, List.all_eq_true] at h3
  have := h3 _ (List.getElem_mem hq2)
  simp only [Bool.or_eq_true, Bool.not_eq_true'] at this
  rcases this with g | g
  ·left; revert g; cases l[q2].2 <;> simp [NG]
  ·right; intro hm
   have : (looks P G n names ops (ops.getD l[q2].1 default)).contains t = true := List.contains_iff_mem.2 hm
   rw [this] at g; cases g
theorem yL (K : Eg P G n names ops l) (hT : Trace P G n names ops p run l T) (h0 : (T 0).hs = []) (hg0 : (T 0).g = (T 0).h) (I : Inv P G n names ops l T φ₀ w₀ L a w φ k pb) {q₁ : Nat} (hq₁ : q₁ ≤ l.length) (hk : ec l q₁ = k)
  (hall : ∀ q (hq : q < l.length), q < q₁ → l[q].2 = .new → ec l q = k → bA L l[q].1) :
  ∃ φ', φ.le φ' ∧ HR φ' (T q₁).h w ∧ Step φ₀ (bh l T 0) w₀ φ' (T q₁).h w ∧ (∀ q (hq : q < l.length), q < q₁ → l[q].2 = .new → ec l q = k → ∀ t, t < 256 → (cn ops l q hq).dst = some t → VR φ' (aC (hi t) (lo t) (T (q + 1)).r) (a.tmps.getD t undef)) ∧
   ∀ q (hq : q < l.length), ln l L k q hq → q₁ ≤ q → ∀ i pl, live (ah i (T q₁).h) → φ' i = some pl → pl.gI ≠ pb q := by
 obtain ⟨s, Om, Oo, hs3, hs4, hs5⟩ := yI hT hg0 q₁ hq₁
 have hbase : (T s).h = bh l T k := by rw [hs3, ← LD hT h0 (by omega), Oo, hk]
 have hec : ∀ q, s ≤ q → q ≤ q₁ → ec l q = k := fun q h1 h2 => by
  have a1 := jc (l := l) h1 (by omega)
  have a2 := jc (l := l) h2 hq₁
  omega
 have key : ∀ q, s ≤ q → q ≤ q₁ → ∃ φ', φ.le φ' ∧ HR φ' (T q).h w ∧ Step φ₀ (bh l T 0) w₀ φ' (T q).h w ∧ (∀ q2 (hq2 : q2 < l.length), s ≤ q2 → q2 < q → l[q2].2 = .new → ∀ t, t < 256 → (cn ops l q2 hq2).dst = some t → VR φ' (aC (hi t) (lo t) (T (q2 + 1)).r) (a.tmps.getD t undef)) ∧
   ∀ q2 (hq2 : q2 < l.length), ln l L k q2 hq2 → q ≤ q2 → ∀ i pl, live (ah i (T q).h) → φ' i = some pl → pl.gI ≠ pb q2 := by
  intro q hsq
  induction hsq with
  | refl =>
   intro _
   refine ⟨φ, φ.le_refl, by rw [hbase]; exact I.hr, by rw [hbase]; exact I.Eh, fun q2 _ h1 h2 => by omega, fun q2 hq2 hp _ i pl hl hpl => ?_⟩
   obtain ⟨_, _, _, _, _, _, _, _, _, g, _⟩ := I.AW q2 hq2 hp
   rw [hbase] at hl
   exact g i pl hl hpl
  | @step q hsq ih =>
   intro hle
   obtain ⟨φ', i1, i2, i3, i4, i5⟩ := ih (by omega)
   have hql : q < l.length := by omega
   obtain ⟨d, x, wnt, v, D⟩ := hT q hql
   have hstp := D.Eh.2
   have hne := hs4 q hsq (by omega) hql
   cases hb : l[q].2 with
   | dZ => exact absurd hb hne
   | rd m =>
    rw [hb] at hstp
    have hh : (T (q + 1)).h = (T q).h := by
     cases wnt with
     | true => obtain ⟨_, _, _, _, e, _⟩ := hstp; exact e
     | false => exact hstp.2.1
    refine ⟨φ', i1, by rw [hh]; exact i2, by rw [hh]; exact i3, fun q2 hq2 h1 h2 hn t ht hd => ?_, fun q2 hq2 hp h1 i pl hl hpl => ?_⟩
    ·rcases Nat.lt_or_ge q2 q with g | g
     ·exact i4 q2 hq2 h1 g hn t ht hd
     ·obtain rfl : q2 = q := by omega
      rw [hb] at hn; cases hn
    ·rw [hh] at hl; exact i5 q2 hq2 hp (by omega) i pl hl hpl
   | new =>
    rw [hb] at hstp
    obtain ⟨hgd, _, _⟩ := iy K hql hb
    have hw : wnt = true := by have := D.want; simpa [NH, hgd] using this
    subst hw
    obtain ⟨op, rfl, hrun, _, _⟩ := hstp
    have hp : ln l L k q hql := ⟨hb, hall q hql (by omega) hb (hec q hsq (by omega)), Nat.le_of_eq (hec q hsq (by omega)).symm⟩
    obtain ⟨op', ob, room, val, e1, NS, b1, b2, b3, b4, b5⟩ := I.AW q hql hp
    rw [D.op] at e1
    cases e1
    obtain ⟨obj, f1, f2, f3, f4, f5⟩ := NS.am _ _ _ hrun
    have hle' := aU.lE (φ := φ') (i := (T q).h.next) ⟨pb q, 0, room⟩ (i2.fresh _ f2)
    have HA := i2.RJ (n' := (T q).h.next.succ) f2 f3.1 b2 (i5 q hql hp (Nat.le_refl _)) (o := obj) (room := room) (by rw [b3]; exact f4 _ _ (aU.le_trans i1 hle'))
    refine ⟨φ'.put (T q).h.next ⟨pb q, 0, room⟩, aU.le_trans i1 hle', by rw [f1]; exact HA, ?_, fun q2 hq2 h1 h2 hn t ht hd => ?_, fun q2 hq2 hp2 h1 i pl hl hpl => ?_⟩
    ·refine ⟨aU.le_trans i3.le hle', i3.keeps, fun i pl hl hpl => ?_⟩
     rw [f1, iz] at hl
     by_cases e : i = (T q).h.next
     ·subst e
      rw [aU.aX] at hpl; cases hpl
      exact .inr (.inl b1)
     ·rw [if_neg e] at hl
      rw [f1, iz, if_neg e]
      exact i3.new i pl hl (by simpa [aU.put, e] using hpl)
    ·rcases Nat.lt_or_ge q2 q with g | g
     ·exact (i4 q2 hq2 h1 g hn t ht hd).mono hle'
     ·obtain rfl : q2 = q := by omega
      rw [b5 t hd, D.Eh.1, pE D.dst hd]
      exact f5 _ _ (aU.aX _ _ _)
    ·rw [f1, iz] at hl
     by_cases e : i = (T q).h.next
     ·subst e
      rw [aU.aX] at hpl; cases hpl
      exact I.PE q q2 hql hq2 hp hp2 (by omega)
     ·rw [if_neg e] at hl
      exact i5 q2 hq2 hp2 (by omega) i pl hl (by simpa [aU.put, e] using hpl)
 obtain ⟨φ', i1, i2, i3, i4, i5⟩ := key q₁ Om (Nat.le_refl _)
 refine ⟨φ', i1, i2, i3, fun q hq h1 h2 h3 t ht hd => ?_, i5⟩
 rcases Nat.lt_or_ge q s with g | g
 ·have := hs5 q g; omega
 ·exact i4 q hq g h1 h2 t ht hd
end
section
variable {P : Program} {G : Gl} [NB G] {n : Nat} {names : List String} {ops : Array Oper} {p : Pg} {run : iP} {l : List (Nat × Bk)} {T : Nat → DS} {φ₀ φ φ' : aU} {w₀ w : World} {L : Array Bool} {a : Act} {k : Nat} {pb : Nat → Nat} {r : A2}
theorem ml (a : H) : dG a.nat = a := by cases a <;> rfl
theorem H.fD (a : H) : a.nat < 16 := by cases a <;> decide
theorem PF (a b : H) : hi (16 * a.nat + b.nat) = a := by
 have h1 := a.fD; have h2 := b.fD
 show dG ((16 * a.nat + b.nat) / 16) = a
 rw [show (16 * a.nat + b.nat) / 16 = a.nat by omega, ml]
theorem PG (a b : H) : lo (16 * a.nat + b.nat) = b := by
 have h1 := a.fD; have h2 := b.fD
 show dG ((16 * a.nat + b.nat) % 16) = b
 rw [show (16 * a.nat + b.nat) % 16 = b.nat by omega, ml]
theorem Hz {t : Nat} (ht : t < 256) : 16 * (hi t).nat + (lo t).nat = t := by
 show 16 * (dG (t / 16)).nat + (dG (t % 16)).nat = t
 rw [fE (by omega), fE (by omega)]; omega
theorem iA {t : Nat} (ht : t < 256) : ∀ {L : List Nat}, aC (hi t) (lo t) (bV r L) = if t ∈ L then aC (hi t) (lo t) r else .undef
 | [] => by
  show aC (hi t) (lo t) .nil = _
  rw [if_neg (by simp)]
  show A1.get (lo t) (A2.get (hi t) .nil) = _
  rw [A2.get_nil, A1.get_nil]
 | s :: L => by
  have ih := iA ht (L := L)
  show aC (hi t) (lo t) (if s < 256 then rM (hi s) (lo s) (aC (hi s) (lo s) r) (bV r L) else bV r L) = _
  split
  ·rename_i hs
   rw [gZ]
   by_cases e : t = s
   ·subst e; simp
   ·rw [if_neg (fun g => e ((GW ht hs).1 g)), ih]
    simp [e]
  ·rename_i hs
   have e : t ≠ s := by omega
   rw [ih]; simp [e]
theorem lG {L : List Nat} : fi r (bV r L) L := fun a b m => by
 have h1 := a.fD; have h2 := b.fD
 have := iA (r := r) (L := L) (t := 16 * a.nat + b.nat) (by omega)
 rw [if_pos m, PF, PG] at this
 exact this.symm
theorem En (hs : L.size = ops.size) {j : Nat} (h : bA L j) : j < ops.size := by
 rcases Nat.lt_or_ge j L.size with g | g
 ·omega
 ·unfold bA at h
  rw [Array.getD_eq_getD_getElem?, Array.getElem?_eq_none g] at h; cases h
structure Sw (ops : Array Oper) (l : List (Nat × Bk)) (L : Array Bool) (q : Nat) (hq : q < l.length) : Prop where
 un : ¬ bA L l[q].1
 pre : ∀ e, e ∈ (cn ops l q hq).after → Region.binds .any e = true → bA L e.on
section
variable (K : Eg P G n names ops l) (hT : Trace P G n names ops p run l T) (I : Inv P G n names ops l T φ₀ w₀ L a w φ k pb) {q : Nat} (hq : q < l.length) (R : Sw ops l L q hq)
include K I R
theorem dJ {j : Nat} : bA (L.setIfInBounds l[q].1 true) j ↔ bA L j ∨ j = l[q].1 := AU (by rw [I.sz]; exact K.RE q hq)
theorem wP : SO ops (L.setIfInBounds l[q].1 true) := by
 intro j o hj hl e he hb
 rw [dJ K I hq R] at hl ⊢
 rcases hl with hl | rfl
 ·exact .inl (I.cl j o hj hl e he hb)
 ·have := dn K hq
  rw [this] at hj
  cases hj
  exact .inl (R.pre e he hb)
theorem jM {q1 : Nat} (h1 : q1 < l.length) (hb : Bf ops l[q1].1 l[q].1) (hne : q1 ≠ q) : bA L l[q1].1 := by
 have := hb _ (wP K I hq R) ((dJ K I hq R).2 (.inr rfl))
 rcases (dJ K I hq R).1 this with g | g
 ·exact g
 ·exact absurd (K.inj q1 q h1 hq g) hne
theorem RK (he : l[q].2 = .dZ) : k = ec l q := by
 have h1 : k ≤ ec l q := by
  rcases Nat.lt_or_ge (ec l q) k with g | g
  ·exact absurd ((I.gx q hq he).2 g) R.un
  ·exact g
 rcases Nat.lt_or_ge k (ec l q) with g | g
 ·obtain ⟨q1, hq1, hlt, he1, e1⟩ := oG (by omega) g
  have := (I.gx q1 hq1 he1).1 (jM K I hq R hq1 (PB K hq1 hq hlt he1 he) (by omega))
  omega
 ·omega
theorem RL (he : l[q].2 ≠ .dZ) : k ≤ ec l q := by
 rcases Nat.lt_or_ge (ec l q) k with g | g
 ·obtain ⟨q2, hq2, _, he2, e2⟩ := oG (Nat.le_refl _) (Nat.lt_of_lt_of_le g I.Sv)
  have hlt : q < q2 := by
   rcases Nat.lt_trichotomy q q2 with g | g | g
   ·exact g
   ·subst g; exact absurd he2 he
   ·have := yG g (by omega) he2; omega
  exact absurd (CL K hq hq2 hlt he he2 L I.cl ((I.gx q2 hq2 he2).2 (by omega))) R.un
 ·exact g
theorem SQ {m : Nat} (hb : l[q].2 = .rd m) : ec l q - m ≤ k := by
 obtain ⟨_, g2⟩ := RH K hq hb
 rcases Nat.lt_or_ge k (ec l q - m) with g | g
 ·obtain ⟨q1, hq1, hlt, he1, e1⟩ := oG (q' := q) (by omega) (show k < ec l q by omega)
  have := (I.gx q1 hq1 he1).1 (jM K I hq R hq1 (g2 q1 hlt he1 (by omega)) (by omega))
  omega
 ·exact g
include hT
theorem wQ {t : Nat} (ht : t < 256) (hl : t ∈ looks P G n names ops (cn ops l q hq)) : VR φ (aC (hi t) (lo t) (T q).r) (a.tmps.getD t undef) ∨
  ∃ q2, ∃ hq2 : q2 < l.length, q2 < q ∧ ln l L k q2 hq2 ∧ l[q].2 = .dZ ∧ (cn ops l q2 hq2).dst = some t ∧ aC (hi t) (lo t) (T q).r = aC (hi t) (lo t) (T (q2 + 1)).r := by
 obtain ⟨ra, rb⟩ := Hx K hT (q := q) (by omega) ht
 by_cases hw : ∃ q2, ∃ hq2 : q2 < l.length, (cn ops l q2 hq2).dst = some t
 ·obtain ⟨q2, hq2, hd⟩ := hw
  have uniq : ∀ q1 (h1 : q1 < l.length), (cn ops l q1 h1).dst = some t → q1 = q2 := fun q1 h1 e1 => K.inj q1 q2 h1 hq2 (K.dst _ _ _ _ t (dn K h1) (dn K hq2) e1 hd)
  have hunl : ¬ bA L l[q2].1 → q2 ≥ q → VR φ (aC (hi t) (lo t) (T q).r) (a.tmps.getD t undef) := by
   intro h1 h2
   rw [rb fun q1 h1 e1 => by have := uniq q1 h1 e1; omega]
   exact I.old t ht fun q1 hq1 e1 => by
    obtain rfl := uniq q1 hq1 e1; exact h1
  rcases K.look _ _ _ _ t (dn K hq) (dn K hq2) hl hd with g | g | g
  ·obtain rfl := K.inj q q2 hq hq2 g
   exact .inl (hunl R.un (Nat.le_refl _))
  ·refine .inl (hunl (fun hl2 => R.un (kG g L I.cl hl2)) ?_)
   rcases K.ord q q2 hq hq2 g with g1 | ⟨g1, g2⟩
   ·omega
   ·obtain ⟨m, g2⟩ := g2
    have hne : q2 ≠ q := by rintro rfl; rw [g1] at g2; cases g2
    exact absurd (kG g L I.cl (jM K I hq R hq2 (kG (K.RG q hq g1 t hl _ _ (dn K hq2) hd)) hne)) R.un
  ·by_cases hne : q2 = q
   ·subst hne; exact .inl (hunl R.un (Nat.le_refl _))
   have hl2 := jM K I hq R hq2 (kG g) hne
   have hlt : q2 < q := by
    rcases K.ord q2 q hq2 hq g with g1 | ⟨g1, m, g2⟩
    ·exact g1
    ·rcases (iy K hq2 g1).2.2 t hd q hq with g3 | g3
     ·rw [g2] at g3; cases g3
     ·exact absurd hl g3
   have er := ra q2 hq2 hd hlt
   by_cases hp : ln l L k q2 hq2
   ·refine .inr ⟨q2, hq2, hlt, hp, ?_, hd, er⟩
    exact ((iy K hq2 hp.1).2.2 t hd q hq).resolve_right fun g => g hl
   ·rw [er]
    exact .inl (I.new t ht q2 hq2 hd hl2 hp)
 ·rw [rb fun q1 h1 e1 => absurd ⟨q1, h1, e1⟩ hw]
  exact .inl (I.old t ht fun q1 h1 e1 => absurd ⟨q1, h1, e1⟩ hw)
end
end
section
variable {P : Program} {G : Gl} [NB G] {n : Nat} {names : List String} {ops : Array Oper} {p : Pg} {run : iP} {l : List (Nat × Bk)} {T : Nat → DS} {φ₀ φ φ' φ₁ : aU} {w₀ w w' : World} {L : Array Bool} {a : Act} {k k' : Nat} {pb : Nat → Nat} {r : A2} {cv : Value}
theorem pF {o : Option Tmp} {t : Nat} (h : o ≠ some t) : (a.put o cv).tmps.getD t undef = a.tmps.getD t undef := by
 cases o with
 | none => rfl
 | some s =>
  have e : t ≠ s := fun e => h (by rw [e])
  show (a.tmps.setIfInBounds s cv).getD t undef = _
  simp only [Array.getD_eq_getD_getElem?, Array.getElem?_setIfInBounds, if_neg (Ne.symm e)]
theorem aX {t : Nat} (h : t < a.tmps.size) : (a.put (some t) cv).tmps.getD t undef = cv := by
 show (a.tmps.setIfInBounds t cv).getD t undef = cv
 simp [Array.getD, h]
theorem yM {o : Option Tmp} : (a.put o cv).tmps.size = a.tmps.size := by cases o <;> simp [Act.put]
theorem qD {o : Option Tmp} : (a.put o cv).defers = a.defers := by cases o <;> rfl
theorem rC {o : Option Tmp} {d : bX} {t : Nat} (hd : ou G n o = some d) (ho : o = some t) : t < 256 ∧ t < n := by
 subst ho
 obtain ⟨h1, h2, _⟩ := rZ hd
 exact ⟨h1, h2⟩
section
variable (K : Eg P G n names ops l) (hT : Trace P G n names ops p run l T) (I : Inv P G n names ops l T φ₀ w₀ L a w φ k pb) {q : Nat} (hq : q < l.length) (R : Sw ops l L q hq)
include K I R
theorem Inv.go {d : bX} (hd : ou G n (cn ops l q hq).dst = some d) (hnn : l[q].2 ≠ .new) (hk : k ≤ k') (hkl : k' ≤ ec l l.length)
  (heffs : ∀ q2 (hq2 : q2 < l.length), l[q2].2 = .dZ → (bA (L.setIfInBounds l[q].1 true) l[q2].1 ↔ ec l q2 < k'))
  (hr : HR φ₁ (bh l T k') w') (hstp : Step φ₀ (bh l T 0) w₀ φ₁ (bh l T k') w') (hle : φ.le φ₁)
  (hv : ∀ t, t < 256 → (cn ops l q hq).dst = some t → VR φ₁ (aC (hi t) (lo t) (T (q + 1)).r) cv)
  (hact : ∀ q2 (hq2 : q2 < l.length), ln l L k q2 hq2 → ¬ k' ≤ ec l q2 → ∀ t, t < 256 → (cn ops l q2 hq2).dst = some t → VR φ₁ (aC (hi t) (lo t) (T (q2 + 1)).r) (a.tmps.getD t undef))
  (hfree : ∀ q2 (hq2 : q2 < l.length), ln l L k q2 hq2 → k' ≤ ec l q2 → w'.heap[pb q2]? = w.heap[pb q2]? ∧ ∀ i pl, live (ah i (bh l T k')) → φ₁ i = some pl → pl.gI ≠ pb q2)
  (hsz : w.heap.size ≤ w'.heap.size) : Inv P G n names ops l T φ₀ w₀ (L.setIfInBounds l[q].1 true) (a.put (cn ops l q hq).dst cv) w' φ₁ k' pb := by
 have hln : ∀ {j : Nat}, bA (L.setIfInBounds l[q].1 true) j ↔ bA L j ∨ j = l[q].1 := dJ K I hq R
 have hpend : ∀ q2 (hq2 : q2 < l.length), ln l (L.setIfInBounds l[q].1 true) k' q2 hq2 → q2 ≠ q ∧ ln l L k q2 hq2 ∧ k' ≤ ec l q2 := by
  rintro q2 hq2 ⟨h1, h2, h3⟩
  have hne : q2 ≠ q := by rintro rfl; exact hnn h1
  refine ⟨hne, ⟨h1, ?_, by omega⟩, h3⟩
  rcases hln.1 h2 with g | g
  ·exact g
  ·exact absurd (K.inj q2 q hq2 hq g) hne
 have huniq : ∀ q2 (hq2 : q2 < l.length) t, (cn ops l q2 hq2).dst = some t → q2 ≠ q → (cn ops l q hq).dst ≠ some t := fun q2 hq2 t e1 hne e2 =>
  hne (K.inj q2 q hq2 hq (K.dst _ _ _ _ t (dn K hq2) (dn K hq) e1 e2))
 refine ⟨by rw [Array.size_setIfInBounds]; exact I.sz, wP K I hq R, hkl, heffs, hr, hstp, by rw [qD]; exact I.fT, by rw [yM]; exact I.size, I.jD.mono hle, ?_, ?_, ?_, ?_⟩
 ·intro q2 hq2 hp
  obtain ⟨hne, hp2, h3⟩ := hpend q2 hq2 hp
  obtain ⟨op, ob, room, val, e1, NS, b1, b2, b3, b4, b5⟩ := I.AW q2 hq2 hp2
  obtain ⟨f1, f2⟩ := hfree q2 hq2 hp2 h3
  exact ⟨op, ob, room, val, e1, NS.mono hle, b1, by omega, by rw [f1]; exact b3, f2, fun t ht => by rw [pF (huniq q2 hq2 t ht hne)]; exact b5 t ht⟩
 ·intro q2 q3 hq2 hq3 hp2 hp3 hne
  exact I.PE q2 q3 hq2 hq3 (hpend q2 hq2 hp2).2.1 (hpend q3 hq3 hp3).2.1 hne
 ·intro t ht hno
  have hne : (cn ops l q hq).dst ≠ some t := fun e => hno q hq e (hln.2 (.inr rfl))
  rw [pF hne]
  exact (I.old t ht fun q2 hq2 e hl => hno q2 hq2 e (hln.2 (.inl hl))).mono hle
 ·intro t ht q2 hq2 e hl hnp
  by_cases hne : q2 = q
  ·subst hne
   have hs := (rC hd e).2
   rw [e, aX (Nat.lt_of_lt_of_le hs I.size)]
   exact hv t ht e
  ·rw [pF (huniq q2 hq2 t e hne)]
   have hl2 : bA L l[q2].1 := by
    rcases hln.1 hl with g | g
    ·exact g
    ·exact absurd (K.inj q2 q hq2 hq g) hne
   by_cases hp : ln l L k q2 hq2
   ·exact hact q2 hq2 hp (fun g => hnp ⟨hp.1, hl, g⟩) t ht e
   ·exact (I.new t ht q2 hq2 e hl2 hp).mono hle
theorem Inv.make {d : bX} {op : nV} {ob : Go.Obj} {room : Nat} {val : Nat → Value} (hop : cQ P G names (cn ops l q hq) = some (.op op)) (hd : ou G n (cn ops l q hq).dst = some d) (hb : l[q].2 = .new) (NS : uw φ (T q).r op ob room val) :
  Inv P G n names ops l T φ₀ w₀ (L.setIfInBounds l[q].1 true) (a.put (cn ops l q hq).dst (val w.heap.size)) { w with heap := w.heap.push ob } φ k (fun x => if x = q then w.heap.size else pb x) := by
 have hln : ∀ {j : Nat}, bA (L.setIfInBounds l[q].1 true) j ↔ bA L j ∨ j = l[q].1 := dJ K I hq R
 have hpend : ∀ q2 (hq2 : q2 < l.length), ln l (L.setIfInBounds l[q].1 true) k q2 hq2 → q2 ≠ q → ln l L k q2 hq2 := by
  rintro q2 hq2 ⟨h1, h2, h3⟩ hne
  refine ⟨h1, ?_, h3⟩
  rcases hln.1 h2 with g | g
  ·exact g
  ·exact absurd (K.inj q2 q hq2 hq g) hne
 have huniq : ∀ q2 (hq2 : q2 < l.length) t, (cn ops l q2 hq2).dst = some t → q2 ≠ q → (cn ops l q hq).dst ≠ some t := fun q2 hq2 t e1 hne e2 =>
  hne (K.inj q2 q hq2 hq (K.dst _ _ _ _ t (dn K hq2) (dn K hq) e1 e2))
 have hsz : w.heap.size ≤ (w.heap.push ob).size := by simp
 have hkp : ∀ b, b < w.heap.size → (w.heap.push ob)[b]? = w.heap[b]? := fun b hb => by
  rw [Array.getElem?_push, if_neg (by omega)]
 have hpq : ∀ q2 (hq2 : q2 < l.length), ln l L k q2 hq2 → pb q2 < w.heap.size := fun q2 hq2 hp => by
  obtain ⟨_, _, _, _, _, _, _, b2, _⟩ := I.AW q2 hq2 hp; exact b2
 refine ⟨by rw [Array.size_setIfInBounds]; exact I.sz, wP K I hq R, I.Sv, fun q2 hq2 he => ?_, I.hr.ext hsz hkp, I.Eh.trans (.ext hsz hkp rfl rfl rfl), by rw [qD]; exact I.fT, by rw [yM]; exact I.size, I.jD, ?_, ?_, ?_, ?_⟩
 ·rw [hln, ← I.gx q2 hq2 he]
  refine ⟨fun h => h.resolve_right fun g => ?_, .inl⟩
  have := K.inj q2 q hq2 hq g
  subst this
  rw [he] at hb; cases hb
 ·intro q2 hq2 hp
  by_cases hne : q2 = q
  ·subst hne
   simp only [if_pos]
   refine ⟨op, ob, room, val, hop, NS, I.Eh.keeps.size, by simp, by simp, fun i pl _ hpl => ?_, fun t ht => ?_⟩
   ·have := I.hr.bound i pl hpl; omega
   ·rw [ht, aX (Nat.lt_of_lt_of_le (rC hd ht).2 I.size)]
  ·obtain ⟨op', ob', room', val', e1, NS', b1, b2, b3, b4, b5⟩ := I.AW q2 hq2 (hpend q2 hq2 hp hne)
   simp only [if_neg hne]
   exact ⟨op', ob', room', val', e1, NS', b1, by simp; omega, by rw [hkp _ b2]; exact b3, b4, fun t ht => by rw [pF (huniq q2 hq2 t ht hne)]; exact b5 t ht⟩
 ·intro q2 q3 hq2 hq3 hp2 hp3 hne
  by_cases h2 : q2 = q
  ·by_cases h3 : q3 = q
   ·omega
   ·have := hpq q3 hq3 (hpend q3 hq3 hp3 h3)
    simp only [if_pos h2, if_neg h3]; omega
  ·have g2 := hpq q2 hq2 (hpend q2 hq2 hp2 h2)
   by_cases h3 : q3 = q
   ·simp only [if_neg h2, if_pos h3]; omega
   ·simp only [if_neg h2, if_neg h3]
    exact I.PE q2 q3 hq2 hq3 (hpend q2 hq2 hp2 h2) (hpend q3 hq3 hp3 h3) hne
 ·intro t ht hno
  have hne : (cn ops l q hq).dst ≠ some t := fun e => hno q hq e (hln.2 (.inr rfl))
  rw [pF hne]
  exact I.old t ht fun q2 hq2 e hl => hno q2 hq2 e (hln.2 (.inl hl))
 ·intro t ht q2 hq2 e hl hnp
  have hne : q2 ≠ q := by
   rintro rfl
   exact hnp ⟨hb, hl, RL K I hq R (by rw [hb]; simp)⟩
  rw [pF (huniq q2 hq2 t e hne)]
  have hl2 : bA L l[q2].1 := by
   rcases hln.1 hl with g | g
   ·exact g
   ·exact absurd (K.inj q2 q hq2 hq g) hne
  exact I.new t ht q2 hq2 e hl2 fun hp => hnp ⟨hp.1, hl, hp.2.2⟩
end
end
section
variable {P : Program} {G : Gl} [NB G] {n : Nat} {names : List String} {ops : Array Oper} {p : Pg} {run : iP} {l : List (Nat × Bk)} {T : Nat → DS} {φ₀ φ φ' φ₁ : aU} {w₀ w w' : World} {L : Array Bool} {a : Act} {k k' : Nat} {pb : Nat → Nat} {r : A2} {h : Hp} {cv : Value}
theorem CP {v : AV} : ∀ {x z : RT}, x.bt z → x = .ok v h → z = .ok v h
 | _, _, .ok v h, e => e
 | _, _, .err n, e => by cases e
 | _, _, .ch n kk c y hc hl, e => by cases e
theorem CQ {v : AV} {x : RT} (e : x = .ok v h) : x.Safe := fun n hn => by
 have := CP hn e
 cases this
theorem yN {v : AV} {x : RT} (e : x = .ok v h) {v' : AV} {h' : Hp} (hl : x.bt (.ok v' h')) : v' = v ∧ h' = h := by
 have := CP hl e
 cases this; exact ⟨rfl, rfl⟩
theorem pG {o : Oper} {wnt : Bool} (D : NH ops o r wnt) {d : bX} {x : AI} (hd : ou G n o.dst = some d) (hx : cQ P G names o = some x)
  (hl : ∀ t, t < 256 → t ∈ looks P G n names ops o → VR φ (aC (hi t) (lo t) r) (a.tmps.getD t undef)) : Region.wanted o (yielded ops a.tmps) = wnt ∧ ∀ t, t ∈ x.aI → t ∈ looks P G n names ops o := by
 unfold NH at D
 unfold looks py at hl ⊢
 simp only [hd, hx] at hl ⊢
 cases hg : o.guard with
 | none =>
  rw [hg] at D
  have D : wnt = true := D
  exact ⟨by simp [Region.wanted, hg, D], fun t ht => ht⟩
 | some g =>
  obtain ⟨j, w⟩ := g
  rw [hg] at D
  obtain ⟨t, b, h1, h2, h3, h4⟩ := D
  have h2' := Le (G := G) h2
  simp only [hg, h1, h2'] at hl ⊢
  refine ⟨?_, fun t ht => List.mem_cons_of_mem _ ht⟩
  have hm : t ∈ (GI.g (hi t) (lo t) w d x).aI := by
   show t ∈ (16 * (hi t).nat + (lo t).nat) :: x.aI
   rw [Hz h2]; simp
  have hv := hl t h2 hm
  rw [h4]
  rcases wC h3 with h5 | ⟨h5, rfl⟩
  ·rw [h5] at hv
   have hy := nk h1 hv.dT
   simp only [Region.wanted, hg, hy]
   cases b <;> cases w <;> rfl
  ·rw [h5] at hv
   have hy := ko (a := a) h1 (wD hv)
   simp only [Region.wanted, hg, hy]
   cases w <;> rfl
section
variable (K : Eg P G n names ops l) (hT : Trace P G n names ops p run l T) (I : Inv P G n names ops l T φ₀ w₀ L a w φ k pb) {q : Nat} (hq : q < l.length) (R : Sw ops l L q hq)
include K hT I R
theorem HB (M : nY P names p.ms) (CO : eg P G p run) (h0 : (T 0).hs = []) (hg0 : (T 0).g = (T 0).h) {Kt : Act → World → Prop} {Q : Exit → Act → World → Prop}
  (hn : ∀ cv w' φ₁ k' pb', Inv P G n names ops l T φ₀ w₀ (L.setIfInBounds l[q].1 true) (a.put (cn ops l q hq).dst cv) w' φ₁ k' pb' → Kt (a.put (cn ops l q hq).dst cv) w') : wpOp P ops Q l[q].1 Kt a w := by
 unfold wpOp
 simp only [dn K hq]
 obtain ⟨d, x, wnt, v, D⟩ := hT q hq
 have hstp := D.Eh.2
 have hreg : ∀ t, t < 256 → (cn ops l q hq).dst = some t → aC (hi t) (lo t) (T (q + 1)).r = v := fun t _ e => by rw [D.Eh.1, pE D.dst e]
 have hregR : ∀ t, t < 256 → (cn ops l q hq).dst = some t → ∀ r', aC (hi t) (lo t) (dg d v r') = v := fun t _ e r' => pE D.dst e
 cases hb : l[q].2 with
 | new =>
  obtain ⟨hg, ⟨y, hy, hny⟩, _⟩ := iy K hq hb
  rw [hb] at hstp
  have hw1 : wnt = true := by have := D.want; simpa [NH, hg] using this
  subst hw1
  obtain ⟨op, rfl, hrun, _, _⟩ := hstp
  have hlk : ∀ t, t < 256 → t ∈ looks P G n names ops (cn ops l q hq) → VR φ (aC (hi t) (lo t) (T q).r) (a.tmps.getD t undef) := fun t ht hl =>
   (wQ K hT I hq R ht hl).resolve_right fun ⟨_, _, _, _, g, _⟩ => by rw [hb] at g; cases g
  obtain ⟨_, hsub⟩ := pG (a := a) D.want D.dst D.op hlk
  have hag : fi (T q).r (bV (T q).r (looks P G n names ops (cn ops l q hq))) (AI.op op).aI := fun x y m => lG x y (hsub _ m)
  have S : St n G φ (bV (T q).r (looks P G n names ops (cn ops l q hq))) (bh l T k) a w := St.mk' I.hr (fun t ht => by
   rw [iA ht]
   split
   ·rename_i hm; exact hlk t ht hm
   ·exact .undef _) I.fT I.size I.jD
  have hy2 : y = .op op := Option.some.inj (hy.symm.trans D.op)
  subst hy2
  obtain ⟨ob, room, val, NS1, NR⟩ := Hy (P := P) (ρ := a.eval) hy hny (fun _ _ hx => S.Su hx) (fun _ => rfl) (show op.run (bV (T q).r (looks P G n names ops (cn ops l q hq))) (T q).h = .ok v (T (q + 1)).h by rw [← sE hag]; exact hrun)
  have NS : uw φ (T q).r op ob room val := ⟨fun h v h' e => NS1.am h v h' (by rw [← sE hag]; exact e)⟩
  have hw : Region.wanted (cn ops l q hq) (yielded ops a.tmps) = true := by simp [Region.wanted, hg]
  rw [if_pos hw]
  refine .inl ?_
  unfold Oper.wp
  rw [NR w]
  exact hn _ _ _ _ _ (Inv.make K I hq R hy D.dst hb NS)
 | rd m =>
  rw [hb] at hstp
  have hk1 := RL K I hq R (by rw [hb]; simp)
  have hk2 := SQ K I hq R hb
  have hlk : ∀ t, t < 256 → t ∈ looks P G n names ops (cn ops l q hq) → VR φ (aC (hi t) (lo t) (T q).r) (a.tmps.getD t undef) := fun t ht hl =>
   (wQ K hT I hq R ht hl).resolve_right fun ⟨_, _, _, _, g, _⟩ => by rw [hb] at g; cases g
  obtain ⟨hwt, hsub⟩ := pG (a := a) D.want D.dst D.op hlk
  have heffs : ∀ q2 (hq2 : q2 < l.length), l[q2].2 = .dZ → (bA (L.setIfInBounds l[q].1 true) l[q2].1 ↔ ec l q2 < k) := fun q2 hq2 he => by
   rw [dJ K I hq R, ← I.gx q2 hq2 he]
   refine ⟨fun h => h.resolve_right fun g => ?_, .inl⟩
   have := K.inj q2 q hq2 hq g
   subst this
   rw [he] at hb; cases hb
  have fin : ∀ cv w' φ₁, HR φ₁ (bh l T k) w' → Step φ (bh l T k) w φ₁ (bh l T k) w' → (∀ t, t < 256 → (cn ops l q hq).dst = some t → VR φ₁ v cv) → Kt (a.put (cn ops l q hq).dst cv) w' := fun cv w' φ₁ h1 h2 h3 =>
   hn cv w' φ₁ k pb (Inv.go K I hq R D.dst (by rw [hb]; simp) (Nat.le_refl _) I.Sv heffs h1 (I.Eh.trans h2) h2.le (fun t ht e => by rw [hreg t ht e]; exact h3 t ht e)
    (fun q2 hq2 hp hno => absurd hp.2.2 hno) (fun q2 hq2 hp _ => by
     obtain ⟨_, _, _, _, _, _, _, b2, _, b4, _⟩ := I.AW q2 hq2 hp
     refine ⟨h2.keeps.rest _ b2 (fun i pl hl hpl => b4 i pl hl.1 hpl), fun i pl hl hpl => ?_⟩
     rcases h2.new i pl hl hpl with ⟨g1, g2, _⟩ | g | ⟨j, s, g1, g2, g3⟩
     ·exact b4 i pl g1 g2
     ·omega
     ·rw [← g3]; exact b4 j s g1.1 g2) h2.keeps.size)
  cases wnt with
  | false =>
   rw [if_neg (by rw [hwt]; simp)]
   refine fin undef w φ I.hr (.refl _ _ _) fun t _ _ => ?_
   rw [hstp.1]; exact rm
  | true =>
   rw [if_pos hwt]
   obtain ⟨op, rfl, ⟨h1, hrun⟩, hre, _⟩ := hstp
   have hrunk : ∃ h', op.run (T q).r (bh l T k) = .ok v h' := by
    rcases Nat.lt_or_ge k (ec l q) with g | g
    ·obtain ⟨hj, g1, h', g2⟩ := vm hre (ec l q - 1 - k) (by omega)
     rw [RI hT h0 (by omega) (by omega), show ec l q - 1 - (ec l q - 1 - k) = k by omega] at g1
     cases g1
     exact ⟨h', g2⟩
    ·have : k = ec l q := by omega
     rw [this, LD hT h0 (by omega)]; exact ⟨h1, hrun⟩
   obtain ⟨h2, hrun2⟩ := hrunk
   have hfl : pA (.op op) = true := by
    have := K.kind q hq
    rw [hb] at this
    have e : cQ P G names (ops.getD l[q].1 default) = some (.op op) := D.op
    simp only [sH, e] at this
    exact this
   have := yC hfl hrun2
   subst this
   have hag : fi (T q).r (bV (T q).r (looks P G n names ops (cn ops l q hq))) (AI.op op).aI := fun x y m => lG x y (hsub _ m)
   have hres : (AI.op op).res p run (bV (T q).r (looks P G n names ops (cn ops l q hq))) (bh l T k) = .ok v (bh l T k) := by
    rw [← vg hag]
    show (op.run _ _).nU = _
    rw [hrun2]; rfl
   have S : St n G φ (bV (T q).r (looks P G n names ops (cn ops l q hq))) (bh l T k) a w := St.mk' I.hr (fun t ht => by
    rw [iA ht]
    split
    ·rename_i hm; exact hlk t ht hm
    ·exact .undef _) I.fT I.size I.jD
   refine .inl (rk M CO S D.op D.dst (CQ hres) fun v' h' φ₁ cv w' hl S' T' => ?_)
   obtain ⟨rfl, rfl⟩ := yN hres hl
   exact fin cv w' φ₁ S'.hr T' fun t ht e => by
    have := S'.Pq t ht
    rw [hregR t ht e, e, aX (Nat.lt_of_lt_of_le (rC D.dst e).2 I.size)] at this
    exact this
 | dZ =>
  rw [hb] at hstp
  have hk := RK K I hq R hb
  have hall : ∀ q2 (hq2 : q2 < l.length), q2 < q → l[q2].2 = .new → ec l q2 = k → bA L l[q2].1 := fun q2 hq2 hlt yO _ =>
   jM K I hq R hq2 (CL K hq2 hq hlt (by rw [yO]; simp) hb) (by omega)
  obtain ⟨φ', a1, a2, a3, a4, a5⟩ := yL K hT h0 hg0 I (q₁ := q) (by omega) hk.symm hall
  have hlk : ∀ t, t < 256 → t ∈ looks P G n names ops (cn ops l q hq) → VR φ' (aC (hi t) (lo t) (T q).r) (a.tmps.getD t undef) := fun t ht hl => by
   rcases wQ K hT I hq R ht hl with g | ⟨q2, hq2, hlt, hp, _, hd, er⟩
   ·exact g.mono a1
   ·rw [er]
    have h1 := jc (l := l) (show q2 ≤ q by omega) (by omega)
    have h2 := hp.2.2
    exact a4 q2 hq2 hlt hp.1 (by omega) t ht hd
  obtain ⟨hwt, hsub⟩ := pG (a := a) D.want D.dst D.op hlk
  have hec : ec l (q + 1) = k + 1 := by rw [nz hq hb, hk]
  have hbh : bh l T (k + 1) = (T (q + 1)).h := by
   rw [← hec, LD hT h0 (by omega)]
   cases wnt with
   | true => exact hstp.2.1
   | false => rw [hstp.2.1, hstp.2.2.1]
  have heffs : ∀ q2 (hq2 : q2 < l.length), l[q2].2 = .dZ → (bA (L.setIfInBounds l[q].1 true) l[q2].1 ↔ ec l q2 < k + 1) := fun q2 hq2 he => by
   rw [dJ K I hq R, I.gx q2 hq2 he]
   constructor
   ·rintro (g | g)
    ·omega
    ·have := K.inj q2 q hq2 hq g
     subst this; omega
   ·intro g
    rcases Nat.lt_trichotomy q2 q with h | h | h
    ·have := yG h (by omega) he; left; omega
    ·subst h; exact .inr rfl
    ·have := yG h (by omega) hb; omega
  have fin : ∀ cv w' φ₁, HR φ₁ (T (q + 1)).h w' → Step φ' (T q).h w φ₁ (T (q + 1)).h w' → (∀ t, t < 256 → (cn ops l q hq).dst = some t → VR φ₁ v cv) → Kt (a.put (cn ops l q hq).dst cv) w' := fun cv w' φ₁ h1 h2 h3 => by
   have hec2 := jc (l := l) (show q + 1 ≤ l.length by omega) (Nat.le_refl _)
   refine hn cv w' φ₁ (k + 1) pb (Inv.go K I hq R D.dst (by rw [hb]; simp) (by omega) (by omega) heffs (by rw [hbh]; exact h1) (by rw [hbh]; exact a3.trans h2) (aU.le_trans a1 h2.le) (fun t ht e => by rw [hreg t ht e]; exact h3 t ht e)
    (fun q2 hq2 hp hno t ht e => ?_) (fun q2 hq2 hp hge => ?_) h2.keeps.size)
   ·have e2 : ec l q2 = k := by have := hp.2.2; omega
    have hlt : q2 < q := by
     rcases Nat.lt_or_ge q2 q with g | g
     ·exact g
     ·have h5 : q2 ≠ q := by rintro rfl; have := hp.1; rw [hb] at this; cases this
      have := yG (l := l) (show q < q2 by omega) (by omega) hb
      omega
    exact (a4 q2 hq2 hlt hp.1 e2 t ht e).mono h2.le
   ·have hgt : q ≤ q2 := by
     rcases Nat.lt_or_ge q2 q with g | g
     ·have := jc (l := l) (show q2 ≤ q by omega) (by omega); omega
     ·exact g
    have b4 := a5 q2 hq2 hp hgt
    obtain ⟨_, _, _, _, _, _, _, b2, _⟩ := I.AW q2 hq2 hp
    refine ⟨h2.keeps.rest _ b2 (fun i pl hl hpl => b4 i pl hl.1 hpl), fun i pl hl hpl => ?_⟩
    rw [hbh] at hl
    rcases h2.new i pl hl hpl with ⟨g1, g2, _⟩ | g | ⟨j, s, g1, g2, g3⟩
    ·exact b4 i pl g1 g2
    ·omega
    ·rw [← g3]; exact b4 j s g1.1 g2
  cases wnt with
  | false =>
   rw [if_neg (by rw [hwt]; simp)]
   have hh : (T (q + 1)).h = (T q).h := hstp.2.1
   refine fin undef w φ' (by rw [hh]; exact a2) (by rw [hh]; exact .refl _ _ _) fun t _ _ => ?_
   rw [hstp.1]; exact rm
  | true =>
   rw [if_pos hwt]
   have hag : fi (T q).r (bV (T q).r (looks P G n names ops (cn ops l q hq))) x.aI := fun c y m => lG c y (hsub _ m)
   have hres : x.res p run (bV (T q).r (looks P G n names ops (cn ops l q hq))) (T q).h = .ok v (T (q + 1)).h := by
    rw [← vg hag]; exact hstp.1
   have S : St n G φ' (bV (T q).r (looks P G n names ops (cn ops l q hq))) (T q).h a w := St.mk' a2 (fun t ht => by
    rw [iA ht]
    split
    ·rename_i hm; exact hlk t ht hm
    ·exact .undef _) I.fT I.size (I.jD.mono a1)
   refine .inl (rk M CO S D.op D.dst (CQ hres) fun v' h' φ₁ cv w' hl S' T' => ?_)
   obtain ⟨rfl, rfl⟩ := yN hres hl
   exact fin cv w' φ₁ S'.hr T' fun t ht e => by
    have := S'.Pq t ht
    rw [hregR t ht e, e, aX (Nat.lt_of_lt_of_le (rC D.dst e).2 I.size)] at this
    exact this
end
end
section
variable {P : Program} {G : Gl} [NB G] {n : Nat} {names : List String} {ops : Array Oper} {p : Pg} {run : iP} {l : List (Nat × Bk)} {T : Nat → DS} {φ₀ φ φ' φ₁ : aU} {w₀ w w' : World} {L : Array Bool} {a : Act} {k k' : Nat} {pb : Nat → Nat} {r : A2} {h : Hp} {cv : Value}
theorem pH (hs : L.size = ops.size) {j : Nat} : j ∈ Region.ready .any ops L ↔ ¬ bA L j ∧ ∃ o, ops[j]? = some o ∧ ∀ e, e ∈ o.after → Region.binds .any e = true → bA L e.on := by
 rw [mem_ready]
 constructor
 ·rintro ⟨h1, o, h2, h3⟩
  refine ⟨fun g => ?_, o, h2, h3⟩
  have hj := En hs g
  unfold bA at g
  simp only [Array.getD_eq_getD_getElem?] at g h1
  rw [Array.getElem?_eq_getElem (by omega)] at g h1
  rw [Option.getD_some] at g h1
  rw [g] at h1; cases h1
 ·rintro ⟨h1, o, h2, h3⟩
  refine ⟨?_, o, h2, h3⟩
  have hj : j < L.size := by rw [hs]; exact (Array.getElem?_eq_some_iff.1 h2).1
  unfold bA at h1
  simp only [Array.getD_eq_getD_getElem?] at h1 ⊢
  rw [Array.getElem?_eq_getElem hj] at h1 ⊢
  rw [Option.getD_some] at h1 ⊢
  simpa using h1
theorem AX (K : Eg P G n names ops l) (hs : L.size = ops.size) (hr : Region.ready .any ops L = []) : ∀ j, j < ops.size → bA L j := by
 have go : ∀ m j, (oC ops.toList).getD j 0 = m → j < ops.size → bA L j := by
  intro m
  induction m using Nat.strongRecOn with
  | _ m ih =>
   intro j hm hj
   apply Classical.byContradiction
   intro hn
   have : j ∈ Region.ready .any ops L := (pH hs).2 ⟨hn, ops[j], by simp [hj], fun e he hb => by
    have := K.lt j ops[j] (by simp [hj]) e he hb
    exact ih _ (by omega) e.on rfl this.1⟩
   rw [hr] at this; cases this
 exact fun j hj => go _ j rfl hj
section
variable (K : Eg P G n names ops l) (hT : Trace P G n names ops p run l T) (h0 : (T 0).hs = []) (hg0 : (T 0).g = (T 0).h)
include K hT h0 hg0
theorem CR (I : Inv P G n names ops l T φ₀ w₀ L a w φ k pb) (hall : ∀ j, j < ops.size → bA L j) : ∃ φ', St n G φ' (T l.length).r (T l.length).h a w ∧ Step φ₀ (bh l T 0) w₀ φ' (T l.length).h w := by
 have hk : ec l l.length = k := by
  rcases Nat.lt_or_ge k (ec l l.length) with g | g
  ·obtain ⟨q, hq, _, he, e⟩ := oG (Nat.le_refl _) g
   have := (I.gx q hq he).1 (hall _ (K.RE q hq))
   omega
  ·have := I.Sv; omega
 obtain ⟨φ', a1, a2, a3, a4, _⟩ := yL K hT h0 hg0 I (q₁ := l.length) (Nat.le_refl _) hk fun q hq _ _ _ => hall _ (K.RE q hq)
 refine ⟨φ', St.mk' a2 (fun t ht => ?_) I.fT I.size (I.jD.mono a1), a3⟩
 obtain ⟨ra, rb⟩ := Hx K hT (q := l.length) (Nat.le_refl _) ht
 by_cases hw : ∃ q2, ∃ hq2 : q2 < l.length, (cn ops l q2 hq2).dst = some t
 ·obtain ⟨q2, hq2, hd⟩ := hw
  rw [ra q2 hq2 hd hq2]
  have hl2 := hall _ (K.RE q2 hq2)
  by_cases hp : ln l L k q2 hq2
  ·have h1 := jc (l := l) (show q2 ≤ l.length by omega) (Nat.le_refl _)
   have h2 := hp.2.2
   exact a4 q2 hq2 hq2 hp.1 (by omega) t ht hd
  ·exact (I.new t ht q2 hq2 hd hl2 hp).mono a1
 ·rw [rb fun q1 h1 e1 => absurd ⟨q1, h1, e1⟩ hw]
  exact (I.old t ht fun q1 h1 e1 => absurd ⟨q1, h1, e1⟩ hw).mono a1
theorem CS (M : nY P names p.ms) (CO : eg P G p run) {Q : Exit → Act → World → Prop} (hQ : ∀ φ' a w, St n G φ' (T l.length).r (T l.length).h a w → Step φ₀ (bh l T 0) w₀ φ' (T l.length).h w → Q .normal a w) :
  ∀ (fuel : Nat) (L : Array Bool) (a : Act) (w : World) (φ : aU) (k : Nat) (pb : Nat → Nat) (U : List Nat), Inv P G n names ops l T φ₀ w₀ L a w φ k pb → U.length ≤ fuel → (∀ j, j < ops.size → ¬ bA L j → j ∈ U) →
   wpAny P .any ops Q fuel L a w
 | 0, L, a, w, φ, k, pb, U, I, hl, hU => by
  have hall : ∀ j, j < ops.size → bA L j := fun j hj => Classical.byContradiction fun hn => by
   have := hU j hj hn
   have e : U = [] := List.eq_nil_of_length_eq_zero (by omega)
   rw [e] at this; cases this
  obtain ⟨φ', S, T'⟩ := CR K hT h0 hg0 I hall
  refine ⟨List.eq_nil_iff_forall_not_mem.2 fun j hj => ?_, hQ φ' a w S T'⟩
  obtain ⟨h1, o, h2, _⟩ := (pH I.sz).1 hj
  exact h1 (hall j (Array.getElem?_eq_some_iff.1 h2).1)
 | fuel + 1, L, a, w, φ, k, pb, U, I, hl, hU => by
  refine ⟨fun hr => ?_, fun i hi => ?_⟩
  ·obtain ⟨φ', S, T'⟩ := CR K hT h0 hg0 I (AX K I.sz hr)
   exact hQ φ' a w S T'
  ·obtain ⟨h1, o, h2, h3⟩ := (pH I.sz).1 hi
   have hi' : i < ops.size := (Array.getElem?_eq_some_iff.1 h2).1
   obtain ⟨q, hq, rfl⟩ := K.cover i hi'
   have R : Sw ops l L q hq := ⟨h1, by
    have := dn K hq
    rw [this] at h2
    cases h2; exact h3⟩
   refine HB K hT I hq R M CO h0 hg0 fun cv w' φ₁ k' pb' I' => ?_
   have hm := hU _ hi' h1
   refine CS M CO hQ fuel _ _ _ _ _ _ (U.erase l[q].1) I' (by rw [List.length_erase_of_mem hm]; omega) fun j hj hn => ?_
   have hn' := fun g => hn ((dJ K I hq R).2 g)
   exact (List.mem_erase_of_ne fun e => hn' (.inr e)).2 (hU j hj fun g => hn' (.inl g))
end
theorem PH (E : Env P G names p) : wK P G names p := by
 intro n run CO ops l kf r h φ a w Q hd S hs hQ
 have K := Pz hd
 obtain ⟨T, t1, t2, t3⟩ := yF l ⟨r, h, h, []⟩ (fun q hq => by
  cases hb : l[q].2 with
  | dZ => exact .inl rfl
  | rd m =>
   have := K.kind q hq
   rw [hb] at this
   simp only [sH] at this
   right
   split at this
   ·rename_i x hx
    refine ⟨?_, ?_⟩
    ·cases x with
     | op o => exact o
     | _ => cases this
    ·cases x with
     | op o => exact hx
     | _ => cases this
   ·cases this
  | new =>
   obtain ⟨_, ⟨x, hx, hn⟩, _⟩ := iy K hq hb
   right
   cases x with
   | op o => exact ⟨o, hx⟩
   | _ => cases hn) hs
 have hT : Trace P G n names ops p run l T := t2
 have h0 : (T 0).hs = [] := by rw [t1]
 have hg0 : (T 0).g = (T 0).h := by rw [t1]
 have hb0 : bh l T 0 = h := by
  have := LD hT h0 (q := 0) (by omega)
  rw [CJ] at this
  rw [this, t1]
 have hnl : ∀ j, ¬ bA (Array.replicate ops.size false) j := fun j hj => by
  unfold bA at hj
  simp only [Array.getD_eq_getD_getElem?, Array.getElem?_replicate] at hj
  split at hj <;> cases hj
 have S1 : Step φ h w φ h { w with drawn := w.drawn + 1 } := Step.heap rfl rfl rfl rfl
 have I : Inv P G n names ops l T φ w (Array.replicate ops.size false) a { w with drawn := w.drawn + 1 } φ 0 (fun _ => 0) := by
  refine ⟨by simp, fun j o _ hl => absurd hl (hnl j), by omega, fun q hq _ => ⟨fun hl => absurd hl (hnl _), fun g => by omega⟩, ?_, ?_, S.fT, S.size, S.jD, fun q hq hp => absurd hp.2.1 (hnl _), fun q q' hq hq' hp => absurd hp.2.1 (hnl _), fun t ht _ => ?_, fun t ht q hq _ hl => absurd hl (hnl _)⟩
  ·rw [hb0]; exact S.hr.ext (Nat.le_refl _) fun _ _ => rfl
  ·rw [hb0]; exact S1
  ·rw [t1]; exact S.Pq t ht
 refine (CS K hT h0 hg0 E.ms CO (fun φ' a' w' S' T' => ?_) ops.size _ _ _ _ _ _ (List.range ops.size) I (by simp) fun j hj _ => List.mem_range.2 hj)
 rw [hb0] at T'
 exact hQ _ _ φ' _ _ t3 S' T'
theorem CT (E : Env P G names p) (m f : Nat) (args : List AV) (vals : List Value) (hg : mF G φ) (H : HR φ h w) (hv : cU φ args vals) (hs : (aB p (exec p m) f args h).Safe) (hb : ∀ k, ak f p.fs ≠ .ext k) :
  Calls P f vals.toArray w (fB φ h w (aB p (exec p m) f args h)) := Lq E (PH E) m f args vals hg H hv hs hb
end
section
variable {P : Program} {G : Gl} {names : List String}
def HC (P : Program) (G : Gl) (names : List String) (f : Nat) (x : AF) : Prop := match x with
 | .none => True
 | .mk body res => qT P G names f body res
 | .uo k body res => qT P G names f body res ∧ wJ P G k f
 | .QB body res => qT P G names f body res
 | .ext k => Cc P G k f
theorem LH {n : Nat} (h : 15 ≤ n) : dG n = .hf := by
 obtain ⟨m, rfl⟩ : ∃ m, n = m + 15 := ⟨n - 15, by omega⟩
 rfl
theorem F1.get_nil (d : H) : F1.get d .nil = .none := by cases d <;> rfl
theorem F2.get_nil (d : H) : F2.get d .nil = .nil := by cases d <;> rfl
def Row (P : Program) (G : Gl) (names : List String) (b : Nat) (x : F1) : Prop := ∀ c : H, HC P G names (16 * b + c.nat) (F1.get c x)
def uk (P : Program) (G : Gl) (names : List String) (a : Nat) (x : F2) : Prop := ∀ b : H, Row P G names (16 * a + b.nat) (F2.get b x)
theorem Cd (b : Nat) : Row P G names b .nil := fun c => by rw [F1.get_nil]; trivial
theorem FH (a : Nat) : uk P G names a .nil := fun b => by rw [F2.get_nil]; exact Cd _
theorem HD {fs : F3} (h : ∀ a : H, uk P G names a.nat (F3.get a fs)) (ht : F3.get .hf fs = .nil) (f : Nat) : HC P G names f (ak f fs) := by
 show HC P G names f (F1.get (dG (f % 16)) (F2.get (dG (f / 16 % 16)) (F3.get (dG (f / 256)) fs)))
 rcases Nat.lt_or_ge (f / 256) 16 with g | g
 ·have := h (dG (f / 256)) (dG (f / 16 % 16)) (dG (f % 16))
  rw [fE g, fE (by omega), fE (by omega)] at this
  rw [show 16 * (16 * (f / 256) + f / 16 % 16) + f % 16 = f by omega] at this
  exact this
 ·rw [LH (by omega : 15 ≤ f / 256), ht, F2.get_nil, F1.get_nil]; trivial
theorem FL {p : Pg} (mixed : P.follows .mixedOrders = true) (ms : nY P names p.ms) (h : ∀ a : H, uk P G names a.nat (F3.get a p.fs)) (ht : F3.get .hf p.fs = .nil) : Env P G names p :=
 ⟨mixed, ms, fun f => HD h ht f⟩
end
section
variable {P : Program} {G : Gl} {names : List String}
def SR (P : Program) (names : List String) (t k f : Nat) : Bool := match names[k]?, P.info? t, P.underlying t with
 | some name, some info, some (.pointer _) => match info.methods.find? (·.name == name) with
  | some m => m.path.isEmpty && (match m.func with | some (g, true) => g == f | _ => false)
  | none => false
 | _, _, _ => false
def SS (P : Program) (names : List String) : List MR → Bool
 | [] => true
 | .mk t k f :: l => SR P names t k f && SS P names l
theorem PI {t k f : Nat} (h : SR P names t k f = true) : ∃ name info m e, names[k]? = some name ∧ P.info? t = some info ∧ info.methods.find? (·.name == name) = some m ∧ m.path = #[] ∧ m.func = some (f, true) ∧ P.underlying t = some (.pointer e) := by
 unfold SR at h
 split at h
 ·rename_i name info e h1 h2 h3
  split at h
  ·rename_i m h4
   simp only [Bool.and_eq_true] at h
   obtain ⟨h5, h6⟩ := h
   split at h6
   ·rename_i g h7
    refine ⟨name, info, m, e, h1, h2, h4, by simpa using h5, ?_, h3⟩
    rw [h7, (by simpa using h6 : g = f)]
   ·cases h6
  ·cases h
 ·cases h
theorem FK : ∀ {l : List MR}, SS P names l = true → nY P names l
 | [], _ => fun t k f hm => by cases hm
 | .mk t k f :: l, h => by
  simp only [SS, Bool.and_eq_true] at h
  intro t' k' f' hm
  rcases List.mem_cons.1 hm with e | hm
  ·cases e; exact PI h.1
  ·exact FK h.2 t' k' f' hm
end
end Go.Am
