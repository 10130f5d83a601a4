/- The walk: what each function of the program does at arguments that are not known; and what the law comes to. Conditions: the table of functions holds these functions. -/
import Derived.Test.YtjnmlmmfnbcnjaaGreatDoorW0
set_option linter.all false
namespace Go.Am.Seat
open Go.Cod
noncomputable section
variable {p : Pg} {h0 h h' h1 h2 : Hp} {q j k j1 j2 : P4} {s : Bs} {x y x1 x2 y1 y2 : AV}
theorem UI (a b : Int) : bK .eq (i64 a) (i64 b) h = .ok (.bool (decide (a = b))) h := En _ _ _
theorem eqs (s t : Bs) : bK .seq (bB s) (bB t) h = .ok (.bool (decide (s = t))) h := by
 show dh (.str _) (.str _) h = _
 rw [Kc, rD]
theorem Kd (T : Cx p) {e1 e2 : jA} (c1 : Cs h j1 0 (cZ x1 y1 e1)) (c2 : Cs h j2 0 (cZ x2 y2 e2)) (a1 : aO h x1 e1.bP) (a2 : aO h x2 e2.bP) (b1 : aZ h y1 e1.changes) (b2 : aZ h y2 e2.changes) {B : Nat} (bd : wO B e1) (hB : B < 9223372036854775807) :
  ∃ r', Os p (opsL (fst (bh x9))) (T25 (.ptr j1 0) (.ptr j2 0)) h (.nm r' h) ∧ y4 r' = .bool (decide (e1 = e2)) := by
 have v5 := Ke (p := p) T a1 a2 (by have := bd.2.2.2.2.2.1; omega)
 have v6 := Kf (p := p) T b1 b2 (by have := bd.2.2.2.2.2.2.2.1; omega) (fun c hc => by have := (bd.2.2.2.2.2.2.2.2 c hc).2.1; omega)
 have q0 := UI (h := h) e1.aK e2.aK
 by_cases g0 : e1.aK = e2.aK
 case neg =>
  rw [decide_eq_false g0] at q0
  exact ⟨_, .step (v := .ptr j1 0) (h' := h) rfl <| .step (v := i64 e1.aK) (h' := h) (cB c1 rfl) <| .step (v := .ptr j2 0) (h' := h) rfl <| .step (v := i64 e2.aK) (h' := h) (cB c2 rfl) <| .step (v := .bool false) (h' := h) q0 <| .step (v := .bool false) (h' := h) rfl <| .off rfl <| .off rfl <| .off rfl <| .off rfl <| .off rfl <| .step (v := .bool false) (h' := h) rfl <| .step (v := .bool false) (h' := h) rfl <| .off rfl <| .off rfl <| .off rfl <| .off rfl <| .off rfl <| .step (v := .bool false) (h' := h) rfl <| .step (v := .bool false) (h' := h) rfl <| .off rfl <| .off rfl <| .off rfl <| .off rfl <| .off rfl <| .step (v := .bool false) (h' := h) rfl <| .step (v := .bool false) (h' := h) rfl <| .off rfl <| .off rfl <| .off rfl <| .off rfl <| .off rfl <| .step (v := .bool false) (h' := h) rfl <| .step (v := .bool false) (h' := h) rfl <| .off rfl <| .off rfl <| .off rfl <| .off rfl <| .off rfl <| .step (v := .bool false) (h' := h) rfl <| .step (v := .bool false) (h' := h) rfl <| .off rfl <| .off rfl <| .off rfl <| .off rfl <| .off rfl <| .step (v := .bool false) (h' := h) rfl <| .step (v := .bool false) (h' := h) rfl <| .nil, by rw [decide_eq_false fun g => g0 (by rw [g])]; rfl⟩
 rw [decide_eq_true g0] at q0
 have q1 := UI (h := h) e1.seq e2.seq
 by_cases g1 : e1.seq = e2.seq
 case neg =>
  rw [decide_eq_false g1] at q1
  exact ⟨_, .step (v := .ptr j1 0) (h' := h) rfl <| .step (v := i64 e1.aK) (h' := h) (cB c1 rfl) <| .step (v := .ptr j2 0) (h' := h) rfl <| .step (v := i64 e2.aK) (h' := h) (cB c2 rfl) <| .step (v := .bool true) (h' := h) q0 <| .step (v := .bool true) (h' := h) rfl <| .on rfl <| .step (v := .ptr j1 1) (h' := h) rfl <| .on rfl <| .step (v := i64 e1.seq) (h' := h) (aw c1 1 rfl) <| .on rfl <| .step (v := .ptr j2 1) (h' := h) rfl <| .on rfl <| .step (v := i64 e2.seq) (h' := h) (aw c2 1 rfl) <| .on rfl <| .step (v := .bool false) (h' := h) q1 <| .step (v := .bool false) (h' := h) rfl <| .step (v := .bool false) (h' := h) rfl <| .off rfl <| .off rfl <| .off rfl <| .off rfl <| .off rfl <| .step (v := .bool false) (h' := h) rfl <| .step (v := .bool false) (h' := h) rfl <| .off rfl <| .off rfl <| .off rfl <| .off rfl <| .off rfl <| .step (v := .bool false) (h' := h) rfl <| .step (v := .bool false) (h' := h) rfl <| .off rfl <| .off rfl <| .off rfl <| .off rfl <| .off rfl <| .step (v := .bool false) (h' := h) rfl <| .step (v := .bool false) (h' := h) rfl <| .off rfl <| .off rfl <| .off rfl <| .off rfl <| .off rfl <| .step (v := .bool false) (h' := h) rfl <| .step (v := .bool false) (h' := h) rfl <| .off rfl <| .off rfl <| .off rfl <| .off rfl <| .off rfl <| .step (v := .bool false) (h' := h) rfl <| .step (v := .bool false) (h' := h) rfl <| .nil, by rw [decide_eq_false fun g => g1 (by rw [g])]; rfl⟩
 rw [decide_eq_true g1] at q1
 have q2 := UI (h := h) e1.kind e2.kind
 by_cases g2 : e1.kind = e2.kind
 case neg =>
  rw [decide_eq_false g2] at q2
  exact ⟨_, .step (v := .ptr j1 0) (h' := h) rfl <| .step (v := i64 e1.aK) (h' := h) (cB c1 rfl) <| .step (v := .ptr j2 0) (h' := h) rfl <| .step (v := i64 e2.aK) (h' := h) (cB c2 rfl) <| .step (v := .bool true) (h' := h) q0 <| .step (v := .bool true) (h' := h) rfl <| .on rfl <| .step (v := .ptr j1 1) (h' := h) rfl <| .on rfl <| .step (v := i64 e1.seq) (h' := h) (aw c1 1 rfl) <| .on rfl <| .step (v := .ptr j2 1) (h' := h) rfl <| .on rfl <| .step (v := i64 e2.seq) (h' := h) (aw c2 1 rfl) <| .on rfl <| .step (v := .bool true) (h' := h) q1 <| .step (v := .bool true) (h' := h) rfl <| .step (v := .bool true) (h' := h) rfl <| .on rfl <| .step (v := .ptr j1 2) (h' := h) rfl <| .on rfl <| .step (v := i64 e1.kind) (h' := h) (aw c1 2 rfl) <| .on rfl <| .step (v := .ptr j2 2) (h' := h) rfl <| .on rfl <| .step (v := i64 e2.kind) (h' := h) (aw c2 2 rfl) <| .on rfl <| .step (v := .bool false) (h' := h) q2 <| .step (v := .bool false) (h' := h) rfl <| .step (v := .bool false) (h' := h) rfl <| .off rfl <| .off rfl <| .off rfl <| .off rfl <| .off rfl <| .step (v := .bool false) (h' := h) rfl <| .step (v := .bool false) (h' := h) rfl <| .off rfl <| .off rfl <| .off rfl <| .off rfl <| .off rfl <| .step (v := .bool false) (h' := h) rfl <| .step (v := .bool false) (h' := h) rfl <| .off rfl <| .off rfl <| .off rfl <| .off rfl <| .off rfl <| .step (v := .bool false) (h' := h) rfl <| .step (v := .bool false) (h' := h) rfl <| .off rfl <| .off rfl <| .off rfl <| .off rfl <| .off rfl <| .step (v := .bool false) (h' := h) rfl <| .step (v := .bool false) (h' := h) rfl <| .nil, by rw [decide_eq_false fun g => g2 (by rw [g])]; rfl⟩
 rw [decide_eq_true g2] at q2
 have q3 := eqs (h := h) e1.name e2.name
 by_cases g3 : e1.name = e2.name
 case neg =>
  rw [decide_eq_false g3] at q3
  exact ⟨_, .step (v := .ptr j1 0) (h' := h) rfl <| .step (v := i64 e1.aK) (h' := h) (cB c1 rfl) <| .step (v := .ptr j2 0) (h' := h) rfl <| .step (v := i64 e2.aK) (h' := h) (cB c2 rfl) <| .step (v := .bool true) (h' := h) q0 <| .step (v := .bool true) (h' := h) rfl <| .on rfl <| .step (v := .ptr j1 1) (h' := h) rfl <| .on rfl <| .step (v := i64 e1.seq) (h' := h) (aw c1 1 rfl) <| .on rfl <| .step (v := .ptr j2 1) (h' := h) rfl <| .on rfl <| .step (v := i64 e2.seq) (h' := h) (aw c2 1 rfl) <| .on rfl <| .step (v := .bool true) (h' := h) q1 <| .step (v := .bool true) (h' := h) rfl <| .step (v := .bool true) (h' := h) rfl <| .on rfl <| .step (v := .ptr j1 2) (h' := h) rfl <| .on rfl <| .step (v := i64 e1.kind) (h' := h) (aw c1 2 rfl) <| .on rfl <| .step (v := .ptr j2 2) (h' := h) rfl <| .on rfl <| .step (v := i64 e2.kind) (h' := h) (aw c2 2 rfl) <| .on rfl <| .step (v := .bool true) (h' := h) q2 <| .step (v := .bool true) (h' := h) rfl <| .step (v := .bool true) (h' := h) rfl <| .on rfl <| .step (v := .ptr j1 3) (h' := h) rfl <| .on rfl <| .step (v := bB e1.name) (h' := h) (aw c1 3 rfl) <| .on rfl <| .step (v := .ptr j2 3) (h' := h) rfl <| .on rfl <| .step (v := bB e2.name) (h' := h) (aw c2 3 rfl) <| .on rfl <| .step (v := .bool false) (h' := h) q3 <| .step (v := .bool false) (h' := h) rfl <| .step (v := .bool false) (h' := h) rfl <| .off rfl <| .off rfl <| .off rfl <| .off rfl <| .off rfl <| .step (v := .bool false) (h' := h) rfl <| .step (v := .bool false) (h' := h) rfl <| .off rfl <| .off rfl <| .off rfl <| .off rfl <| .off rfl <| .step (v := .bool false) (h' := h) rfl <| .step (v := .bool false) (h' := h) rfl <| .off rfl <| .off rfl <| .off rfl <| .off rfl <| .off rfl <| .step (v := .bool false) (h' := h) rfl <| .step (v := .bool false) (h' := h) rfl <| .nil, by rw [decide_eq_false fun g => g3 (by rw [g])]; rfl⟩
 rw [decide_eq_true g3] at q3
 have q4 := eqs (h := h) e1.text e2.text
 by_cases g4 : e1.text = e2.text
 case neg =>
  rw [decide_eq_false g4] at q4
  exact ⟨_, .step (v := .ptr j1 0) (h' := h) rfl <| .step (v := i64 e1.aK) (h' := h) (cB c1 rfl) <| .step (v := .ptr j2 0) (h' := h) rfl <| .step (v := i64 e2.aK) (h' := h) (cB c2 rfl) <| .step (v := .bool true) (h' := h) q0 <| .step (v := .bool true) (h' := h) rfl <| .on rfl <| .step (v := .ptr j1 1) (h' := h) rfl <| .on rfl <| .step (v := i64 e1.seq) (h' := h) (aw c1 1 rfl) <| .on rfl <| .step (v := .ptr j2 1) (h' := h) rfl <| .on rfl <| .step (v := i64 e2.seq) (h' := h) (aw c2 1 rfl) <| .on rfl <| .step (v := .bool true) (h' := h) q1 <| .step (v := .bool true) (h' := h) rfl <| .step (v := .bool true) (h' := h) rfl <| .on rfl <| .step (v := .ptr j1 2) (h' := h) rfl <| .on rfl <| .step (v := i64 e1.kind) (h' := h) (aw c1 2 rfl) <| .on rfl <| .step (v := .ptr j2 2) (h' := h) rfl <| .on rfl <| .step (v := i64 e2.kind) (h' := h) (aw c2 2 rfl) <| .on rfl <| .step (v := .bool true) (h' := h) q2 <| .step (v := .bool true) (h' := h) rfl <| .step (v := .bool true) (h' := h) rfl <| .on rfl <| .step (v := .ptr j1 3) (h' := h) rfl <| .on rfl <| .step (v := bB e1.name) (h' := h) (aw c1 3 rfl) <| .on rfl <| .step (v := .ptr j2 3) (h' := h) rfl <| .on rfl <| .step (v := bB e2.name) (h' := h) (aw c2 3 rfl) <| .on rfl <| .step (v := .bool true) (h' := h) q3 <| .step (v := .bool true) (h' := h) rfl <| .step (v := .bool true) (h' := h) rfl <| .on rfl <| .step (v := .ptr j1 4) (h' := h) rfl <| .on rfl <| .step (v := bB e1.text) (h' := h) (aw c1 4 rfl) <| .on rfl <| .step (v := .ptr j2 4) (h' := h) rfl <| .on rfl <| .step (v := bB e2.text) (h' := h) (aw c2 4 rfl) <| .on rfl <| .step (v := .bool false) (h' := h) q4 <| .step (v := .bool false) (h' := h) rfl <| .step (v := .bool false) (h' := h) rfl <| .off rfl <| .off rfl <| .off rfl <| .off rfl <| .off rfl <| .step (v := .bool false) (h' := h) rfl <| .step (v := .bool false) (h' := h) rfl <| .off rfl <| .off rfl <| .off rfl <| .off rfl <| .off rfl <| .step (v := .bool false) (h' := h) rfl <| .step (v := .bool false) (h' := h) rfl <| .nil, by rw [decide_eq_false fun g => g4 (by rw [g])]; rfl⟩
 rw [decide_eq_true g4] at q4
 have q5 := v5
 by_cases g5 : e1.bP = e2.bP
 case neg =>
  rw [decide_eq_false g5] at q5
  exact ⟨_, .step (v := .ptr j1 0) (h' := h) rfl <| .step (v := i64 e1.aK) (h' := h) (cB c1 rfl) <| .step (v := .ptr j2 0) (h' := h) rfl <| .step (v := i64 e2.aK) (h' := h) (cB c2 rfl) <| .step (v := .bool true) (h' := h) q0 <| .step (v := .bool true) (h' := h) rfl <| .on rfl <| .step (v := .ptr j1 1) (h' := h) rfl <| .on rfl <| .step (v := i64 e1.seq) (h' := h) (aw c1 1 rfl) <| .on rfl <| .step (v := .ptr j2 1) (h' := h) rfl <| .on rfl <| .step (v := i64 e2.seq) (h' := h) (aw c2 1 rfl) <| .on rfl <| .step (v := .bool true) (h' := h) q1 <| .step (v := .bool true) (h' := h) rfl <| .step (v := .bool true) (h' := h) rfl <| .on rfl <| .step (v := .ptr j1 2) (h' := h) rfl <| .on rfl <| .step (v := i64 e1.kind) (h' := h) (aw c1 2 rfl) <| .on rfl <| .step (v := .ptr j2 2) (h' := h) rfl <| .on rfl <| .step (v := i64 e2.kind) (h' := h) (aw c2 2 rfl) <| .on rfl <| .step (v := .bool true) (h' := h) q2 <| .step (v := .bool true) (h' := h) rfl <| .step (v := .bool true) (h' := h) rfl <| .on rfl <| .step (v := .ptr j1 3) (h' := h) rfl <| .on rfl <| .step (v := bB e1.name) (h' := h) (aw c1 3 rfl) <| .on rfl <| .step (v := .ptr j2 3) (h' := h) rfl <| .on rfl <| .step (v := bB e2.name) (h' := h) (aw c2 3 rfl) <| .on rfl <| .step (v := .bool true) (h' := h) q3 <| .step (v := .bool true) (h' := h) rfl <| .step (v := .bool true) (h' := h) rfl <| .on rfl <| .step (v := .ptr j1 4) (h' := h) rfl <| .on rfl <| .step (v := bB e1.text) (h' := h) (aw c1 4 rfl) <| .on rfl <| .step (v := .ptr j2 4) (h' := h) rfl <| .on rfl <| .step (v := bB e2.text) (h' := h) (aw c2 4 rfl) <| .on rfl <| .step (v := .bool true) (h' := h) q4 <| .step (v := .bool true) (h' := h) rfl <| .step (v := .bool true) (h' := h) rfl <| .on rfl <| .step (v := .ptr j1 5) (h' := h) rfl <| .on rfl <| .step (v := x1) (h' := h) (aw c1 5 rfl) <| .on rfl <| .step (v := .ptr j2 5) (h' := h) rfl <| .on rfl <| .step (v := x2) (h' := h) (aw c2 5 rfl) <| .on rfl <| .call (v := .bool false) (h' := h) q5 <| .step (v := .bool false) (h' := h) rfl <| .step (v := .bool false) (h' := h) rfl <| .off rfl <| .off rfl <| .off rfl <| .off rfl <| .off rfl <| .step (v := .bool false) (h' := h) rfl <| .step (v := .bool false) (h' := h) rfl <| .nil, by rw [decide_eq_false fun g => g5 (by rw [g])]; rfl⟩
 rw [decide_eq_true g5] at q5
 have q6 := v6
 by_cases g6 : e1.changes = e2.changes
 case neg =>
  rw [decide_eq_false g6] at q6
  exact ⟨_, .step (v := .ptr j1 0) (h' := h) rfl <| .step (v := i64 e1.aK) (h' := h) (cB c1 rfl) <| .step (v := .ptr j2 0) (h' := h) rfl <| .step (v := i64 e2.aK) (h' := h) (cB c2 rfl) <| .step (v := .bool true) (h' := h) q0 <| .step (v := .bool true) (h' := h) rfl <| .on rfl <| .step (v := .ptr j1 1) (h' := h) rfl <| .on rfl <| .step (v := i64 e1.seq) (h' := h) (aw c1 1 rfl) <| .on rfl <| .step (v := .ptr j2 1) (h' := h) rfl <| .on rfl <| .step (v := i64 e2.seq) (h' := h) (aw c2 1 rfl) <| .on rfl <| .step (v := .bool true) (h' := h) q1 <| .step (v := .bool true) (h' := h) rfl <| .step (v := .bool true) (h' := h) rfl <| .on rfl <| .step (v := .ptr j1 2) (h' := h) rfl <| .on rfl <| .step (v := i64 e1.kind) (h' := h) (aw c1 2 rfl) <| .on rfl <| .step (v := .ptr j2 2) (h' := h) rfl <| .on rfl <| .step (v := i64 e2.kind) (h' := h) (aw c2 2 rfl) <| .on rfl <| .step (v := .bool true) (h' := h) q2 <| .step (v := .bool true) (h' := h) rfl <| .step (v := .bool true) (h' := h) rfl <| .on rfl <| .step (v := .ptr j1 3) (h' := h) rfl <| .on rfl <| .step (v := bB e1.name) (h' := h) (aw c1 3 rfl) <| .on rfl <| .step (v := .ptr j2 3) (h' := h) rfl <| .on rfl <| .step (v := bB e2.name) (h' := h) (aw c2 3 rfl) <| .on rfl <| .step (v := .bool true) (h' := h) q3 <| .step (v := .bool true) (h' := h) rfl <| .step (v := .bool true) (h' := h) rfl <| .on rfl <| .step (v := .ptr j1 4) (h' := h) rfl <| .on rfl <| .step (v := bB e1.text) (h' := h) (aw c1 4 rfl) <| .on rfl <| .step (v := .ptr j2 4) (h' := h) rfl <| .on rfl <| .step (v := bB e2.text) (h' := h) (aw c2 4 rfl) <| .on rfl <| .step (v := .bool true) (h' := h) q4 <| .step (v := .bool true) (h' := h) rfl <| .step (v := .bool true) (h' := h) rfl <| .on rfl <| .step (v := .ptr j1 5) (h' := h) rfl <| .on rfl <| .step (v := x1) (h' := h) (aw c1 5 rfl) <| .on rfl <| .step (v := .ptr j2 5) (h' := h) rfl <| .on rfl <| .step (v := x2) (h' := h) (aw c2 5 rfl) <| .on rfl <| .call (v := .bool true) (h' := h) q5 <| .step (v := .bool true) (h' := h) rfl <| .step (v := .bool true) (h' := h) rfl <| .on rfl <| .step (v := .ptr j1 6) (h' := h) rfl <| .on rfl <| .step (v := y1) (h' := h) (aw c1 6 rfl) <| .on rfl <| .step (v := .ptr j2 6) (h' := h) rfl <| .on rfl <| .step (v := y2) (h' := h) (aw c2 6 rfl) <| .on rfl <| .call (v := .bool false) (h' := h) q6 <| .step (v := .bool false) (h' := h) rfl <| .step (v := .bool false) (h' := h) rfl <| .nil, by rw [decide_eq_false fun g => g6 (by rw [g])]; rfl⟩
 rw [decide_eq_true g6] at q6
 exact ⟨_, .step (v := .ptr j1 0) (h' := h) rfl <| .step (v := i64 e1.aK) (h' := h) (cB c1 rfl) <| .step (v := .ptr j2 0) (h' := h) rfl <| .step (v := i64 e2.aK) (h' := h) (cB c2 rfl) <| .step (v := .bool true) (h' := h) q0 <| .step (v := .bool true) (h' := h) rfl <| .on rfl <| .step (v := .ptr j1 1) (h' := h) rfl <| .on rfl <| .step (v := i64 e1.seq) (h' := h) (aw c1 1 rfl) <| .on rfl <| .step (v := .ptr j2 1) (h' := h) rfl <| .on rfl <| .step (v := i64 e2.seq) (h' := h) (aw c2 1 rfl) <| .on rfl <| .step (v := .bool true) (h' := h) q1 <| .step (v := .bool true) (h' := h) rfl <| .step (v := .bool true) (h' := h) rfl <| .on rfl <| .step (v := .ptr j1 2) (h' := h) rfl <| .on rfl <| .step (v := i64 e1.kind) (h' := h) (aw c1 2 rfl) <| .on rfl <| .step (v := .ptr j2 2) (h' := h) rfl <| .on rfl <| .step (v := i64 e2.kind) (h' := h) (aw c2 2 rfl) <| .on rfl <| .step (v := .bool true) (h' := h) q2 <| .step (v := .bool true) (h' := h) rfl <| .step (v := .bool true) (h' := h) rfl <| .on rfl <| .step (v := .ptr j1 3) (h' := h) rfl <| .on rfl <| .step (v := bB e1.name) (h' := h) (aw c1 3 rfl) <| .on rfl <| .step (v := .ptr j2 3) (h' := h) rfl <| .on rfl <| .step (v := bB e2.name) (h' := h) (aw c2 3 rfl) <| .on rfl <| .step (v := .bool true) (h' := h) q3 <| .step (v := .bool true) (h' := h) rfl <| .step (v := .bool true) (h' := h) rfl <| .on rfl <| .step (v := .ptr j1 4) (h' := h) rfl <| .on rfl <| .step (v := bB e1.text) (h' := h) (aw c1 4 rfl) <| .on rfl <| .step (v := .ptr j2 4) (h' := h) rfl <| .on rfl <| .step (v := bB e2.text) (h' := h) (aw c2 4 rfl) <| .on rfl <| .step (v := .bool true) (h' := h) q4 <| .step (v := .bool true) (h' := h) rfl <| .step (v := .bool true) (h' := h) rfl <| .on rfl <| .step (v := .ptr j1 5) (h' := h) rfl <| .on rfl <| .step (v := x1) (h' := h) (aw c1 5 rfl) <| .on rfl <| .step (v := .ptr j2 5) (h' := h) rfl <| .on rfl <| .step (v := x2) (h' := h) (aw c2 5 rfl) <| .on rfl <| .call (v := .bool true) (h' := h) q5 <| .step (v := .bool true) (h' := h) rfl <| .step (v := .bool true) (h' := h) rfl <| .on rfl <| .step (v := .ptr j1 6) (h' := h) rfl <| .on rfl <| .step (v := y1) (h' := h) (aw c1 6 rfl) <| .on rfl <| .step (v := .ptr j2 6) (h' := h) rfl <| .on rfl <| .step (v := y2) (h' := h) (aw c2 6 rfl) <| .on rfl <| .call (v := .bool true) (h' := h) q6 <| .step (v := .bool true) (h' := h) rfl <| .step (v := .bool true) (h' := h) rfl <| .nil, by rw [decide_eq_true (show e1 = e2 by cases e1; cases e2; simp_all)]; rfl⟩
theorem Eo (T : Cx p) {l1 l2 : List AV} {e1 e2 : jA} (W : Wf h) (a : eE h l1 e1) (b : eE h l2 e2) {B : Nat} (bd : wO B e1) (hB : B < 9223372036854775807) : ∃ h', Cv p 9 [.agg l1, .agg l2] h (.bool (decide (e1 = e2))) h' ∧ Old h h' ∧ Wf h' := by
 obtain ⟨x1, y1, rfl, r1, r2⟩ := a
 obtain ⟨x2, y2, rfl, r3, r4⟩ := b
 obtain ⟨j1, h1, f1, f2, f3, f4, f5, _⟩ := oh (el := 25) (l := cZ x1 y1 e1) W (by simp [cZ])
 obtain ⟨j2, h2, g1, g2, g3, g4, g5, _⟩ := oh (el := 25) (l := cZ x2 y2 e2) f5 (by simp [cZ])
 have O := f4.trans g4
 obtain ⟨r', o1, o2⟩ := Kd (p := p) T ((Ob.c0 f3).old g4) (Ob.c0 g3) (aO.up r1 O) (aO.up r3 O) (aZ.up r2 O) (aZ.up r4 O) bd hB
 refine ⟨h2, .of (r' := r') (h1 := h2) T.e67 (by simp) (.ef (r' := T25 (.ptr j1 0) (.ptr j2 0)) (h' := h2) (fun c i K => ?_) (.seq (.ops o1) .ret)) ?_, O, g5⟩
 ·simp only [k9_0, K2, gT, gU]
  (rw [lJ f1, lJ g1]; try rfl)
 ·show RV.ok (y4 r') h2 = _
  rw [o2]
theorem Gm (e13 : aq 10 p.fs = f10) (c : Int) (hc : dL c) (n : Nat) (hn : n < 4611686018427387904) : ∃ k : Nat, k ≤ n ∧ Cv p 10 [i64 c, i0, i64 n] h (i64 k) h := by
 have w1 : ∀ K : AV → Hp → RS, Seat.Z (i64 n) i0 h K = K (i64 n) h := fun K => by
  show Seat.Z (i64 n) (i64 0) h K = _
  rw [Ep, lO _ (by unfold dL; omega)]
  simp
 have w2 : ∀ K : AV → Hp → RS, Seat.D (i64 n) i1 h K = K (i64 ((n + 1 : Nat) : Int)) h := fun K => by
  show Seat.D (i64 n) (i64 1) h K = _
  rw [mG, lO _ (by unfold dL; omega)]; rfl
 have w3 : DR (i64 c) (i64 ((n + 1 : Nat) : Int)) h = .ok (i64 (c.tmod ((n + 1 : Nat) : Int))) h := by
  have : IU c (Int.ofNat (n + 1)) = c.tmod (Int.ofNat (n + 1)) := by cases c <;> rfl
  show MW (.int .i64 (IU c (Int.ofNat (n + 1)))) h = _
  rw [this]; rfl
 have hb1 : -((n : Int)) ≤ c.tmod ((n + 1 : Nat) : Int) ∧ c.tmod ((n + 1 : Nat) : Int) ≤ n := by
  have a1 := Int.tmod_lt_of_pos c (show (0 : Int) < ((n + 1 : Nat) : Int) by omega)
  have a2 := Int.lt_tmod_of_pos c (show (0 : Int) < ((n + 1 : Nat) : Int) by omega)
  omega
 generalize hg : c.tmod ((n + 1 : Nat) : Int) = g at *
 by_cases hneg : g < 0
 ·refine ⟨(g + (n + 1)).toNat, by omega, .of (r' := T28 (i64 ((g + (n + 1)).toNat : Nat))) (h1 := h) e13 (by simp) (.ef (r' := T27 (i64 (g + (n + 1))) i0) (h' := h) (fun c i K => ?_) (.aR fun c i K => ?_)) rfl⟩
  ·simp only [k10_0, K3, wP, wQ, wR]
   have d1 : ∀ K : AV → Hp → RS, Seat.D (i64 g) (i64 n) h K = K (i64 (g + n)) h := fun K => by rw [mG, lO _ (by unfold dL; omega)]
   have d2 : ∀ K : AV → Hp → RS, Seat.Z (i64 (g + n)) i0 h K = K (i64 (g + n)) h := fun K => by
    show Seat.Z (i64 (g + n)) (i64 0) h K = _
    rw [Ep, lO _ (by unfold dL; omega)]
    simp
   have d3 : ∀ K : AV → Hp → RS, Seat.D (i64 (g + n)) i1 h K = K (i64 (g + (n + 1))) h := fun K => by
    show Seat.D (i64 (g + n)) (i64 1) h K = _
    rw [mG, lO _ (by unfold dL; omega), Int.add_assoc]
   have y0 : ∀ K : AV → Hp → RS, Seat.Y (i64 g) i0 h K = K (.bool true) h := fun K => by
    show Seat.Y (i64 g) (i64 0) h K = _
    rw [bA, decide_eq_true hneg]
   (rw [w1, w2, aH w3, y0, gY, d1, d2, d3]; try rfl)
  ·simp only [k10_1, K2, mH, mI]
   have d4 : ∀ K : AV → Hp → RS, Seat.D i0 (i64 (g + (n + 1))) h K = K (i64 ((g + (n + 1)).toNat : Nat)) h := fun K => by
    show Seat.D (i64 0) (i64 (g + (n + 1))) h K = _
    rw [mG, lO _ (by unfold dL; omega), show (0 : Int) + (g + (n + 1)) = (((g + (n + 1)).toNat : Nat) : Int) by omega]
   (rw [d4]; try rfl)
 ·refine ⟨g.toNat, by omega, .of (r' := T28 (i64 (g.toNat : Nat))) (h1 := h) e13 (by simp) (.ef (r' := T27 (i64 g) i0) (h' := h) (fun c i K => ?_) (.aR fun c i K => ?_)) rfl⟩
  ·simp only [k10_0, K3, wP, wQ, wR]
   have y0 : ∀ K : AV → Hp → RS, Seat.Y (i64 g) i0 h K = K (.bool false) h := fun K => by
    show Seat.Y (i64 g) (i64 0) h K = _
    rw [bA, decide_eq_false hneg]
   (rw [w1, w2, aH w3, y0, fK]; try rfl)
  ·simp only [k10_1, K2, mH, mI]
   have d4 : ∀ K : AV → Hp → RS, Seat.D i0 (i64 g) h K = K (i64 (g.toNat : Nat)) h := fun K => by
    show Seat.D (i64 0) (i64 g) h K = _
    rw [mG, lO _ (by unfold dL; omega), show (0 : Int) + g = ((g.toNat : Nat) : Int) by omega]
   (rw [d4]; try rfl)
end
open Go.Cod
noncomputable section
variable {p : Pg} {h0 h h' h1 h2 h3 : Hp} {q j k js : P4} {s : Bs} {x y xc xg : AV} {r rr : Rd} {L : List AV}
def Fz (q j : P4) (h h' : Hp) : Prop := ∀ k, k ≠ q → k ≠ j → ag k h ≠ .none → ag k h' = ag k h
theorem Fz.refl (q j : P4) (h : Hp) : Fz q j h h := fun _ _ _ _ => rfl
theorem Fz.trans (a : Fz q j h h1) (b : Fz q j h1 h2) : Fz q j h h2 := fun k hq hj hk => (b k hq hj (by rw [a k hq hj hk]; exact hk)).trans (a k hq hj hk)
theorem Fz.fst (F : Fr q h h') : Fz q j h h' := fun k hq _ hk => F k hq hk
theorem Fz.snd (F : Fr j h h') : Fz q j h h' := fun k _ hj hk => F k hj hk
theorem Fz.of (O : Old h h') : Fz q j h h' := fun k _ _ hk => O k hk
theorem Fz.old (F : Fz q j h h') (O : Old h0 h) (hq : ag q h0 = .none) (hj : ag j h0 = .none) : Old h0 h' := fun k hk => by
 have e := O k hk
 rw [F k (fun g => by rw [g] at hk; exact hk hq) (fun g => by rw [g] at hk; exact hk hj) (by rw [e]; exact hk), e]
theorem Fz.set (F : Fz q j h h') (hk : ag k h = .none) (g : ∀ i, i ≠ k → ag i h1 = ag i h') : Fz q j h h1 := fun i hq hj hn => by
 rw [g i (fun e => by rw [e] at hn; exact hn hk), F i hq hj hn]
theorem Fz.none (F : Fz q j h h') (hq : ag q h' ≠ .none) (hj : ag j h' ≠ .none) (hk : ag k h' = .none) : ag k h = .none := by
 have e1 : k ≠ q := fun e => by rw [e] at hk; exact hq hk
 have e2 : k ≠ j := fun e => by rw [e] at hk; exact hj hk
 cases g : ag k h with
 | none => rfl
 | _ =>
  have := F k e1 e2 (by rw [g]; simp)
  rw [hk, g] at this
  cases this
def sq (s : So) : Sp := ⟨s.kind, s.aK, s.node, s.n, s.name, s.entry⟩
end
open Go.Cod
set_option maxRecDepth 20000
noncomputable section
variable {p : Pg} {h0 h h' h1 h2 h3 : Hp} {q j k js : P4} {s l : Bs} {x y v d xc xg : AV} {r rr : Rd} {L : List AV}
def wT (b : P4 → Prop) (h : Hp) (x : AV) (ss : List So) : Prop := ∃ L : List (AV × AV), L.length = ss.length ∧ dX h x 28 12 (List.zipWith (fun z s => UJ z.1 z.2 (sq s)) L ss).flatten b ∧
 ∀ i (h1 : i < L.length) (h2 : i < ss.length), dX h L[i].1 41 2 (ss[i].entry.bP.flatMap LR) (fun _ => True) ∧ sg (fun _ => True) h L[i].2 ss[i].entry.changes ∧ wO 65535 ss[i].entry
theorem wT.fk {b : P4 → Prop} {ss : List So} (w : wT b h x ss) (g : ∀ k el fl l, Ob h k el false fl l → ag k h' = ag k h) : wT b h' x ss := by
 obtain ⟨L, e1, e2, e3⟩ := w
 exact ⟨L, e1, e2.fk fun k fl l o => g k _ _ _ o, fun i h1 h2 => ⟨(e3 i h1 h2).1.fk fun k fl l o => g k _ _ _ o, (e3 i h1 h2).2.1.fk fun k el fl l o _ => g k _ _ _ o, (e3 i h1 h2).2.2⟩⟩
theorem Kg {b : P4 → Prop} {ss : List So} (w : wT b h x ss) : Ry h x (ss.map sq) := by
 obtain ⟨L, e1, e2, e3⟩ := w
 refine th (by omega) e2 (by simp [e1]) fun i h1 h2 => ?_
 have hx : i < L.length := by simp [e1] at h1; omega
 have hs : i < ss.length := by omega
 obtain ⟨a, b, _⟩ := e3 i hx hs
 refine ⟨by simp [UJ, cZ], L[i].1, L[i].2, by simp, ?_, ?_⟩
 ·simp only [List.getElem_map]
  exact pX a
 ·simp only [List.getElem_map]
  exact pY b
variable {xs : List So}
theorem wT.len {b : P4 → Prop} (w : wT b h v xs) : Am.len v h = .ok (i64 xs.length) h := by
 have := dt.len (Kg w)
 rwa [List.length_map] at this
end
open Go.Cod
noncomputable section
variable {p : Pg} {h hb h' h2 h0 : Hp} {q j : P4} {x y v a b d e f g : AV} {o : Nat}
theorem Cs.app {l m : List AV} (a : Cs h q o l) (b : Cs h q (o + l.length) m) : Cs h q o (l ++ m) := by
 obtain ⟨el, n, ex, fl, c, e, r1, r2⟩ := a
 obtain ⟨el', n', ex', fl', c', e', s1, s2⟩ := b
 rw [e] at e'
 cases e'
 refine ⟨el, n, ex, fl, c, e, by rw [List.length_append]; omega, fun k hk => ?_⟩
 by_cases hkl : k < l.length
 ·rw [List.getElem_append_left hkl, r2 k hkl]
 ·rw [List.getElem_append_right (by omega), ← s2 (k - l.length) (by simp at hk; omega)]
  congr 1; omega
theorem Gn {row : List lQ} (r : dP h x row) : ∃ q o, vO x 3 row.length q o ∧ (row.length ≠ 0 → Cs h q o (row.flatMap jc)) := by
 obtain ⟨q, o, sl, g⟩ := dt.sl r
 have g : ∀ i (hi : i < row.length), Cs h q (o + i * 3) (jc row[i]) := fun i hi => by
  obtain ⟨l, _, l2, rfl⟩ := g i hi; exact l2
 refine ⟨q, o, sl, fun hn => ?_⟩
 have key : ∀ k, k < row.length → Cs h q o ((row.take (k + 1)).flatMap jc) := by
  intro k
  induction k with
  | zero =>
   intro hk
   rw [PI hk]
   simpa using g 0 hk
  | succ k ih =>
   intro hk
   rw [PI hk]
   refine Cs.app (ih (by omega)) ?_
   rw [gp, List.length_take, Nat.min_eq_left (by omega)]
   exact g (k + 1) hk
 have := key (row.length - 1) (by omega)
 rw [show row.length - 1 + 1 = row.length by omega, List.take_length] at this
 exact this
theorem Nu (W : Wf h) {row : List lQ} (r : dP h x row) (hl : row.length * 3 ≤ 16777216) :
  ∃ g hA l hB, Seat.bs 50 3 0 [] [] h = .ok g hA ∧ lj 50 3 g x hA = .ok l hB ∧ nM hB l row (fun j => ag j h = .none) ∧ Old h hB ∧ Wf hB := by
 obtain ⟨j, h1, f1, f2, f3, f4, f5, f6⟩ := iL (el := 50) (es := 3) (n := 0) (z := []) (ps := []) (l := []) W rfl rfl (by simp)
 obtain ⟨q, o, sl, c⟩ := Gn (dP.up r f4)
 obtain ⟨v, h2, c1, c2, c3, c4⟩ := iM (m := row.length) (es := 3) f5 (x := .slice j 0 0 0) (b := fun _ => False) (el := 50) (l := []) (.inl ⟨rfl, .inr ⟨j, rfl⟩⟩) (by omega) (new := row.flatMap jc) (gp row) (by rw [gp]; simp; omega)
 have O : Old h h2 := fun k hk => by
  have e := f4 k hk
  rw [c4 k (by rw [e]; exact hk) (fun g => g), e]
 refine ⟨_, h1, v, h2, f1, by rw [gu sl (by omega) c (gp row) (by omega)]; exact c1, ?_, O, c3⟩
 rw [List.nil_append] at c2
 rcases c2 with ⟨e, hv⟩ | ⟨q, n, rfl, e2, e3, e4⟩
 ·have := gp row
  rw [e, List.length_nil] at this
  exact .inl ⟨List.length_eq_zero_iff.1 (by omega), hv⟩
 ·have hn : n = row.length := by rw [gp] at e2; omega
  subst hn
  refine .inr ⟨q, [], rfl, by rw [List.append_nil]; exact e3, ?_⟩
  rcases e4 with e4 | e4
  ·exact e4.elim
  ·exact f4.none e4
theorem UL {B : P4 → Prop} {row : List lQ} (w : nM h g row B) (hc : 7 < row.length) : ∃ v, fN 3 (.c g) .none (.some (.c (pi 7))) .none .nil h = .ok v h ∧ nM h v (row.take 7) B := by
 rcases w with ⟨rfl, _⟩ | ⟨q, rest, rfl, o, hb⟩
 ·simp at hc
 ·have e : row.flatMap jc ++ rest = (row.take 7).flatMap jc ++ ((row.drop 7).flatMap jc ++ rest) := by
   conv => lhs; rw [← List.take_append_drop 7 row]
   rw [List.flatMap_append, List.append_assoc]
  have hlen : 21 ≤ (row.flatMap jc ++ rest).length := by rw [List.length_append, gp]; omega
  refine ⟨.fq q 0 7 3, ?_, .inr ⟨q, (row.drop 7).flatMap jc ++ rest, by rw [List.length_take, Nat.min_eq_left (by omega)], by rw [← e]; exact o, hb⟩⟩
  obtain ⟨c, e1, e2, e3⟩ := o
  show (Obj.aU (ag q h) (fun _ k _ _ _ => @Bool.rec (fun _ => RV) (.err 45) (.ok (.fq q 0 7 3) h) (Nat.ble 21 k)) (.err 46) : RV) = _
  rw [e1]
  show (@Bool.rec (fun _ => RV) (.err 45) (.ok (.fq q 0 7 3) h) (Nat.ble 21 (row.flatMap jc ++ rest).length)) = _
  rw [Nat.ble_eq_true_of_le hlen]
end
open Go.Cod
noncomputable section
variable {p : Pg} {h hb h' h2 h0 : Hp} {q j : P4} {x y v a b d e f g : AV} {o : Nat}
theorem nM.one {B : P4 → Prop} {row : List lQ} (w : nM h g row B) : g.one = true := by
 rcases w with ⟨_, rfl | ⟨q, rfl⟩⟩ | ⟨q, rest, rfl, _⟩ <;> rfl
theorem Er {n i : Nat} {dv : AV} (hl : Am.len x h = .ok (.int .i64 (n : Int)) h) : ∃ r', Os p (opsL (dp 6 (bh x14))) (T35 x (i64 9) dv (i64 i)) h (.nm r' h) ∧ y0 r' = x ∧ y1 r' = i64 9 ∧ y5 r' = dv ∧ y6 r' = i64 i ∧ y18 r' = .bool (decide ((i : Int) < n) && decide ((i : Int) < 9)) := by
 have l1 : bK .lt (i64 i) (i64 n) h = .ok (.bool (decide ((i : Int) < n))) h := AM _ _ _
 have l2 : bK .lt (i64 i) (i64 9) h = .ok (.bool (decide ((i : Int) < 9))) h := AM _ _ _
 cases hc : decide ((i : Int) < n) with
 | true =>
  rw [hc] at l1
  exact ⟨_, .step (v := i64 i) (h' := h) rfl <| .step (v := x) (h' := h) rfl <| .step (v := i64 n) (h' := h) hl <| .step (v := .bool true) (h' := h) l1 <| .step (v := .bool true) (h' := h) rfl <|
   .on rfl <| .step (v := i64 i) (h' := h) rfl <| .on rfl <| .step (v := i64 9) (h' := h) rfl <| .on rfl <| .step (v := .bool (decide ((i : Int) < 9))) (h' := h) l2 <| .step (v := .bool (decide ((i : Int) < 9))) (h' := h) rfl <| .nil, rfl, rfl, rfl, rfl, rfl⟩
 | false =>
  rw [hc] at l1
  exact ⟨_, .step (v := i64 i) (h' := h) rfl <| .step (v := x) (h' := h) rfl <| .step (v := i64 n) (h' := h) hl <| .step (v := .bool false) (h' := h) l1 <| .step (v := .bool false) (h' := h) rfl <|
   .off rfl <| .off rfl <| .off rfl <| .step (v := .bool false) (h' := h) rfl <| .nil, rfl, rfl, rfl, rfl, rfl⟩
theorem gE.mono : ∀ (h1 h2 : Hp) (l : List AV) (a : nu), Old h1 h2 → gE h1 l a → gE h2 l a := fun _ _ _ _ O r => gE.up r O
theorem Gp (e24 : aq 13 p.fs = f13) {cs : List nu} {ys : List nu} {i : Nat} {dv : AV} (w : Lb h0 hb h dv 48 3 gE ys) (O0 : Old hb h) (r : aZ hb x cs) (hi : i < cs.length) (hr : ∀ c, c ∈ cs → c.row.length ≤ 1048576) (hy : ys.length ≤ 1000) :
  ∃ v' h', Rn p (dp 1 (dp 1 (bh (dp 4 (bh x14))))) (T35 x (i64 9) dv (i64 i)) h (.nm (T35 x (i64 9) v' (i64 i)) h') ∧ Lb h0 hb h' v' 48 3 gE (ys ++ [mJ cs[i]]) := by
 obtain ⟨q', o', sl, g⟩ := dt.sl r
 obtain ⟨l, l1, l2, z, rfl, hrow⟩ := g i hi
 obtain ⟨j, h1, c1, c2, c3, c4, c5, _⟩ := AN (el := 48) w.wf sl hi (l2.old O0) l1 (c0 := .k1 (Y3 iS .ar (.bool false))) trivial (by decide)
 have hrl := hr cs[i] (by simp)
 generalize hc : cs[i] = c at *
 -- the name of the table
 have s1 : ∃ h2, (∀ cc i' (K : A2 → Hp → RS), k14_3 cc i' K (T35 x (i64 9) dv (i64 i)) h = K (T36 x (i64 9) dv (i64 i) (.ptr j 0)) h2) ∧ Ob h2 j 48 true .plain [bB (c.table.take 20), z, .bool c.remove] ∧ Old h h2 ∧ Wf h2 := by
  have gt : dx (i64 c.table.length) (pi 20) h1 = .ok (.bool (decide ((20 : Int) < c.table.length))) h1 := iO _ _ _
  by_cases hl : 20 < c.table.length
  ·obtain ⟨h2, a1, a2, a3, a4⟩ := dY (k := 0) (v := bB (c.table.take 20)) c3 (by simp [vP]) rfl
   refine ⟨h2, fun cc i' K => ?_, a2, fun k hk => ?_, c5.of a4 fun k hk => ?_⟩
   ·simp only [k14_3, K4, t35_0, t35_1, t35_5, t35_6]
    (rw [c1, aA, aC (cB (Ob.c0 c3) rfl), iP, br, aH gt, bH, if_pos (by omega), aA, aC (cB (Ob.c0 c3) rfl), aH (Es _ _ (by omega)), aA, dQ a1]; try rfl)
   ·rw [a3 k (fun g => by rw [g] at hk; exact hk c2), c4 k hk]
   ·rw [a3 k (fun g => by rw [g] at hk; exact c3.ne hk)]; exact hk
  ·refine ⟨h1, fun cc i' K => ?_, by rw [List.take_of_length_le (by omega)]; exact c3, c4, c5⟩
   simp only [k14_3, K4, t35_0, t35_1, t35_5, t35_6]
   (rw [c1, aA, aC (cB (Ob.c0 c3) rfl), iP, br, aH gt, bH, if_neg (by omega)]; try rfl)
 obtain ⟨h2, s1, o2, O2, W2⟩ := s1
 -- the row, copied and cut
 have s2 : ∃ v h3, (∀ cc i' (K : A2 → Hp → RS), k14_4 cc i' K (T36 x (i64 9) dv (i64 i) (.ptr j 0)) h2 = K (T37 x (i64 9) dv (i64 i) (.ptr j 0) v) h3) ∧ nM h3 v (c.row.take 7) (fun j => ag j h2 = .none) ∧ Old h2 h3 ∧ Wf h3 := by
  obtain ⟨g0, hA, l0, h3, b1, b2, b3, b4, b5⟩ := Nu W2 (dP.up hrow (O0.trans O2)) (by omega)
  have gt : dx (i64 c.row.length) (pi 7) h3 = .ok (.bool (decide ((7 : Int) < c.row.length))) h3 := iO _ _ _
  have hz : lD (.ptr j (0 + 1)) hA = .ok z hA := by
   have : Old h2 hA := by
    obtain ⟨j', hA', f1, f2, f3, f4, f5, f6⟩ := iL (el := 50) (es := 3) (n := 0) (z := []) (ps := []) (l := []) W2 rfl rfl (by simp)
    rw [b1] at f1
    cases f1
    exact f4
   exact aw ((Ob.c0 o2).old this) 1 rfl
  by_cases hl : 7 < c.row.length
  ·obtain ⟨v, d1, d2⟩ := UL b3 hl
   refine ⟨v, h3, fun cc i' K => ?_, d2, b4, b5⟩
   simp only [k14_4, K5, t36_0, t36_1, t36_5, t36_6, t36_7]
   (rw [aH b1, aA, aC hz, aH b2, bt (nM.len b3), aH gt, bH, if_pos (by omega), aH d1]; try rfl)
  ·refine ⟨l0, h3, fun cc i' K => ?_, by rw [List.take_of_length_le (by omega)]; exact b3, b4, b5⟩
   simp only [k14_4, K5, t36_0, t36_1, t36_5, t36_6, t36_7]
   (rw [aH b1, aA, aC hz, aH b2, bt (nM.len b3), aH gt, bH, if_neg (by omega)]; try rfl)
 obtain ⟨v, h3, s2, w3, O3, W3⟩ := s2
 obtain ⟨h4, s3, w4, O4, N4, W4⟩ := Kh (p := p) (a := x) (b := i64 9) (d := dv) (e := i64 i) (f := .ptr j 0) e24 W3 w3 (by rw [List.length_take]; omega)
 have O24 : Old h2 h4 := fun k hk => by
  have e := O3 k hk
  rw [O4 k (fun g => hk g), e]
 obtain ⟨h5, t1, t2, t3, t4⟩ := dY (k := 1) (v := v) (o2.old O24) (by simp) (nM.one w4)
 have t2 : Ob h5 j 48 true .plain [bB (c.table.take 20), v, .bool c.remove] := t2
 have W5 : Wf h5 := W4.of t4 fun k hk => by
  rw [t3 k (fun g => by rw [g] at hk; exact (o2.old O24).ne hk)]; exact hk
 obtain ⟨m, h6, u1, u2, u3, u4, u5, u6⟩ := iL (el := 48) (es := 3) (n := 1) (z := [iS, .ar, .bool false]) (ps := [.mk 0 3 (.c (.agg [bB (c.table.take 20), v, .bool c.remove]))]) (l := [bB (c.table.take 20), v, .bool c.remove]) W5 rfl rfl (by simp)
 have hj2 : ag j h2 ≠ .none := o2.ne
 have hj : ag j h = .none := c2
 have O5 : Old h h5 := fun k hk => by
  have hkj : k ≠ j := fun g => by rw [g] at hk; exact hk hj
  rw [t3 k hkj, (O2.trans O24) k hk]
 obtain ⟨v', h7, z1, z2, _⟩ := w.app (a := mJ c) (l := [bB (c.table.take 20), v, .bool c.remove]) gE.mono (by omega) (O5.trans u4) u5 rfl (fun hr H1 H2 => by
  refine ⟨v, rfl, nM.rd (B := fun j => ag j h2 = .none) (row := (c.row.take 7).map sK) w4 fun k hk hk4 => ?_⟩
  have hk0 : ag k h = .none := O2.none hk
  have hkj : k ≠ j := fun g => by rw [g] at hk; exact hj2 hk
  rw [H2 k hk0, u4 k (by rw [t3 k hkj]; exact hk4), t3 k hkj]) (by omega)
 have s4 : ∀ cc i' (K : A2 → Hp → RS), k14_9 cc i' K (T37 x (i64 9) dv (i64 i) (.ptr j 0) v) h4 = .nm (T35 x (i64 9) v' (i64 i)) h7 := fun cc i' K => by
  simp only [k14_9, K6, t37_0, t37_1, t37_5, t37_6, t37_7, t37_8]
  have M := bJ (m := 3) (Ob.c0 t2) rfl
  have V : lj 48 3 dv (.slice m 0 1 1) h6 = .ok v' h7 := by
   rw [gu (m := 1) (q := m) (o := 0) (l := [bB (c.table.take 20), v, .bool c.remove]) (.inl ⟨_, rfl⟩) (by omega) (fun _ => Ob.c0 u3) rfl (by omega)]
   exact z1
  (rw [aA, dQ t1, kx M, aH u1, aH V]; try rfl)
 have s5 : ∀ cc i' (K : A2 → Hp → RS), k14_5 cc i' K (T37 x (i64 9) dv (i64 i) (.ptr j 0) v) h3 = K (T38 x (i64 9) dv (i64 i) (.ptr j 0) v i0) h3 := fun cc i' K => by
  simp only [k14_5, K6, t37_0, t37_1, t37_5, t37_6, t37_7, t37_8]
 exact ⟨v', h7, .ef s1 (.ef s2 (.seq (.ef s5 (.bN s3)) (.aR s4))), z2⟩
end
open Go.Cod
noncomputable section
variable {p : Pg} {h hb h' h2 h0 : Hp} {q j : P4} {x y v a b d e f g : AV} {o : Nat}
theorem Rz (e24 : aq 13 p.fs = f13) (e25 : aq 14 p.fs = f14) (W : Wf h) (O0 : Old hb h) {cs : List nu} (r : aZ hb x cs) (hr : ∀ c, c ∈ cs → c.row.length ≤ 1048576) :
  ∃ v h', Cv p 14 [x, i64 9] h v h' ∧ Lb h hb h' v 48 3 gE ((cs.take 9).map mJ) := by
 have hlen : ∀ h', Old h h' → Am.len x h' = .ok (.int .i64 (cs.length : Int)) h' := fun h' O => dt.len (aZ.up r (O0.trans O))
 obtain ⟨r', h', ⟨v, rfl, w⟩, k⟩ := Ki (p := p) (body := dp 4 (bh x14)) (r := T35 x (i64 9) .ar i0) (h := h) (min cs.length 9)
  (Inv := fun i r h' => ∃ dv, r = T35 x (i64 9) dv (i64 i) ∧ Lb h hb h' dv 48 3 gE ((cs.take i).map mJ)) (l := 0) (fun i r h' hi I => by
   obtain ⟨dv, rfl, w⟩ := I
   have hi1 : i < cs.length := by omega
   obtain ⟨r3, o1, o2, o3, o4, o5, o6⟩ := Er (p := p) (i := i) (dv := dv) (hlen h' w.old)
   obtain ⟨v', h5, c1, c2⟩ := Gp (p := p) e24 w (O0.trans w.old) r hi1 hr (by simp; omega)
   refine ⟨T35 x (i64 9) v' (i64 (i + 1 : Nat)), h5, .seq (.seq (.ops o1) (.aR (s := .nm (T35 x (i64 9) dv (i64 i)) h') fun c i' K => ?_)) (.seq (.block c1) (.aR fun c i' K => ?_)), v', rfl, ?_⟩
   ·simp only [k14_2, K5, o2, o3, o4, o5, o6]
    rw [decide_eq_true (by omega), decide_eq_true (by omega)]
    rfl
   ·simp only [k14_10, K4, t35_0, t35_1, t35_5, t35_6]
    (rw [dS (n := 9) (by omega) (by omega)]; try rfl)
   ·rw [List.take_succ_eq_append_getElem hi1, List.map_append]
    exact c2) (fun r h' I => by
   obtain ⟨dv, rfl, w⟩ := I
   obtain ⟨r3, o1, o2, o3, o4, o5, o6⟩ := Er (p := p) (i := min cs.length 9) (dv := dv) (hlen h' w.old)
   refine .Cy (.seq (.ops o1) (.aR fun c i' K => ?_))
   simp only [k14_2, K5, o2, o3, o4, o5, o6]
   have : (decide (((min cs.length 9 : Nat) : Int) < (cs.length : Int)) && decide (((min cs.length 9 : Nat) : Int) < 9)) = false := by
    rw [Bool.and_eq_false_iff, decide_eq_false_iff_not, decide_eq_false_iff_not]; omega
   rw [this]; rfl) ⟨.ar, rfl, by simpa using Lb.nil W O0 (.inl rfl)⟩
 have s0 : ∀ c i' (K : A2 → Hp → RS), k14_0 c i' K (aY [x, i64 9] 0 .nil) h = K (T29 x (i64 9) .ar) h := fun c i' K => by
  simp only [k14_0, K2, gT, gU]
 have s1 : ∀ c i' (K : A2 → Hp → RS), k14_1 c i' K (T29 x (i64 9) .ar) h = K (T35 x (i64 9) .ar i0) h := fun c i' K => by
  simp only [k14_1, K3, jB, jC, jD]
 have s2 : ∀ c i' (K : A2 → Hp → RS), k14_11 c i' K (T35 x (i64 9) v (i64 (min cs.length 9 : Nat))) h' = .ret (T31 v) h' := fun c i' K => by
  simp only [k14_11, K1, t35_5]
 refine ⟨v, h', .of (r' := T31 v) (h1 := h') e25 (by simp) (.ef s0 (.seq (.ef s1 (.bN k)) (.aR s2))) rfl, ?_⟩
 have : cs.take (min cs.length 9) = cs.take 9 := by
  by_cases g : cs.length ≤ 9
  ·rw [Nat.min_eq_left g, List.take_length, List.take_of_length_le g]
  ·rw [Nat.min_eq_right (by omega)]
 rw [this] at w
 exact w
end
open Go.Cod
noncomputable section
variable {p : Pg} {h hb h' h2 h0 : Hp} {q j : P4} {x y v a b d e f g : AV} {o : Nat}
theorem merge {h1 h2 h3 : Hp} (O1 : Old h1 h3) (O2 : Old h2 h3) : ∃ hr, Old h1 hr ∧ Old h2 hr ∧ Old hr h3 ∧ ∀ k, ag k hr ≠ .none → ag k h1 ≠ .none ∨ ag k h2 ≠ .none := by
 classical
 obtain ⟨hr, g⟩ := Et fun k => if ag k h1 = .none then ag k h2 else ag k h1
 have g1 : ∀ k, ag k h1 ≠ .none → ag k hr = ag k h1 := fun k hk => by rw [g, if_neg hk]
 have g2 : ∀ k, ag k h1 = .none → ag k hr = ag k h2 := fun k hk => by rw [g, if_pos hk]
 refine ⟨hr, g1, fun k hk => ?_, fun k hk => ?_, fun k hk => ?_⟩
 ·by_cases e : ag k h1 = .none
  ·exact g2 k e
  ·rw [g1 k e, ← O1 k e, O2 k hk]
 ·by_cases e : ag k h1 = .none
  ·rw [g2 k e] at hk ⊢; exact O2 k hk
  ·rw [g1 k e]; exact O1 k e
 ·by_cases e : ag k h1 = .none
  ·rw [g2 k e] at hk; exact .inr hk
  ·exact .inl e
theorem UM {cs : List (Bs × Int)} (r : aO hb x cs) (O : Old hb h) (hc : 8 < cs.length) : ∃ v, fN 2 (.c x) .none (.some (.c (pi 8))) .none .nil h = .ok v h ∧ aO hb v (cs.take 8) ∧ v.one = true := by
 obtain ⟨q, o, e, g⟩ := r
 have g' : ∀ i (hi : i < (cs.take 8).length), ∃ l, l.length = 2 ∧ Cs hb q (o + i * 2) l ∧ l = [bB (cs.take 8)[i].1, i64 (cs.take 8)[i].2] := fun i hi => by
  obtain ⟨l, a, b, c⟩ := g i (by simp at hi; omega)
  exact ⟨l, a, b, by rw [List.getElem_take]; exact c⟩
 have hl : (cs.take 8).length = 8 := by rw [List.length_take]; omega
 rcases e with ⟨cap, h1, rfl⟩ | rfl | ⟨rfl, rfl⟩
 ·refine ⟨.slice q o 8 cap, ?_, ⟨q, o, .inl ⟨cap, by omega, by rw [hl]⟩, g'⟩, rfl⟩
  obtain ⟨cap, rfl⟩ : ∃ c, cap = c + 1 := ⟨cap - 1, by omega⟩
  show (@Bool.rec (fun _ => RV) (.err 42) (@Bool.rec (fun _ => RV) (.err 42) (.ok (.slice q o 8 (cap + 1)) h) (Nat.ble (cap + 1) (cap + 1))) (Nat.ble 8 (cap + 1))) = _
  rw [Nat.ble_eq_true_of_le (show 8 ≤ cap + 1 by omega), Nat.ble_eq_true_of_le (Nat.le_refl _)]
 ·refine ⟨.fq q o 8 2, ?_, ⟨q, o, .inr (.inl (by rw [hl])), g'⟩, rfl⟩
  obtain ⟨l, l1, l2, _⟩ := g 7 (by omega)
  obtain ⟨el, n, ex, fl, c, e1, e2, e3⟩ := l2.old O
  show (Obj.aU (ag q h) (fun _ k _ _ _ => @Bool.rec (fun _ => RV) (.err 45) (.ok (.fq q o 8 2) h) (Nat.ble (o + 16) k)) (.err 46) : RV) = _
  rw [e1]
  show (@Bool.rec (fun _ => RV) (.err 45) (.ok (.fq q o 8 2) h) (Nat.ble (o + 16) n)) = _
  rw [Nat.ble_eq_true_of_le (by omega)]
 ·simp at hc
theorem Nv (W : Wf h) (O0 : Old hb h) {e : jA} (r1 : aO hb x e.bP) :
  ∃ j jr x8 ha hc hs, (∀ cc i' (K : A2 → Hp → RS), Kj cc i' K (aY [.agg (cZ x y e)] 0 .nil) h = K (T8 (.ptr j 0) (.ptr jr 0)) ha) ∧ (∀ cc i' (K : A2 → Hp → RS), Kk cc i' K (T8 (.ptr j 0) (.ptr jr 0)) ha = K (T8 (.ptr j 0) (.ptr jr 0)) hc) ∧
   (∀ cc i' (K : A2 → Hp → RS), Kl cc i' K (T8 (.ptr j 0) (.ptr jr 0)) hc = K (T9 (.ptr j 0) (.ptr jr 0) .ar) hs) ∧ ag j h = .none ∧ ag jr h = .none ∧ j ≠ jr ∧ Old h hs ∧ Wf hs ∧
   Ob hs j 25 true .plain [i64 e.aK, i64 e.seq, i64 e.kind, bB (e.name.take 20), bB (e.text.take 700), x8, y] ∧ (∃ z, Ob hs jr 25 true .plain z ∧ z.length = 7) ∧ aO hb x8 (e.bP.take 8) := by
 obtain ⟨j, h1, f1, f2, f3, f4, f5, f6⟩ := oh (el := 25) (l := cZ x y e) W (by simp [cZ])
 obtain ⟨jr, h2, g1, g2, g3, g4, g5, g6⟩ := lx (el := 25) (n := 7) f5 (c := .k1 (Y7 i0 i0 i0 iS iS .ar .ar)) trivial (by decide)
 have hj1 : ag j h1 ≠ .none := f3.ne
 have hne : j ≠ jr := fun e => hj1 (e ▸ g2)
 have hjr : ag jr h = .none := f4.none g2
 have o0 := f3.old g4
 have O2 := f4.trans g4
 have fk : ∀ {ha hb' : Hp}, Old h ha → (∀ k, k ≠ j → ag k hb' = ag k ha) → Old h hb' := fun O g k hk => by
  rw [g k (fun e => by rw [e] at hk; exact hk f2), O k hk]
 -- the name
 have s0 : ∃ ha, (∀ cc i' (K : A2 → Hp → RS), Kj cc i' K (aY [.agg (cZ x y e)] 0 .nil) h = K (T8 (.ptr j 0) (.ptr jr 0)) ha) ∧ Ob ha j 25 true .plain [i64 e.aK, i64 e.seq, i64 e.kind, bB (e.name.take 20), bB e.text, x, y] ∧ (∀ k, k ≠ j → ag k ha = ag k h2) ∧ Wf ha := by
  have gt : dx (i64 e.name.length) (pi 20) h2 = .ok (.bool (decide ((20 : Int) < e.name.length))) h2 := iO _ _ _
  by_cases hl : 20 < e.name.length
  ·obtain ⟨ha, a1, a2, a3, a4⟩ := dY (k := 3) (v := bB (e.name.take 20)) o0 (by simp [cZ]) rfl
   refine ⟨ha, fun cc i' K => ?_, a2, a3, g5.of a4 fun k hk => by rw [a3 k (fun e => by rw [e] at hk; exact o0.ne hk)]; exact hk⟩
   simp only [Kj, K1, dE]
   (rw [lJ f1, mK g1, aA, aC (aw (Ob.c0 o0) 3 rfl), iP, br, aH gt, bH, if_pos (by omega), aA, aC (aw (Ob.c0 o0) 3 rfl), aH (Es _ _ (by omega)), aA, Nat.zero_add, dQ a1]; try rfl)
  ·refine ⟨h2, fun cc i' K => ?_, by rw [List.take_of_length_le (by omega)]; exact o0, fun _ _ => rfl, g5⟩
   simp only [Kj, K1, dE]
   (rw [lJ f1, mK g1, aA, aC (aw (Ob.c0 o0) 3 rfl), iP, br, aH gt, bH, if_neg (by omega)]; try rfl)
 obtain ⟨ha, s0, o1, e1, W1⟩ := s0
 have s1 : ∃ hc, (∀ cc i' (K : A2 → Hp → RS), Kk cc i' K (T8 (.ptr j 0) (.ptr jr 0)) ha = K (T8 (.ptr j 0) (.ptr jr 0)) hc) ∧ Ob hc j 25 true .plain [i64 e.aK, i64 e.seq, i64 e.kind, bB (e.name.take 20), bB (e.text.take 700), x, y] ∧ (∀ k, k ≠ j → ag k hc = ag k h2) ∧ Wf hc := by
  have gt : dx (i64 e.text.length) (pi 700) ha = .ok (.bool (decide ((700 : Int) < e.text.length))) ha := iO _ _ _
  by_cases hl : 700 < e.text.length
  ·obtain ⟨hc, a1, a2, a3, a4⟩ := dY (k := 4) (v := bB (e.text.take 700)) o1 (by simp) rfl
   refine ⟨hc, fun cc i' K => ?_, a2, fun k hk => by rw [a3 k hk, e1 k hk], W1.of a4 fun k hk => by rw [a3 k (fun e => by rw [e] at hk; exact o1.ne hk)]; exact hk⟩
   simp only [Kk, K2, t8_1, t8_2]
   (rw [aA, aC (aw (Ob.c0 o1) 4 rfl), iP, br, aH gt, bH, if_pos (by omega), aA, aC (aw (Ob.c0 o1) 4 rfl), aH (Es _ _ (by omega)), aA, Nat.zero_add, dQ a1]; try rfl)
  ·refine ⟨ha, fun cc i' K => ?_, by rw [List.take_of_length_le (l := e.text) (by omega)]; exact o1, e1, W1⟩
   simp only [Kk, K2, t8_1, t8_2]
   (rw [aA, aC (aw (Ob.c0 o1) 4 rfl), iP, br, aH gt, bH, if_neg (by omega)]; try rfl)
 obtain ⟨hc, s1, o2, e2, W2⟩ := s1
 have Oc : Old h hc := fk O2 e2
 have s2 : ∃ x8 hs, (∀ cc i' (K : A2 → Hp → RS), Kl cc i' K (T8 (.ptr j 0) (.ptr jr 0)) hc = K (T9 (.ptr j 0) (.ptr jr 0) .ar) hs) ∧ Ob hs j 25 true .plain [i64 e.aK, i64 e.seq, i64 e.kind, bB (e.name.take 20), bB (e.text.take 700), x8, y] ∧ (∀ k, k ≠ j → ag k hs = ag k h2) ∧ Wf hs ∧ aO hb x8 (e.bP.take 8) := by
  have gt : dx (i64 e.bP.length) (pi 8) hc = .ok (.bool (decide ((8 : Int) < e.bP.length))) hc := iO _ _ _
  have hlen := dt.len (aO.up r1 (O0.trans Oc))
  by_cases hl : 8 < e.bP.length
  ·obtain ⟨x8, c1, c2, c3⟩ := UM r1 (O0.trans Oc) hl
   obtain ⟨hs, a1, a2, a3, a4⟩ := dY (k := 5) (v := x8) o2 (by simp) c3
   refine ⟨x8, hs, fun cc i' K => ?_, a2, fun k hk => by rw [a3 k hk, e2 k hk], W2.of a4 fun k hk => by rw [a3 k (fun e => by rw [e] at hk; exact o2.ne hk)]; exact hk, c2⟩
   simp only [Kl, K2, t8_1, t8_2]
   (rw [aA, aC (aw (Ob.c0 o2) 5 rfl), bt hlen, aH gt, bH, if_pos (by omega), aA, aC (aw (Ob.c0 o2) 5 rfl), aH c1, aA, Nat.zero_add, dQ a1]; try rfl)
  ·refine ⟨x, hc, fun cc i' K => ?_, o2, e2, W2, by rw [List.take_of_length_le (by omega)]; exact r1⟩
   simp only [Kl, K2, t8_1, t8_2]
   (rw [aA, aC (aw (Ob.c0 o2) 5 rfl), bt hlen, aH gt, bH, if_neg (by omega)]; try rfl)
 obtain ⟨x8, hs, s2, o3, e3, W3, r3⟩ := s2
 exact ⟨j, jr, x8, ha, hc, hs, s0, s1, s2, f2, hjr, hne, fk O2 e3, W3, o3, ⟨_, g3.eq (e3 jr (Ne.symm hne)), cD _ _ _⟩, r3⟩
end
open Go.Cod
noncomputable section
variable {p : Pg} {h hb h' h2 h0 : Hp} {q j jr : P4} {x y v a b d e f g : AV} {o : Nat}
def AP (c : Bs × Int) : Bs × Int := (c.1, gZ c.2)
def vQ (_ : Hp) (l : List AV) (c : Bs × Int) : Prop := l = [bB c.1, i64 c.2]
theorem vQ.mono : ∀ (h1 h2 : Hp) (l : List AV) (a : Bs × Int), Old h1 h2 → vQ h1 l a → vQ h2 l a := fun _ _ _ _ _ e => e
theorem Cz {α : Type} {P : α → Bool} {l : List α} {i : Nat} (hi : i < l.length) (ha : (l.take i).all P = true) (hn : P l[i] = false) : l.takeWhile P = l.take i := by
 conv => lhs; rw [← List.take_append_drop i l]
 rw [List.takeWhile_append_of_pos (by simpa [List.all_eq_true] using ha), List.drop_eq_getElem_cons hi, List.takeWhile_cons, hn]
 simp
theorem Gq {α : Type} {P : α → Bool} {l : List α} (ha : l.all P = true) : l.takeWhile P = l := by
 have := List.takeWhile_append_of_pos (p := P) (l₁ := l) (l₂ := []) (by simpa [List.all_eq_true] using ha)
 simpa using this
theorem AQ {cs : List (Bs × Int)} {i : Nat} {dv : AV} {L : List AV} (c : Cs h j 0 L) (hL : L[5]? = some x) (r : aO hb x cs) (O : Old hb h) :
  ∃ r', Os p (opsL (dp 6 (bh (bh (bh x4))))) (T10 (.ptr j 0) (.ptr jr 0) dv (i64 i)) h (.nm r' h) ∧ y1 r' = .ptr j 0 ∧ y2 r' = .ptr jr 0 ∧ y3 r' = dv ∧ y4 r' = i64 i ∧ y44 r' = .bool (match cs[i]? with | none => false | some c => decide (c.1.length ≤ 20)) := by
 have hlen := dt.len (aO.up r O)
 have l1 : bK .lt (i64 i) (i64 cs.length) h = .ok (.bool (decide ((i : Int) < cs.length))) h := AM _ _ _
 by_cases hi : i < cs.length
 ·rw [decide_eq_true (by omega)] at l1
  obtain ⟨q, o, sl, g⟩ := dt.sl (aO.up r O)
  obtain ⟨l, k1, k2, rfl⟩ := g i hi
  have l2 : bK .le (i64 cs[i].1.length) (pi 20) h = .ok (.bool (decide (cs[i].1.length ≤ 20))) h := by
   show IZ (.int .i64 cs[i].1.length) (.int .i64 (.ofNat 20)) h = _
   rw [TB]
   congr 2
   rw [decide_eq_decide]
   show _ ≤ (20 : Int) ↔ _
   omega
  refine ⟨_, .step (v := i64 i) (h' := h) rfl <| .step (v := .ptr j 5) (h' := h) rfl <| .step (v := x) (h' := h) (aw c 5 hL) <| .step (v := i64 cs.length) (h' := h) hlen <| .step (v := .bool true) (h' := h) l1 <| .step (v := .bool true) (h' := h) rfl <|
   .on rfl <| .step (v := .ptr j 5) (h' := h) rfl <| .on rfl <| .step (v := x) (h' := h) (aw c 5 hL) <| .on rfl <| .step (v := i64 i) (h' := h) rfl <| .on rfl <| .step (v := .ptr q (o + i * 2)) (h' := h) (ct sl hi) <|
   .on rfl <| .step (v := .ptr q (o + i * 2)) (h' := h) rfl <| .on rfl <| .step (v := bB cs[i].1) (h' := h) (cB k2 rfl) <| .on rfl <| .step (v := i64 cs[i].1.length) (h' := h) (iP _) <| .on rfl <| .step (v := .bool (decide (cs[i].1.length ≤ 20))) (h' := h) l2 <|
   .step (v := .bool (decide (cs[i].1.length ≤ 20))) (h' := h) rfl <| .nil, rfl, rfl, rfl, rfl, ?_⟩
  rw [List.getElem?_eq_getElem hi]; rfl
 ·rw [decide_eq_false (by omega)] at l1
  refine ⟨_, .step (v := i64 i) (h' := h) rfl <| .step (v := .ptr j 5) (h' := h) rfl <| .step (v := x) (h' := h) (aw c 5 hL) <| .step (v := i64 cs.length) (h' := h) hlen <| .step (v := .bool false) (h' := h) l1 <| .step (v := .bool false) (h' := h) rfl <|
   .off rfl <| .off rfl <| .off rfl <| .off rfl <| .off rfl <| .off rfl <| .off rfl <| .off rfl <| .step (v := .bool false) (h' := h) rfl <| .nil, rfl, rfl, rfl, rfl, ?_⟩
  rw [List.getElem?_eq_none (by omega)]; rfl
theorem Nw (e24 : aq 13 p.fs = f13) {cs ys : List (Bs × Int)} {i : Nat} {dv : AV} {L : List AV} (w : Lb h0 hb h dv 41 2 vQ ys) (O : Old hb h) (c : Cs h j 0 L) (hL : L[5]? = some x) (r : aO hb x cs) (hi : i < cs.length) (hy : ys.length ≤ 1000) (hi2 : i < 100) :
  ∃ v' h', Rn p (bh (dp 4 (bh (bh (bh x4))))) (T10 (.ptr j 0) (.ptr jr 0) dv (i64 i)) h (.nm (T10 (.ptr j 0) (.ptr jr 0) v' (i64 (i + 1 : Nat))) h') ∧ Lb h0 hb h' v' 41 2 vQ (ys ++ [AP cs[i]]) ∧ ∀ k, ag k h ≠ .none → ag k h0 ≠ .none → ag k h' = ag k h := by
 obtain ⟨q', o', sl, g⟩ := dt.sl r
 obtain ⟨l, l1, l2, rfl⟩ := g i hi
 obtain ⟨m, h1, c1, c2, c3, c4, c5, _⟩ := AN (el := 41) w.wf sl hi (l2.old O) l1 (c0 := .k1 (Y2 iS i0)) trivial (by decide)
 have nr := yI (p := p) (h := h1) e24 cs[i].2
 obtain ⟨h2, a1, a2, a3, a4⟩ := dY (k := 1) (v := i64 (gZ cs[i].2)) c3 (by simp) rfl
 have a2 : Ob h2 m 41 true .plain [bB cs[i].1, i64 (gZ cs[i].2)] := a2
 have W2 : Wf h2 := c5.of a4 fun k hk => by rw [a3 k (fun e => by rw [e] at hk; exact c3.ne hk)]; exact hk
 have O2 : Old h h2 := fun k hk => by rw [a3 k (fun e => by rw [e] at hk; exact hk c2), c4 k hk]
 obtain ⟨t, h3, u1, u2, u3, u4, u5, u6⟩ := iL (el := 41) (es := 2) (n := 1) (z := [iS, i0]) (ps := [.mk 0 2 (.c (.agg [bB cs[i].1, i64 (gZ cs[i].2)]))]) (l := [bB cs[i].1, i64 (gZ cs[i].2)]) W2 rfl rfl (by simp)
 obtain ⟨v', h4, z1, z2, _⟩ := w.app (a := AP cs[i]) (l := [bB cs[i].1, i64 (gZ cs[i].2)]) vQ.mono (by omega) (O2.trans u4) u5 rfl (fun _ _ _ => rfl) (by omega)
 have V : lj 41 2 dv (.slice t 0 1 1) h3 = .ok v' h4 := by
  rw [gu (m := 1) (q := t) (o := 0) (l := [bB cs[i].1, i64 (gZ cs[i].2)]) (.inl ⟨_, rfl⟩) (by omega) (fun _ => Ob.c0 u3) rfl (by omega)]
  exact z1
 have M := bJ (m := 2) (Ob.c0 a2) rfl
 refine ⟨v', h4, .ah (nr.mono fun n g => ?_), z2, fun k hk hk0 => by rw [z2.old k hk0, w.old k hk0]⟩
 simp only [k4_5, K4, t10_1, t10_2, t10_3, t10_4]
 (rw [aA, aC (aw c 5 hL), c1, aA, aC (aw (Ob.c0 c3) 1 rfl), aM g, aA, Nat.zero_add, dQ a1, kx M, aH u1, aH V, dS (n := 100) hi2 (by omega)]; try rfl)
theorem Km (e24 : aq 13 p.fs = f13) {cs : List (Bs × Int)} {L : List AV} (W : Wf h) (O : Old hb h) (c : Cs h j 0 L) (hL : L[5]? = some x) (r : aO hb x cs) (hn : cs.length ≤ 8) :
  ∃ dv h' i, Rn p (dp 3 (bh (bh (bh x4)))) (T10 (.ptr j 0) (.ptr jr 0) .ar i0) h (.ex 0 (T10 (.ptr j 0) (.ptr jr 0) dv (i64 i)) h') ∧ Lb h hb h' dv 41 2 vQ ((cs.takeWhile fun c => decide (c.1.length ≤ 20)).map AP) := by
 have key : ∃ s, (∃ dv h', ∃ i : Int, s = .ex 0 (T10 (.ptr j 0) (.ptr jr 0) dv (i64 i)) h' ∧ Lb h hb h' dv 41 2 vQ ((cs.takeWhile fun c => decide (c.1.length ≤ 20)).map AP)) ∧ Rn p (.loop (dp 4 (bh (bh (bh x4))))) (T10 (.ptr j 0) (.ptr jr 0) .ar i0) h s := by
  refine eT cs.length (Inv := fun i r h' => ∃ dv, r = T10 (.ptr j 0) (.ptr jr 0) dv (i64 i) ∧ Lb h hb h' dv 41 2 vQ ((cs.take i).map AP) ∧ (cs.take i).all (fun c => decide (c.1.length ≤ 20)) = true) (fun i r' h' hi I => ?_) (fun r' h' I => ?_) cs.length 0 _ h (by omega) ⟨.ar, rfl, by simpa using Lb.nil W O (.inl rfl), by simp⟩
  ·obtain ⟨dv, rfl, w, ha⟩ := I
   have c' := c.old w.old
   obtain ⟨r3, o1, o2, o3, o4, o5, o6⟩ := AQ (p := p) (jr := jr) (i := i) (dv := dv) c' hL r (O.trans w.old)
   rw [List.getElem?_eq_getElem hi] at o6
   cases hs : decide (cs[i].1.length ≤ 20) with
   | true =>
    obtain ⟨v', h5, k1, k2, _⟩ := Nw (p := p) (jr := jr) e24 w (O.trans w.old) c' hL r hi (by simp; omega) (by omega)
    refine .inl ⟨_, h5, .seq (.seq (.ops o1) (.aR (s := .nm (T10 (.ptr j 0) (.ptr jr 0) dv (i64 i)) h') fun cc i' K => ?_)) k1, v', rfl, ?_, by rw [gF hi, ha]; simpa using hs⟩
    ·simp only [k4_4, K5, o2, o3, o4, o5, o6]
     rw [hs]; rfl
    ·rw [List.take_succ_eq_append_getElem hi, List.map_append]; exact k2
   | false =>
    refine .inr ⟨_, ⟨dv, h', i, rfl, by rw [Cz hi ha hs]; exact w⟩, .eI (.Cy (.seq (.ops o1) (.aR fun cc i' K => ?_)))⟩
    simp only [k4_4, K5, o2, o3, o4, o5, o6]
    rw [hs]; rfl
  ·obtain ⟨dv, rfl, w, ha⟩ := I
   obtain ⟨r3, o1, o2, o3, o4, o5, o6⟩ := AQ (p := p) (jr := jr) (i := cs.length) (dv := dv) (c.old w.old) hL r (O.trans w.old)
   rw [List.getElem?_eq_none (by omega)] at o6
   rw [List.take_length] at ha w
   refine ⟨_, ⟨dv, h', (cs.length : Int), rfl, by rw [Gq ha]; exact w⟩, .eI (.Cy (.seq (.ops o1) (.aR fun cc i' K => ?_)))⟩
   simp only [k4_4, K5, o2, o3, o4, o5, o6]
   rfl
 obtain ⟨s, ⟨dv, h', i, rfl, w⟩, k⟩ := key
 exact ⟨dv, h', i, k, w⟩
end
open Go.Cod
noncomputable section
variable {p : Pg} {h hb h' h2 h0 : Hp} {q j jr : P4} {x y v a b d e f g : AV} {o : Nat}
theorem Lb.one {α : Type} {f : Hp → List AV → α → Prop} {xs : List α} {el es : Nat} (w : Lb h hb h' v el es f xs) : v.one = true := by
 obtain ⟨_, _, _, _, _, _, _, ow, _⟩ := w
 exact nv ow
theorem wV (e9 : aq 4 p.fs = f4) (e24 : aq 13 p.fs = f13) (e25 : aq 14 p.fs = f14) (W : Wf h) (O0 : Old hb h) {e : jA} (r1 : aO hb x e.bP) (r2 : aZ hb y e.changes) (hr : ∀ c, c ∈ e.changes → c.row.length ≤ 1048576) :
  ∃ x' y' h' hr, Cv p 4 [.agg (cZ x y e)] h (.agg (cZ x' y' (aL e))) h' ∧ Old h h' ∧ Wf h' ∧ Old hb hr ∧ Old hr h' ∧ (∀ k, ag k hr ≠ .none → ag k hb ≠ .none ∨ ag k h = .none) ∧ aO hr x' (aL e).bP ∧ aZ hr y' (aL e).changes := by
 obtain ⟨j, jr, x8, ha, hc, hs, s0, s1, s2, nj, njr, hne, Os, Ws, oj, ⟨z, ojr, hz⟩, r8⟩ := Nv (y := y) W O0 r1
 obtain ⟨dv, h1, i, k1, w1⟩ := Km (p := p) (jr := jr) (x := x8) e24 Ws (O0.trans Os) (Ob.c0 oj) rfl r8 (by rw [List.length_take]; omega)
 have bj : ag j hb = .none := O0.none nj
 have bjr : ag jr hb = .none := O0.none njr
 have oj1 := oj.old w1.old
 have ojr1 := ojr.old w1.old
 obtain ⟨hA, a1, a2, a3, a4⟩ := dY (k := 5) (v := dv) oj1 (by simp) (Lb.one w1)
 have a2 : Ob hA j 25 true .plain [i64 e.aK, i64 e.seq, i64 e.kind, bB (e.name.take 20), bB (e.text.take 700), dv, y] := a2
 have WA : Wf hA := w1.wf.of a4 fun k hk => by rw [a3 k (fun e => by rw [e] at hk; exact oj1.ne hk)]; exact hk
 have OA : Old h hA := fun k hk => by
  have e := (Os.trans w1.old) k hk
  rw [a3 k (fun e => by rw [e] at hk; exact hk nj), e]
 obtain ⟨v2, hB, c1, w2⟩ := Rz (p := p) e24 e25 WA (O0.trans OA) r2 hr
 have ojB := a2.old w2.old
 have ojrA : Ob hA jr 25 true .plain z := ojr1.eq (a3 jr (Ne.symm hne))
 have ojrB := ojrA.old w2.old
 obtain ⟨hC, b1, b2, b3, b4⟩ := dY (k := 6) (v := v2) ojB (by simp) (Lb.one w2)
 have b2 : Ob hC j 25 true .plain [i64 e.aK, i64 e.seq, i64 e.kind, bB (e.name.take 20), bB (e.text.take 700), dv, v2] := b2
 have WC : Wf hC := w2.wf.of b4 fun k hk => by rw [b3 k (fun e => by rw [e] at hk; exact ojB.ne hk)]; exact hk
 have ojrC : Ob hC jr 25 true .plain z := ojrB.eq (b3 jr (Ne.symm hne))
 obtain ⟨hD, d1, d2, d3, d4⟩ := gO (k := 0) (m := 7) (l' := [i64 e.aK, i64 e.seq, i64 e.kind, bB (e.name.take 20), bB (e.text.take 700), dv, v2]) ojrC rfl (by omega)
 have WD : Wf hD := WC.of d4 fun k hk => by rw [d3 k (fun e => by rw [e] at hk; exact ojrC.ne hk)]; exact hk
 have d2 : Ob hD jr 25 true .plain (cZ dv v2 (aL e)) := by
  have : z.take 0 ++ (cZ dv v2 (aL e) ++ z.drop (0 + 7)) = cZ dv v2 (aL e) := by
   rw [List.drop_of_length_le (by omega)]; simp
  rw [← this]; exact d2
 obtain ⟨hr1, p1, p2, p3, p4⟩ := Lb.rd w1 vQ.mono (by omega)
 obtain ⟨hr2, q1, q2, q3, q4⟩ := Lb.rd w2 gE.mono (by omega)
 have hsj : ag j hs ≠ .none := oj.ne
 have hsr : ag jr hs ≠ .none := ojr.ne
 have P : Old hr1 hD := fun k hk => by
  have n1 : k ≠ j := fun e => by
   rw [e] at hk
   rcases p3 j hk with g | g
   ·exact g bj
   ·exact hsj g
  have n2 : k ≠ jr := fun e => by
   rw [e] at hk
   rcases p3 jr hk with g | g
   ·exact g bjr
   ·exact hsr g
  have e1 := p2 k hk
  have e2 : ag k hA = ag k hr1 := by rw [a3 k n1, e1]
  rw [d3 k n2, b3 k n1, w2.old k (by rw [e2]; exact hk), e2]
 have Q : Old hr2 hD := fun k hk => by
  have n1 : k ≠ j := fun e => by
   rw [e] at hk
   rcases q3 j hk with g | g
   ·exact g bj
   ·exact a2.ne g
  have n2 : k ≠ jr := fun e => by
   rw [e] at hk
   rcases q3 jr hk with g | g
   ·exact g bjr
   ·exact ojrA.ne g
  rw [d3 k n2, b3 k n1, q2 k hk]
 obtain ⟨hr, m1, m2, m3, m4⟩ := merge P Q
 have OD : Old h hD := fun k hk => by
  have e := (OA.trans w2.old) k hk
  rw [d3 k (fun e => by rw [e] at hk; exact hk njr), b3 k (fun e => by rw [e] at hk; exact hk nj), e]
 have s4 : Rn p (.ah k4_6 .skip) (T10 (.ptr j 0) (.ptr jr 0) dv (i64 i)) h1 (.ret (T11 (.ptr jr 0)) hD) := .ah (c1.mono fun m g => by
  have g : au p (exec p m) 14 [y, pi 9] hA = .ok v2 hB := g
  simp only [k4_6, K3, t10_1, t10_2, t10_3]
  (rw [aA, Nat.zero_add, dQ a1, aA, aC (aw (Ob.c0 a2) 6 rfl), aM g, aA, Nat.zero_add, dQ b1, kx (bJ (m := 7) (Ob.c0 b2) rfl), ky d1]; try rfl))
 have s3 : ∀ cc i' (K : A2 → Hp → RS), k4_3 cc i' K (T9 (.ptr j 0) (.ptr jr 0) .ar) hs = K (T10 (.ptr j 0) (.ptr jr 0) .ar i0) hs := fun cc i' K => by
  simp only [k4_3, K3, t9_1, t9_2, t9_3]
 have rt : ue [.agg 7 .h0 .h2] (T11 (.ptr jr 0)) hD = .ok (.agg (cZ dv v2 (aL e))) hD := by
  show (RV.rec (fun v _ => .ok v hD) (fun n => .err n) (Seat.lR 7 (.ptr jr 0) hD) : RV) = _
  rw [bJ (m := 7) (Ob.c0 d2) (by simp [cZ])]
 refine ⟨dv, v2, hD, hr, .of (r' := T11 (.ptr jr 0)) (h1 := hD) e9 (by simp) (.ef s0 (.ef s1 (.ef s2 (.seq (.ef s3 (.bN k1)) s4)))) rt, OD, WD, p1.trans m1, m3, fun k hk => ?_, ?_, ?_⟩
 ·rcases m4 k hk with g | g
  ·rcases p3 k g with g | g
   ·exact .inl g
   ·exact .inr (Os.none g)
  ·rcases q3 k g with g | g
   ·exact .inl g
   ·exact .inr (OA.none g)
 ·exact dt.up p4 m1 fun _ _ _ e => e
 ·exact dt.up q4 m2 fun _ _ _ e => gE.up e m2
end
open Go.Cod
noncomputable section
variable {p : Pg} {h hb h' h2 h0 : Hp} {q j jr : P4} {x y v a b d e f g : AV} {o : Nat}
end
open Go.Cod
noncomputable section
variable {p : Pg} {h hb h' h2 h0 : Hp} {q j je : P4} {x y v a b d e f g : AV} {o : Nat}
set_option maxRecDepth 20000 in
set_option maxHeartbeats 1000000 in
end
open Go.Cod
noncomputable section
variable {p : Pg} {h hb h' h2 h0 : Hp} {q j je : P4} {x y v a b d e f g : AV} {o : Nat}
end
open Go.Cod
noncomputable section
variable {p : Pg} {h hb h' h2 h0 : Hp} {q j je : P4} {x y v a b d e f g : AV} {o : Nat}
end
open Go.Cod
noncomputable section
variable {p : Pg} {h hb h' h2 h0 : Hp} {q j je : P4} {x y v a b d e f g : AV} {o : Nat}
theorem si.mono : ∀ (h1 h2 : Hp) (l : List AV) (a : Sp), Old h1 h2 → si h1 l a → si h2 l a := fun _ _ _ _ O r => si.up r O
end
open Go.Cod
noncomputable section
variable {p : Pg} {h hb h' h2 h0 : Hp} {q j je : P4} {x y v a b d e f g : AV} {o : Nat}
theorem Eu {es n : Nat} (sl : vO x es n q o) : same x x = true := by
 have := mL sl
 rcases sl with ⟨cap, rfl⟩ | rfl | ⟨rfl, _⟩ <;> exact this
theorem Ew (k : Int) : dL (gZ k) := kz (oV k)
theorem AR {B : Nat} {e : jA} (b : wO B e) : wO B (aL e) := by
 obtain ⟨b1, b2, b3, b4, b5, b6, b7, b8, b9⟩ := b
 have hsub := (List.takeWhile_sublist (fun c : Bs × Int => decide (c.1.length ≤ 20)) (l := e.bP.take 8))
 refine ⟨b1, b2, b3, ?_, ?_, ?_, ?_, ?_, ?_⟩
 ·simp only [aL, List.length_take]; omega
 ·simp only [aL, List.length_take]; omega
 ·simp only [aL, List.length_map]
  have := hsub.length_le
  rw [List.length_take] at this
  omega
 ·intro c hc
  simp only [aL, List.mem_map] at hc
  obtain ⟨c0, h0, rfl⟩ := hc
  exact ⟨(b7 c0 (List.mem_of_mem_take (hsub.subset h0))).1, Ew _⟩
 ·simp only [aL, List.length_map, List.length_take]; omega
 ·intro c hc
  simp only [aL, List.mem_map] at hc
  obtain ⟨c0, h0, rfl⟩ := hc
  obtain ⟨d1, d2, d3⟩ := b9 c0 (List.mem_of_mem_take h0)
  refine ⟨by simp only [mJ, List.length_take]; omega, by simp only [mJ, List.length_map, List.length_take]; omega, fun v hv => ?_⟩
  simp only [mJ, List.mem_map] at hv
  obtain ⟨v0, h1, rfl⟩ := hv
  obtain ⟨k1, k2, k3⟩ := d3 v0 (List.mem_of_mem_take h1)
  exact ⟨Ew _, k2, by simp only [sK, List.length_take]; omega⟩
end
open Go.Cod
set_option maxRecDepth 20000
noncomputable section
variable {p : Pg} {h hb h0 h' h1 h2 h3 : Hp} {q j k js : P4} {s l : Bs} {x y v a b d xc xg : AV} {α : Type}
theorem Ey {B : Nat} {e : jA} (b : wO B e) : Cod.fits e := fun c hc v hv => ((b.2.2.2.2.2.2.2.2 c hc).2.2 v hv).2.1
end
open Go.Cod
noncomputable section
variable {p : Pg} {h0 h h' h1 h2 h3 : Hp} {q j k js : P4} {s l : Bs} {x y v d xc xg : AV} {r rr : Rd} {L : List AV} {b : P4 → Prop}
structure PJ (h0 h : Hp) (q : P4) (x : AV) (s : Bs) (a : Nat) (ref : Bool) (u w : Int) : Prop where
 old : Old h0 h
 wf : Wf h
 new : ag q h0 = .none
 ob : Ob h q 96 true .plain [x, i64 a, .bool ref, i64 u, i64 w]
 own : dX h0 x 5 1 (bc s) fun _ => True
 len : s.length ≤ 16777216
 oq : a ≤ s.length
def Rf (h0 h : Hp) (q : P4) (r : Rd) : Prop := ∃ x s a ref u w, PJ h0 h q x s a ref u w ∧ r = if ref = true then none else some (s.drop a)
theorem PJ.c {a : Nat} {ref : Bool} {u w : Int} (W : PJ h0 h q x s a ref u w) : Cs h q 0 [x, i64 a, .bool ref, i64 u, i64 w] := Ob.c0 W.ob
theorem PJ.o {a : Nat} {ref : Bool} {u w : Int} (W : PJ h0 h q x s a ref u w) : dX h x 5 1 (bc s) fun _ => True := W.own.old fun j _ hj => W.old j hj
theorem PJ.set {a a' : Nat} {ref ref' : Bool} {u w u' w' : Int} (W : PJ h0 h q x s a ref u w) (o : Ob h' q 96 true .plain [x, i64 a', .bool ref', i64 u', i64 w']) (g : ∀ j, j ≠ q → ag j h' = ag j h) (hn : h'.next = h.next) (ha : a' ≤ s.length) :
  PJ h0 h' q x s a' ref' u' w' := ⟨Fr.old (fun j hj _ => g j hj) W.old W.new, gV W.wf W.ob g hn, W.new, o, W.own, W.len, ha⟩
theorem Rf.wf (w : Rf h0 h q r) : Wf h := let ⟨_, _, _, _, _, _, w, _⟩ := w; w.wf
theorem Rf.old (w : Rf h0 h q r) : Old h0 h := let ⟨_, _, _, _, _, _, w, _⟩ := w; w.old
theorem Rf.new (w : Rf h0 h q r) : ag q h0 = .none := let ⟨_, _, _, _, _, _, w, _⟩ := w; w.new
theorem Rf.ne (w : Rf h0 h q r) : ag q h ≠ .none := let ⟨_, _, _, _, _, _, w, _⟩ := w; w.ob.ne
theorem Rf.apart (w : Rf h0 h q r) {el : Nat} {ex : Bool} {fl : Fl} {l : List AV} (o : Ob h j el ex fl l) (g : el ≠ 96 ∨ ex ≠ true) : j ≠ q := let ⟨_, _, _, _, _, _, w, _⟩ := w; o.apart w.ob g
theorem Rf.fr (w : Rf h0 h q r) (F : Fr j h h') (hj : ag j h0 = .none) (hq : q ≠ j) (W : Wf h') : Rf h0 h' q r :=
 let ⟨x, s, a, ref, u, v, w, e⟩ := w
 ⟨x, s, a, ref, u, v, ⟨F.old w.old hj, W, w.new, F.ob w.ob hq, w.own, w.len, w.oq⟩, e⟩
theorem Rf.fk (w : Rf h0 h q r) (W : Wf h') (O : Old h0 h') (g : ∀ k el ex fl l, Ob h k el ex fl l → el = 96 → ag k h' = ag k h) : Rf h0 h' q r :=
 let ⟨x, s, a, ref, u, v, w, e⟩ := w
 ⟨x, s, a, ref, u, v, ⟨O, W, w.new, w.ob.eq (g _ _ _ _ _ w.ob rfl), w.own, w.len, w.oq⟩, e⟩
end
open Go.Cod
set_option maxRecDepth 20000
noncomputable section
variable {p : Pg} {h0 h h' h1 h2 h3 : Hp} {q j k js : P4} {s l : Bs} {x y v d xc xg : AV} {r rr : Rd} {L : List AV} {xs : List So}
end
open Go.Cod
noncomputable section
variable {p : Pg} {h hb h' h2 h0 : Hp} {q j je : P4} {x y v a b d e f g : AV} {o : Nat}
end
open Go.Cod
set_option maxRecDepth 20000
noncomputable section
variable {p : Pg} {h hb h0 h' h1 h2 h3 : Hp} {q i j k js : P4} {s t l : Bs} {x y v a b d xc xg : AV}
theorem Nx (e46 : aq 43 p.fs = f43) (ra : fm h x s) (rb : fm h y t) (hn : s.length < 9223372036854775807) : Cv p 43 [x, y] h (.bool (decide (s = t))) h := by
 have ne (u w : UInt8) : jL (.int .u8 (u.toNat : Int)) (.int .u8 (w.toNat : Int)) h = .ok (.bool (!decide (u = w))) h := by
  rw [Ez]
  congr 3
  rw [decide_eq_decide]
  refine ⟨fun g => UInt8.toNat_inj.1 (by omega), fun g => by rw [g]⟩
 obtain ⟨h', rfl, c⟩ := yJ (p := p) (x := x) (y := y) (as1 := s) (bs := t) e46 (R := fun i => T29 x y (i64 i)) (Re := T29 x y (i64 s.length)) (Q := fun h' => h' = h) rfl
  (EA (fm.len ra) (fm.len rb) fun c i K => by simp only [k43_0, K2, gT, gU]) (fun c i K => by simp only [k43_1, K2, mH, mI]; rfl) (fun c i K h' => rfl)
  (fun hl i h' hi hj e0 e => by
   subst e0
   refine ⟨h', rfl, .aR fun c i' K => ?_⟩
   obtain ⟨u1, a1, a2⟩ := ra.at hi
   obtain ⟨u2, b1, b2⟩ := rb.at hj
   simp only [k43_2, K3, jB, jC, jD]
   have av := ne s[i] t[i]
   rw [decide_eq_true e] at av
   (rw [bt (fm.len ra), bA, bH, if_pos (by omega), aD a1, aD a2, aD b1, aD b2, aD av, Bool.not_true, fK, dS hi hn]; try rfl))
  (fun hl i h' hi hj e0 e => by
   subst e0
   refine ⟨h', rfl, .aR fun c i' K => ?_⟩
   obtain ⟨u1, a1, a2⟩ := ra.at hi
   obtain ⟨u2, b1, b2⟩ := rb.at hj
   simp only [k43_2, K3, jB, jC, jD]
   have av := ne s[i] t[i]
   rw [decide_eq_false e] at av
   (rw [bt (fm.len ra), bA, bH, if_pos (by omega), aD a1, aD a2, aD b1, aD b2, aD av, Bool.not_false, gY]; try rfl))
  (fun h' e0 => by
   subst e0
   refine .aR fun c i' K => ?_
   simp only [k43_2, K3, jB, jC, jD]
   (rw [bt (fm.len ra), bA, bH, if_neg (by omega)]; try rfl))
 exact c
theorem RA {Z : List AV} (W : Wf h) (o : Ob h i 5 true .plain Z) (r : fm h y s) (hs : s.length ≤ Z.length) (hl : s.length ≤ 16777216) : ∃ h', FY 1 (.slice i 0 Z.length Z.length) y h = .ok (fg (Nat.min s.length Z.length)) h' ∧ Ob h' i 5 true .plain (bc s ++ Z.drop s.length) ∧ (∀ j, j ≠ i → ag j h' = ag j h) ∧ h'.next = h.next := by
 obtain ⟨q, o', n, e1, e2, e3⟩ := r
 subst e2
 have el := uY (h := h) e1 (by omega) e3 (by rw [bU]; omega) (fun l => rV (List.take (Nat.mul Z.length 1) l) (.slice i 0 Z.length Z.length) h (fun h => .ok (fg (Nat.min s.length Z.length)) h)) (.err 94)
 have hv : FY 1 (.slice i 0 Z.length Z.length) y h = elems 1 y h (fun l => rV (List.take (Nat.mul Z.length 1) l) (.slice i 0 Z.length Z.length) h (fun h => .ok (fg (Nat.min s.length Z.length)) h)) (.err 94) := by
  rcases e1 with ⟨cap, rfl⟩ | rfl | ⟨rfl, h0⟩
  ·rfl
  ·rfl
  ·show elems 1 .ar h (fun l => rV (List.take (Nat.mul Z.length 1) l) (.slice i 0 Z.length Z.length) h (fun h => .ok (fg (Nat.min 0 Z.length)) h)) (.err 94) = _
   rw [h0]
 rw [hv, el]
 have tk : List.take (Nat.mul Z.length 1) (bc s) = bc s := List.take_of_length_le (by rw [bU]; show s.length ≤ Z.length * 1; omega)
 rw [tk]
 cases hb : bc s with
 | nil =>
  have : s = [] := by cases s with | nil => rfl | cons _ _ => simp [bc] at hb
  subst this
  exact ⟨h, rfl, by simpa using o, fun _ _ => rfl, rfl⟩
 | cons c0 cs =>
  obtain ⟨c, f1, f2, f3⟩ := o
  have hlen : (c0 :: cs).length = s.length := by rw [← hb, bU]
  refine ⟨cM i (.cells 5 Z.length true .plain (cG (c0 :: cs) 0 c)) h, ?_, ⟨cG (c0 :: cs) 0 c, ?_, ?_, fun j hj => ?_⟩, fun j hj => by rw [aF, if_neg hj], rfl⟩
  ·show (Obj.aU (ag i h) (fun el n ex fl c => @Bool.rec (fun _ => RV) (.err 78) (@Bool.rec (fun _ => RV) (.err 79) (.ok (fg (Nat.min s.length Z.length)) (cM i (.cells el n ex fl (cG (c0 :: cs) 0 c)) h)) (Nat.ble (Nat.add 0 (c0 :: cs).length) n)) (wr fl)) (.err 80) : RV) = _
   rw [f1]
   show (@Bool.rec (fun _ => RV) (.err 79) (.ok (fg (Nat.min s.length Z.length)) (cM i (.cells 5 Z.length true .plain (cG (c0 :: cs) 0 c)) h)) (Nat.ble (0 + (c0 :: cs).length) Z.length) : RV) = _
   rw [Nat.ble_eq_true_of_le (show 0 + (c0 :: cs).length ≤ Z.length by rw [hlen]; omega)]
  ·have e : (c0 :: cs ++ Z.drop s.length).length = Z.length := by rw [List.length_append, hlen, List.length_drop]; omega
   rw [e, aF, if_pos rfl]
  ·have e : (c0 :: cs ++ Z.drop s.length).length = Z.length := by rw [List.length_append, hlen, List.length_drop]; omega
   rw [e, fh]
   exact ⟨f2.1.cG _ _, f2.2⟩
  ·have e : (c0 :: cs ++ Z.drop s.length).length = Z.length := by rw [List.length_append, hlen, List.length_drop]; omega
   rw [e] at hj
   have hr := f2.2
   rw [ll (c0 :: cs) 0 c j (by omega) (by omega)]
   by_cases h1 : j < s.length
   ·rw [dif_pos (by omega), List.getElem_append_left (by omega)]
    congr 1
   ·rw [dif_neg (by omega), List.getElem_append_right (by omega), List.getElem_drop, f3 j (by omega)]
    congr 1
    omega
theorem PL (n : Nat) (z : AV) : dM n [z] = List.replicate n z := by
 induction n with
 | zero => rfl
 | succ n ih => rw [ri, ih]; rfl
theorem Kn (e15 : aq 11 p.fs = f11) (W : Wf h) (r : fm h x s) (hl : s.length + 80 ≤ 16777216) : ∃ i h', Cv p 11 [x, .int .u8 (.ofNat 165)] h (.slice i 0 (s.length + 80) (s.length + 80)) h' ∧ Ob h' i 5 true .plain (bc (s ++ List.replicate 80 165)) ∧ Old h h' ∧ Wf h' := by
 have hZ : (dM (s.length + 80) [AV.int .u8 (.ofNat 0)]).length = s.length + 80 := by rw [PL, List.length_replicate]
 obtain ⟨i, h1, e1, e2, e3, e4, e5, e6⟩ := yK (el := 5) (ex := true) (fl := .plain) W (dM (s.length + 80) [AV.int .u8 (.ofNat 0)]) (c := ox (dM (s.length + 80) [AV.int .u8 (.ofNat 0)])) (Gd.of _ (by rw [hZ]; omega)) (fun k hk => ny _ (by rw [hZ]; omega) k hk) (fun i h => .ok (.slice i 0 (s.length + 80) (s.length + 80)) h)
 have mk : fV 5 [(.int .u8 (.ofNat 0))] (.c (i64 (s.length + 80 : Nat))) (.c (i64 (s.length + 80 : Nat))) .nil h = .ok (.slice i 0 (s.length + 80) (s.length + 80)) h1 := by
  show (@Bool.rec (fun _ => RV) (.err 39) (@Bool.rec (fun _ => RV) (.err 40) (Ta 5 (s.length + 80) (s.length + 80) (dM (s.length + 80) [AV.int .u8 (.ofNat 0)]) h) (Nat.ble (s.length + 80) 16777216)) (Nat.ble (s.length + 80) (s.length + 80))) = _
  rw [Nat.ble_eq_true_of_le (Nat.le_refl _), Nat.ble_eq_true_of_le hl]
  exact e1
 obtain ⟨h2, c1, c2, c3, c4⟩ := RA e5 e3 (r.up e4) (by rw [hZ]; omega) (by omega)
 rw [hZ] at c1
 have W2 := gV e5 e3 c3 c4
 have O2 : Old h h2 := Fr.old (fun j hj _ => c3 j hj) e4 e2
 have c2 : Ob h2 i 5 true .plain (bc (s ++ List.replicate 0 165) ++ List.replicate (80 - 0) (.int .u8 (.ofNat 0))) := by
  have : (dM (s.length + 80) [AV.int .u8 (.ofNat 0)]).drop s.length = List.replicate 80 (.int .u8 (.ofNat 0)) := by rw [PL, List.drop_replicate, Nat.add_sub_cancel_left]
  rw [this] at c2
  simpa using c2
 have sl : vO (.slice i 0 (s.length + 80) (s.length + 80)) 1 (s.length + 80) i 0 := .inl ⟨_, rfl⟩
 obtain ⟨r', h3, ⟨rfl, O3, W3, o3⟩, k3⟩ := gv (p := p) (body := .ah k11_2 .skip) (r := T30 (.int .u8 (.ofNat 165)) (.slice i 0 (s.length + 80) (s.length + 80)) (i64 (s.length + 0 : Nat))) (h := h2) 80
  (Inv := fun n r h' => r = T30 (.int .u8 (.ofNat 165)) (.slice i 0 (s.length + 80) (s.length + 80)) (i64 (s.length + n : Nat)) ∧ Old h h' ∧ Wf h' ∧ Ob h' i 5 true .plain (bc (s ++ List.replicate n 165) ++ List.replicate (80 - n) (.int .u8 (.ofNat 0)))) (l := 0) (Re := T30 (.int .u8 (.ofNat 165)) (.slice i 0 (s.length + 80) (s.length + 80)) (i64 (s.length + 80 : Nat))) (fun n r h' hn I => by
   obtain ⟨rfl, O, W', o⟩ := I
   have hlen : (bc (s ++ List.replicate n 165) ++ List.replicate (80 - n) (AV.int .u8 (.ofNat 0))).length = s.length + 80 := by simp [bc]; omega
   obtain ⟨h4, g1, g2, g3, g4⟩ := dY (k := s.length + n) (v := .int .u8 (.ofNat 165)) o (by omega) rfl
   refine ⟨_, h4, .aR fun c i' K => ?_, rfl, Fr.old (fun j hj _ => g3 j hj) O e2, gV W' o g3 g4, ?_⟩
   ·simp only [k11_2, K3, t30_1, t30_5, t30_6]
    have X : iX 1 (.slice i 0 (s.length + 80) (s.length + 80)) (i64 (s.length + n : Nat)) h' = .ok (.ptr i (s.length + n)) h' := by
     rw [ct sl (by omega), Nat.zero_add, Nat.mul_one]
    (rw [bt (eY sl), bA, bH, if_pos (by omega), du X, dQ g1, dS (n := s.length + 80) (by omega) (by omega)]; try rfl)
   ·have : (bc (s ++ List.replicate n 165) ++ List.replicate (80 - n) (AV.int .u8 (.ofNat 0))).set (s.length + n) (.int .u8 (.ofNat 165)) = bc (s ++ List.replicate (n + 1) 165) ++ List.replicate (80 - (n + 1)) (.int .u8 (.ofNat 0)) := by
     have e1 : 80 - n = (80 - (n + 1)) + 1 := by omega
     rw [e1, List.replicate_succ, List.set_append_right _ _ (by simp [bc])]
     have e2 : s.length + n - (bc (s ++ List.replicate n 165)).length = 0 := by simp [bc]
     rw [e2, List.set_cons_zero, List.replicate_succ', ← List.append_assoc s, uZ (s ++ _), List.append_assoc (bc _)]
     rfl
    rw [this] at g2
    exact g2) (fun r h' I => by
   obtain ⟨rfl, O, W', o⟩ := I
   refine .aR fun c i' K => ?_
   simp only [k11_2, K3, t30_1, t30_5, t30_6]
   (rw [bt (eY sl), bA, bH, if_neg (by omega)]; try rfl)) ⟨rfl, O2, W2, c2⟩
 refine ⟨i, h3, .of (r' := T31 (.slice i 0 (s.length + 80) (s.length + 80))) (h1 := h3) e15 (by simp) (.ef (r' := T29 x (.int .u8 (.ofNat 165)) (.slice i 0 (s.length + 80) (s.length + 80))) (h' := h2) (fun c i' K => ?_) (.seq (.ef (r' := T30 (.int .u8 (.ofNat 165)) (.slice i 0 (s.length + 80) (s.length + 80)) (i64 (s.length + 0 : Nat))) (h' := h2) (fun c i' K => ?_) (.bN k3)) (.aR fun c i' K => ?_))) rfl, by simpa using o3, O3, W3⟩
 ·simp only [k11_0, K2, gT, gU]
  have hd : ∀ K : AV → Hp → RS, Seat.D (i64 s.length) (pi 80) h K = K (i64 (s.length + 80 : Nat)) h := fun K => by
   show Seat.D (i64 s.length) (i64 80) h K = _
   rw [mG, lO _ (by unfold dL; omega)]; rfl
  (rw [bt (fm.len r), hd, aH mk, aH c1]; try rfl)
 ·simp only [k11_1, K3, jB, jC, jD]
  (rw [bt (fm.len (r.up O2))]; try rfl)
 ·simp only [k11_3, K1, t30_5]
theorem AU {cap : Nat} (o : Ob h i 5 true .plain (bc (s ++ t))) : fm h (.slice i 0 s.length cap) s := ⟨i, 0, s.length, .inl ⟨_, rfl⟩, rfl, fun _ => o.cs (k := 0) (m := bc s) (fun j hj => by
 have e : bc (s ++ t) = bc s ++ bc t := uZ s t
 simp only [Nat.zero_add, e]
 exact ⟨by rw [List.length_append]; omega, List.getElem_append_left hj⟩) (by rw [uZ, List.length_append]; omega)⟩
theorem CB (e46 : aq 43 p.fs = f43) (rf : Ob h i 5 true .plain (bc (s ++ List.replicate 80 165))) (rx : fm h x s) (hl : s.length + 80 ≤ 16777216) : ∃ r', Os p (opsL (dp 2 (bh x12))) (T32 (.slice i 0 (s.length + 80) (s.length + 80)) x (.int .u8 (.ofNat 165))) h (.nm r' h) ∧ y0 r' = .slice i 0 (s.length + 80) (s.length + 80) ∧ y1 r' = x ∧ y2 r' = .int .u8 (.ofNat 165) ∧ y22 r' = .bool false := by
 have sl : vO (.slice i 0 (s.length + 80) (s.length + 80)) 1 (s.length + 80) i 0 := .inl ⟨_, rfl⟩
 have add : bK .add (i64 s.length) (pi 80) h = .ok (i64 (s.length + 80 : Nat)) h := by
  show jx (.int .i64 s.length) (.int .i64 80) h = _
  rw [EC, lO _ (by unfold dL; omega)]; rfl
 have ne : bK .ne (i64 (s.length + 80 : Nat)) (i64 (s.length + 80 : Nat)) h = .ok (.bool false) h := by
  show jL (.int .i64 _) (.int .i64 _) h = _
  rw [Ez, decide_eq_true rfl]; rfl
 have cut : fN 1 (.c (.slice i 0 (s.length + 80) (s.length + 80))) .none (.some (.c (i64 s.length))) .none .nil h = .ok (.slice i 0 s.length (s.length + 80)) h := by
  show (@Bool.rec (fun _ => RV) (.err 42) (@Bool.rec (fun _ => RV) (.err 42) (@Bool.rec (fun _ => RV) (.err 42) (.ok (.slice i (@Bool.rec (fun _ => Nat) (Nat.add 0 (Nat.mul 0 1)) 0 (Nat.beq (s.length + 80) 0)) (Nat.sub s.length 0) (Nat.sub (s.length + 80) 0)) h) (Nat.ble (s.length + 80) (s.length + 80))) (Nat.ble s.length (s.length + 80))) (Nat.ble 0 s.length)) = _
  rw [Nat.ble_eq_true_of_le (Nat.zero_le _), Nat.ble_eq_true_of_le (Nat.le_refl _), Nat.ble_eq_true_of_le (Nat.le_add_right _ _)]
  rfl
 have rb : fm h (.slice i 0 s.length (s.length + 80)) s := AU rf
 have sm := Nx (p := p) (h := h) e46 rb rx (by omega)
 rw [decide_eq_true rfl] at sm
 exact ⟨_, .step (v := .slice i 0 (s.length + 80) (s.length + 80)) (h' := h) rfl <| .step (v := i64 (s.length + 80 : Nat)) (h' := h) (eY sl) <| .step (v := x) (h' := h) rfl <| .step (v := i64 s.length) (h' := h) (fm.len rx) <| .step (v := i64 (s.length + 80 : Nat)) (h' := h) add <| .step (v := .bool false) (h' := h) ne <| .step (v := .bool false) (h' := h) rfl <|
  .on rfl <| .step (v := .slice i 0 (s.length + 80) (s.length + 80)) (h' := h) rfl <| .on rfl <| .step (v := x) (h' := h) rfl <| .on rfl <| .step (v := i64 s.length) (h' := h) (fm.len rx) <| .on rfl <| .step (v := .slice i 0 s.length (s.length + 80)) (h' := h) cut <| .on rfl <| .step (v := x) (h' := h) rfl <|
  .on rfl <| .call (v := .bool true) (h' := h) sm <| .on rfl <| .step (v := .bool false) (h' := h) rfl <| .step (v := .bool false) (h' := h) rfl <| .nil, rfl, rfl, rfl, rfl⟩
theorem wW (e17 : aq 12 p.fs = f12) (e46 : aq 43 p.fs = f43) (rf : Ob h i 5 true .plain (bc (s ++ List.replicate 80 165))) (rx : fm h x s) (hl : s.length + 80 ≤ 16777216) : Cv p 12 [.slice i 0 (s.length + 80) (s.length + 80), x, .int .u8 (.ofNat 165)] h (.bool true) h := by
 have sl : vO (.slice i 0 (s.length + 80) (s.length + 80)) 1 (s.length + 80) i 0 := .inl ⟨_, rfl⟩
 obtain ⟨r', o1, o2, o3, o4, o5⟩ := CB (p := p) e46 rf rx hl
 obtain ⟨r2, h2, ⟨rfl, rfl⟩, k2⟩ := gv (p := p) (body := .ah k12_3 .skip) (r := T33 (.slice i 0 (s.length + 80) (s.length + 80)) (.int .u8 (.ofNat 165)) (i64 (s.length + 0 : Nat))) (h := h) 80
  (Inv := fun n r h' => r = T33 (.slice i 0 (s.length + 80) (s.length + 80)) (.int .u8 (.ofNat 165)) (i64 (s.length + n : Nat)) ∧ h' = h) (l := 0) (Re := T33 (.slice i 0 (s.length + 80) (s.length + 80)) (.int .u8 (.ofNat 165)) (i64 (s.length + 80 : Nat))) (fun n r h' hn I => by
   obtain ⟨rfl, rfl⟩ := I
   refine ⟨_, h', .aR fun c i' K => ?_, rfl, rfl⟩
   simp only [k12_3, K3, t33_0, t33_2, t33_7]
   have X : iX 1 (.slice i 0 (s.length + 80) (s.length + 80)) (i64 (s.length + n : Nat)) h' = .ok (.ptr i (0 + (s.length + n))) h' := by
    rw [ct sl (by omega), Nat.mul_one]
   have Lv : lD (.ptr i (0 + (s.length + n))) h' = .ok (.int .u8 (.ofNat 165)) h' := aw (Ob.c0 rf) (s.length + n) (by
    rw [List.getElem?_eq_some_iff]
    refine ⟨by simp [bc]; omega, ?_⟩
    simp only [bc, List.getElem_map, List.getElem_append_right (show s.length ≤ s.length + n by omega), List.getElem_replicate]
    rfl)
   have ne : jL (.int .u8 (.ofNat 165)) (.int .u8 (.ofNat 165)) h' = .ok (.bool false) h' := rfl
   (rw [bt (eY sl), bA, bH, if_pos (by omega), du X, aC Lv, aH ne, fK, dS (n := s.length + 80) (by omega) (by omega)]; try rfl)) (fun r h' I => by
   obtain ⟨rfl, rfl⟩ := I
   refine .aR fun c i' K => ?_
   simp only [k12_3, K3, t33_0, t33_2, t33_7]
   (rw [bt (eY sl), bA, bH, if_neg (by omega)]; try rfl)) ⟨rfl, rfl⟩
 refine .of (r' := T28 (.bool true)) (h1 := h2) e17 (by simp) (.ef (r' := T32 (.slice i 0 (s.length + 80) (s.length + 80)) x (.int .u8 (.ofNat 165))) (h' := h2) (fun c i' K => ?_) (.seq (.seq (.ops o1) (.aR (s := .nm (T32 (.slice i 0 (s.length + 80) (s.length + 80)) x (.int .u8 (.ofNat 165))) h2) fun c i' K => ?_)) (.seq (.ef (r' := T33 (.slice i 0 (s.length + 80) (s.length + 80)) (.int .u8 (.ofNat 165)) (i64 (s.length + 0 : Nat))) (h' := h2) (fun c i' K => ?_) (.bN k2)) (.aR fun c i' K => rfl)))) rfl
 ·simp only [k12_0, K3, wP, wQ, wR]
 ·simp only [k12_1, K4, o2, o3, o4, o5]; rfl
 ·simp only [k12_2, K3, t32_0, t32_1, t32_2]
  (rw [bt (fm.len rx)]; try rfl)
end
open Go.Cod
set_option maxRecDepth 20000
noncomputable section
variable {p : Pg} {h hb h0 h' h1 h2 h3 : Hp} {q i j k js : P4} {s t l : Bs} {x y v a b d e f xc xg : AV}
theorem vb (e : jA) : (enc (aL e)).length ≤ 6000 := by
 have h5 : (aL e).bP.length ≤ 8 := by
  unfold aL
  simp only [List.length_map]
  exact Nat.le_trans (List.takeWhile_sublist _).length_le (by simp; omega)
 have h6 : (aL e).changes.length ≤ 9 := by
  unfold aL
  simp only [List.length_map, List.length_take]
  omega
 have h7 : (aL e).name.length ≤ 20 ∧ (aL e).text.length ≤ 700 := by
  unfold aL
  simp only [List.length_take]
  omega
 have c1 : ((aL e).bP.flatMap mM).length ≤ (aL e).bP.length * 30 := yL fun c hc => by
  unfold aL at hc
  simp only [List.mem_map] at hc
  obtain ⟨x, hx, rfl⟩ := hc
  have := jN hx
  simp only [decide_eq_true_eq] at this
  unfold mM
  simp only [List.length_append, aN, aQ]
  omega
 have c2 : ((aL e).changes.flatMap mN).length ≤ (aL e).changes.length * 500 := yL fun c hc => by
  unfold aL at hc
  simp only [List.mem_map] at hc
  obtain ⟨x, _, rfl⟩ := hc
  have h1 : ((mJ x).row.flatMap mO).length ≤ (mJ x).row.length * 59 := yL fun v hv => by
   unfold mJ at hv
   simp only [List.mem_map] at hv
   obtain ⟨y, _, rfl⟩ := hv
   unfold mO sK
   simp only [List.length_append, aN, aQ, List.length_take]
   omega
  have h2 : (mJ x).row.length ≤ 7 := by unfold mJ; simp; omega
  have h3 : (mJ x).table.length ≤ 20 := by unfold mJ; simp; omega
  unfold mN
  simp only [List.length_append, aN, bT]
  omega
 unfold enc
 simp only [List.length_append, aN, aQ, bT]
 omega
theorem Ny (w : Bb h0 h x s) {m : Nat} (hm : m < s.length) (z : UInt8) : ∃ a u h', iX 1 x (i64 m) h = .ok a h ∧ lD a h = .ok (.int .u8 (s[m].toNat : Int)) h ∧ mq (.int .u8 (s[m].toNat : Int)) (.int .u8 (z.toNat : Int)) h = .ok u h ∧ sT a u h = .ok .undef h' ∧ ∃ s', s'.length = s.length ∧ Bb h0 h' x s' := by
 obtain ⟨a, b1, b2⟩ := w.rd.at hm
 have hz := z.toNat_lt
 have hs := s[m].toNat_lt
 have hx : Nat.xor s[m].toNat z.toNat < 256 := Nat.xor_lt_two_pow (n := 8) hs hz
 have xo : mq (.int .u8 (s[m].toNat : Int)) (.int .u8 (z.toNat : Int)) h = .ok (.int .u8 ((UInt8.ofNat (Nat.xor s[m].toNat z.toNat)).toNat : Int)) h := by
  show RV.ok (.int .u8 (.ofNat (Nat.xor (s[m].toNat % 256) (z.toNat % 256) % 256))) h = _
  rw [Nat.mod_eq_of_lt hs, Nat.mod_eq_of_lt hz]
  have (n : Nat) : (UInt8.ofNat n).toNat = n % 256 := by simp
  rw [this]; rfl
 rcases w.own with ⟨e, _⟩ | ⟨k', n, rfl, e2, e3, e4⟩
 ·have h0 : s.length = 0 := by rw [← bU, e]; rfl
  omega
 ·have ea : a = .ptr k' m := by
   have X := ct (h := h) (x := .fq k' 0 n 1) (es := 1) (n := n) (q := k') (o := 0) (.inr (.inl rfl)) (i := m) (by rw [bU] at e2; omega)
   rw [b1] at X
   have := (RV.ok.inj X).1
   rw [this, Nat.mul_one, Nat.zero_add]
  subst ea
  obtain ⟨h', g1, g2, g3, g4⟩ := dY (k := m) (v := .int .u8 ((UInt8.ofNat (Nat.xor s[m].toNat z.toNat)).toNat : Int)) e3 (by rw [bU]; exact hm) rfl
  have g2 : Ob h' k' 5 false .plain (bc (s.set m (UInt8.ofNat (Nat.xor s[m].toNat z.toNat)))) := by
   have : bc (s.set m (UInt8.ofNat (Nat.xor s[m].toNat z.toNat))) = (bc s).set m (.int .u8 ((UInt8.ofNat (Nat.xor s[m].toNat z.toNat)).toNat : Int)) := by
    unfold bc
    rw [List.map_set]
   rw [this]; exact g2
  exact ⟨_, _, h', b1, b2, xo, g1, s.set m (UInt8.ofNat (Nat.xor s[m].toNat z.toNat)), by simp, Fr.old (fun j hj _ => g3 j hj) w.old e4, gV w.wf e3 g3 g4, .inr ⟨k', n, rfl, by rw [bU, List.length_set, ← bU]; exact e2, g2, e4⟩⟩
end
open Go.Cod
set_option maxRecDepth 20000
noncomputable section
variable {p : Pg} {h hb h' h2 h0 : Hp} {q j je : P4} {x y v a b d e f g : AV} {o : Nat}
def wX (c : nu) : Bool := c.row.all fun v => small v.kind
def ot (e : jA) : Bool := small e.aK && small e.seq && small e.kind
def mP (e : jA) : Bool := ot e && e.bP.all (fun c => small c.2) && e.changes.all wX
theorem sj {e : jA} (hr : mP (aL e) = true) : takes (aL e) = true := by
 unfold mP ot at hr
 simp only [Bool.and_eq_true] at hr
 obtain ⟨⟨⟨⟨h1, h2⟩, h3⟩, _⟩, _⟩ := hr
 have h5 : (aL e).bP.length ≤ 8 := by
  unfold aL
  simp only [List.length_map]
  exact Nat.le_trans (List.takeWhile_sublist _).length_le (by simp; omega)
 have h6 : (aL e).changes.length ≤ 9 := by
  unfold aL
  simp only [List.length_map, List.length_take]
  omega
 have h7 : (aL e).name.length ≤ 20 ∧ (aL e).text.length ≤ 700 := by
  unfold aL
  simp only [List.length_take]
  omega
 unfold takes Cod.short
 simp only [Bool.and_eq_true, decide_eq_true_eq, List.all_eq_true]
 refine ⟨⟨⟨⟨⟨⟨⟨⟨h1, h2⟩, h3⟩, by omega⟩, by omega⟩, by omega⟩, by omega⟩, fun c hc => ?_⟩, fun c hc => ?_⟩
 ·unfold aL at hc
  simp only [List.mem_map] at hc
  obtain ⟨x, hx, rfl⟩ := hc
  have := jN hx
  simp only [decide_eq_true_eq] at this
  exact ⟨by simp only; omega, oV _⟩
 ·unfold aL at hc
  simp only [List.mem_map] at hc
  obtain ⟨x, _, rfl⟩ := hc
  exact CC x
theorem CD (e15 : aq 15 p.fs = f15) {e : jA} (c : Cs h j 0 (cZ x y e)) :
  ∃ r', Os p (opsL (fst (fst (bh x5)))) (T12 (.ptr j 0)) h (.nm r' h) ∧ y1 r' = .ptr j 0 ∧ y21 r' = .bool (!ot e) := by
 have n1 := mQ (p := p) (h := h) e15 e.aK
 have n2 := mQ (p := p) (h := h) e15 e.seq
 have n3 := mQ (p := p) (h := h) e15 e.kind
 cases k1 : small e.aK with
 | false =>
  rw [k1] at n1
  refine ⟨_, .step (v := .ptr j 0) (h' := h) rfl <| .step (v := i64 e.aK) (h' := h) (cB c rfl) <| .call (v := .bool false) (h' := h) n1 <| .step (v := .bool true) (h' := h) rfl <| .step (v := .bool true) (h' := h) rfl <| .off rfl <| .off rfl <| .off rfl <| .off rfl <| .step (v := .bool true) (h' := h) rfl <| .step (v := .bool true) (h' := h) rfl <| .off rfl <| .off rfl <| .off rfl <| .off rfl <| .step (v := .bool true) (h' := h) rfl <| .nil, rfl, ?_⟩
  unfold ot; rw [k1]; rfl
 | true =>
  rw [k1] at n1
  cases k2 : small e.seq with
  | false =>
   rw [k2] at n2
   refine ⟨_, .step (v := .ptr j 0) (h' := h) rfl <| .step (v := i64 e.aK) (h' := h) (cB c rfl) <| .call (v := .bool true) (h' := h) n1 <| .step (v := .bool false) (h' := h) rfl <| .step (v := .bool false) (h' := h) rfl <| .on rfl <| .step (v := .ptr j 1) (h' := h) rfl <| .on rfl <| .step (v := i64 e.seq) (h' := h) (aw c 1 rfl) <| .on rfl <| .call (v := .bool false) (h' := h) n2 <| .on rfl <| .step (v := .bool true) (h' := h) rfl <| .step (v := .bool true) (h' := h) rfl <| .step (v := .bool true) (h' := h) rfl <| .off rfl <| .off rfl <| .off rfl <| .off rfl <| .step (v := .bool true) (h' := h) rfl <| .nil, rfl, ?_⟩
   unfold ot; rw [k1, k2]; rfl
  | true =>
   rw [k2] at n2
   cases k3 : small e.kind with
   | false =>
    rw [k3] at n3
    refine ⟨_, .step (v := .ptr j 0) (h' := h) rfl <| .step (v := i64 e.aK) (h' := h) (cB c rfl) <| .call (v := .bool true) (h' := h) n1 <| .step (v := .bool false) (h' := h) rfl <| .step (v := .bool false) (h' := h) rfl <| .on rfl <| .step (v := .ptr j 1) (h' := h) rfl <| .on rfl <| .step (v := i64 e.seq) (h' := h) (aw c 1 rfl) <| .on rfl <| .call (v := .bool true) (h' := h) n2 <| .on rfl <| .step (v := .bool false) (h' := h) rfl <| .step (v := .bool false) (h' := h) rfl <| .step (v := .bool false) (h' := h) rfl <| .on rfl <| .step (v := .ptr j 2) (h' := h) rfl <| .on rfl <| .step (v := i64 e.kind) (h' := h) (aw c 2 rfl) <| .on rfl <| .call (v := .bool false) (h' := h) n3 <| .on rfl <| .step (v := .bool true) (h' := h) rfl <| .step (v := .bool true) (h' := h) rfl <| .nil, rfl, ?_⟩
    unfold ot; rw [k1, k2, k3]; rfl
   | true =>
    rw [k3] at n3
    refine ⟨_, .step (v := .ptr j 0) (h' := h) rfl <| .step (v := i64 e.aK) (h' := h) (cB c rfl) <| .call (v := .bool true) (h' := h) n1 <| .step (v := .bool false) (h' := h) rfl <| .step (v := .bool false) (h' := h) rfl <| .on rfl <| .step (v := .ptr j 1) (h' := h) rfl <| .on rfl <| .step (v := i64 e.seq) (h' := h) (aw c 1 rfl) <| .on rfl <| .call (v := .bool true) (h' := h) n2 <| .on rfl <| .step (v := .bool false) (h' := h) rfl <| .step (v := .bool false) (h' := h) rfl <| .step (v := .bool false) (h' := h) rfl <| .on rfl <| .step (v := .ptr j 2) (h' := h) rfl <| .on rfl <| .step (v := i64 e.kind) (h' := h) (aw c 2 rfl) <| .on rfl <| .call (v := .bool true) (h' := h) n3 <| .on rfl <| .step (v := .bool false) (h' := h) rfl <| .step (v := .bool false) (h' := h) rfl <| .nil, rfl, ?_⟩
    unfold ot; rw [k1, k2, k3]; rfl
theorem Gr (e15 : aq 15 p.fs = f15) {L : List AV} {cs : List (Bs × Int)} (c : Cs h j 0 L) (hL : L[5]? = some x) (r : aO h x cs) (hn : cs.length < 9223372036854775807) :
  ∃ st, ((st = .ex 0 (T13 (.ptr j 0) (i64 cs.length)) h ∧ cs.all (fun c => small c.2) = true) ∨ (st = .ret (T11 (.bool false)) h ∧ cs.all (fun c => small c.2) = false)) ∧ Rn p (.loop (.ah Ko .skip)) (T13 (.ptr j 0) i0) h st := by
 obtain ⟨q, o, sl, g⟩ := dt.sl r
 have hlen := dt.len r
 refine eT cs.length (Inv := fun i r h' => r = T13 (.ptr j 0) (i64 i) ∧ h' = h ∧ (cs.take i).all (fun c => small c.2) = true) (fun i r h' hi I => ?_) (fun r h' I => ?_) cs.length 0 _ h (by omega) ⟨rfl, rfl, by simp⟩
 ·obtain ⟨rfl, rfl, I⟩ := I
  obtain ⟨l, l1, l2, rfl⟩ := g i hi
  have sm := mQ (p := p) (h := h') e15 cs[i].2
  cases hs : small cs[i].2 with
  | true =>
   rw [hs] at sm
   refine .inl ⟨T13 (.ptr j 0) (i64 (i + 1 : Nat)), h', .ah (sm.mono fun m gm => ?_), rfl, rfl, by rw [gF hi, I, hs]; rfl⟩
   simp only [Ko, K2, vd, wY]
   (rw [aA, aC (aw c 5 hL), bt hlen, bA, bH, if_pos (by omega), aA, aC (aw c 5 hL), du (ct sl hi), aA, aC (aw l2 1 rfl), aM gm, iQ, br, Bool.not_true, fK, dS hi hn]; try rfl)
  | false =>
   rw [hs] at sm
   refine .inr ⟨_, .inr ⟨rfl, all_false hi hs⟩, .gG (.ah (sm.mono fun m gm => ?_))⟩
   simp only [Ko, K2, vd, wY]
   (rw [aA, aC (aw c 5 hL), bt hlen, bA, bH, if_pos (by omega), aA, aC (aw c 5 hL), du (ct sl hi), aA, aC (aw l2 1 rfl), aM gm, iQ, br, Bool.not_false, gY]; try rfl)
 ·obtain ⟨rfl, rfl, I⟩ := I
  refine ⟨_, .inl ⟨rfl, by simpa using I⟩, .eI (.aR fun c' i' K => ?_)⟩
  simp only [Ko, K2, vd, wY]
  (rw [aA, aC (aw c 5 hL), bt hlen, bA, bH, if_neg (by omega)]; try rfl)
theorem Kp (e15 : aq 15 p.fs = f15) {L : List AV} {cs : List nu} {i : Nat} (c : Cs h j 0 L) (hL : L[6]? = some y) (r : aZ h y cs) (hi : i < cs.length) (hn : cs[i].row.length < 9223372036854775807) :
  ∃ st, ((st = .ex 4 (T14 (.ptr j 0) (i64 i)) h ∧ cs[i].row.all (fun v => small v.kind) = true) ∨ (st = .ret (T11 (.bool false)) h ∧ cs[i].row.all (fun v => small v.kind) = false)) ∧ Rn p (.loop (.ah Gs (.ah Kq .skip))) (T15 (.ptr j 0) (i64 i) i0) h st := by
 obtain ⟨q, o, sl, g⟩ := dt.sl r
 obtain ⟨l, l1, l2, z, rfl, hrow⟩ := g i hi
 obtain ⟨q2, o2, sl2, g2⟩ := dt.sl hrow
 have hlen := dt.len hrow
 generalize hr : cs[i].row = row at *
 refine eT row.length (Inv := fun k r h' => r = T15 (.ptr j 0) (i64 i) (i64 k) ∧ h' = h ∧ (row.take k).all (fun v => small v.kind) = true) (fun k r h' hk I => ?_) (fun r h' I => ?_) row.length 0 _ h (by omega) ⟨rfl, rfl, by simp⟩
 ·obtain ⟨rfl, rfl, I⟩ := I
  obtain ⟨l', m1, m2, rfl⟩ := g2 k hk
  have sm := mQ (p := p) (h := h') e15 row[k].kind
  have t1 : ∀ cc i' (K : A2 → Hp → RS), Gs cc i' K (T15 (.ptr j 0) (i64 i) (i64 k)) h' = K (T15 (.ptr j 0) (i64 i) (i64 k)) h' := fun cc i' K => by
   simp only [Gs, K3, t15_1, t15_4, t15_5]
   (rw [aA, aC (aw c 6 hL), du (ct sl hi), aA, aC (aw l2 1 rfl), bt hlen, bA, bH, if_pos (by omega)]; try rfl)
  cases hs : small row[k].kind with
  | true =>
   rw [hs] at sm
   refine .inl ⟨T15 (.ptr j 0) (i64 i) (i64 (k + 1 : Nat)), h', .ef t1 (.ah (sm.mono fun m gm => ?_)), rfl, rfl, by rw [gF hk, I, hs]; rfl⟩
   simp only [Kq, K3, t15_1, t15_4, t15_5]
   (rw [aA, aC (aw c 6 hL), du (ct sl hi), aA, aC (aw l2 1 rfl), du (ct sl2 hk), aA, Nat.add_zero, aC (cB m2 rfl), aM gm, iQ, br, Bool.not_true, fK, dS hk hn]; try rfl)
  | false =>
   rw [hs] at sm
   refine .inr ⟨_, .inr ⟨rfl, all_false hk hs⟩, .gG (.ef t1 (.ah (sm.mono fun m gm => ?_)))⟩
   simp only [Kq, K3, t15_1, t15_4, t15_5]
   (rw [aA, aC (aw c 6 hL), du (ct sl hi), aA, aC (aw l2 1 rfl), du (ct sl2 hk), aA, Nat.add_zero, aC (cB m2 rfl), aM gm, iQ, br, Bool.not_false, gY]; try rfl)
 ·obtain ⟨rfl, rfl, I⟩ := I
  refine ⟨_, .inl ⟨rfl, by simpa using I⟩, .eI (.aR fun c' i' K => ?_)⟩
  simp only [Gs, K3, t15_1, t15_4, t15_5]
  (rw [aA, aC (aw c 6 hL), du (ct sl hi), aA, aC (aw l2 1 rfl), bt hlen, bA, bH, if_neg (by omega)]; try rfl)
abbrev B5 : AC := .ah Kr (.seq (.block 3 (.ah k5_6 (.block 4 (.loop (.ah Gs (.ah Kq .skip)))))) (.ah k5_9 .skip))
theorem Gt (e15 : aq 15 p.fs = f15) {L : List AV} {cs : List nu} (c : Cs h j 0 L) (hL : L[6]? = some y) (r : aZ h y cs) (hn : cs.length < 9223372036854775807) (hr : ∀ c, c ∈ cs → c.row.length < 9223372036854775807) :
  ∃ st, ((st = .ex 2 T6 h ∧ cs.all wX = true) ∨ (st = .ret (T11 (.bool false)) h ∧ cs.all wX = false)) ∧ Rn p (.loop B5) (T14 (.ptr j 0) i0) h st := by
 obtain ⟨q, o, sl, g⟩ := dt.sl r
 have hlen := dt.len r
 refine eT (body := B5) cs.length (Inv := fun i r h' => r = T14 (.ptr j 0) (i64 i) ∧ h' = h ∧ (cs.take i).all wX = true) (fun i r' h' hi I => ?_) (fun r' h' I => ?_) cs.length 0 _ h (by omega) ⟨rfl, rfl, by simp⟩
 ·obtain ⟨rfl, rfl, I⟩ := I
  have t1 : ∀ cc i' (K : A2 → Hp → RS), Kr cc i' K (T14 (.ptr j 0) (i64 i)) h' = K (T14 (.ptr j 0) (i64 i)) h' := fun cc i' K => by
   simp only [Kr, K2, t14_1, t14_4]
   (rw [aA, aC (aw c 6 hL), bt hlen, bA, bH, if_pos (by omega)]; try rfl)
  have t2 : ∀ cc i' (K : A2 → Hp → RS), k5_6 cc i' K (T14 (.ptr j 0) (i64 i)) h' = K (T15 (.ptr j 0) (i64 i) i0) h' := fun cc i' K => by
   simp only [k5_6, K2, t14_1, t14_4]
  have hc : wX cs[i] = cs[i].row.all fun v => small v.kind := rfl
  obtain ⟨st, hst, k⟩ := Kp (p := p) e15 c hL r hi (hr _ (List.getElem_mem _))
  rcases hst with ⟨rfl, ha⟩ | ⟨rfl, ha⟩
  ·refine .inl ⟨T14 (.ptr j 0) (i64 (i + 1 : Nat)), h', .ef t1 (.seq (.block (.ef t2 (.bN k))) (.aR fun cc i' K => ?_)), rfl, rfl, by rw [gF hi, I, hc, ha]; rfl⟩
   simp only [k5_9, K2, t14_1, t14_4]
   (rw [dS hi hn]; try rfl)
  ·exact .inr ⟨_, .inr ⟨rfl, all_false hi (by rw [hc]; exact ha)⟩, .gG (.ef t1 (.dn (.cV (.ef t2 (.cV k)))))⟩
 ·obtain ⟨rfl, rfl, I⟩ := I
  refine ⟨_, .inl ⟨rfl, by simpa using I⟩, .eI (.aR fun c' i' K => ?_)⟩
  simp only [Kr, K2, t14_1, t14_4]
  (rw [aA, aC (aw c 6 hL), bt hlen, bA, bH, if_neg (by omega)]; try rfl)
theorem wZ (e5 : aq 5 p.fs = f5) (e15 : aq 15 p.fs = f15) (W : Wf h) {l : List AV} {e : jA} {B : Nat} (r : eE h l e) (bd : wO B e) (hB : B < 9223372036854775807) :
  ∃ h', Cv p 5 [.agg l] h (.bool (mP e)) h' ∧ Old h h' ∧ Wf h' := by
 obtain ⟨x, y, rfl, r1, r2⟩ := r
 obtain ⟨_, _, _, _, _, b6, _, b8, b9⟩ := bd
 obtain ⟨j, h1, f1, f2, f3, f4, f5', f6⟩ := oh (el := 25) (l := cZ x y e) W (by simp [cZ])
 have s0 : ∀ cc i' (K : A2 → Hp → RS), k5_0 cc i' K (aY [.agg (cZ x y e)] 0 .nil) h = K (T12 (.ptr j 0)) h1 := fun cc i' K => by
  simp only [k5_0, K1, dE]
  (rw [lJ f1]; try rfl)
 have c := Ob.c0 f3
 have rc := aO.up r1 f4
 have rg := aZ.up r2 f4
 obtain ⟨r3, o1, o2, o3⟩ := CD (p := p) e15 c
 have s1 : ∀ cc i' (K : A2 → Hp → RS), k5_1 cc i' K r3 h1 = Seat.I (.bool (!ot e)) (.ret (T11 (.bool false)) h1) (.nm (T12 (.ptr j 0)) h1) := fun cc i' K => by simp only [k5_1, K2, o2, o3]
 have out : ∀ bb, Rn p (bh x5) (T12 (.ptr j 0)) h1 (.ret (T11 (.bool bb)) h1) → Cv p 5 [.agg (cZ x y e)] h (.bool bb) h1 := fun bb k => .of (r' := T11 (.bool bb)) (h1 := h1) e5 (by simp) (.ef s0 k) rfl
 have hq : mP e = (ot e && e.bP.all (fun c => small c.2) && e.changes.all wX) := rfl
 refine ⟨h1, ?_, f4, f5'⟩
 cases hb : ot e with
 | false =>
  rw [hq, hb]
  exact out _ (.dn (.seq (.ops o1) (.aR fun cc i' K => by rw [s1, hb, Bool.not_false, gY]; rfl)))
 | true =>
  have LN : Rn p (fst (bh x5)) (T12 (.ptr j 0)) h1 (.nm (T12 (.ptr j 0)) h1) := .seq (.ops o1) (.aR fun cc i' K => by rw [s1, hb, Bool.not_true, fK])
  have s2 : ∀ cc i' (K : A2 → Hp → RS), k5_2 cc i' K (T12 (.ptr j 0)) h1 = K (T13 (.ptr j 0) i0) h1 := fun cc i' K => by simp only [k5_2, K1, t12_1]
  obtain ⟨st, hst, k⟩ := Gr (p := p) e15 c rfl rc (by omega)
  rcases hst with ⟨rfl, ha⟩ | ⟨rfl, ha⟩
  ·have s4 : ∀ cc i' (K : A2 → Hp → RS), k5_4 cc i' K (T13 (.ptr j 0) (i64 e.bP.length)) h1 = K (T14 (.ptr j 0) i0) h1 := fun cc i' K => by simp only [k5_4, K1, vd]
   obtain ⟨st, hst, k2⟩ := Gt (p := p) e15 c rfl rg (by omega) (fun c hc => by have := (b9 c hc).2.1; omega)
   rw [hq, hb, ha]
   rcases hst with ⟨rfl, hc⟩ | ⟨rfl, hc⟩
   ·rw [hc]
    exact out _ (.seq LN (.seq (.ef s2 (.bN k)) (.seq (.ef s4 (.bN k2)) (.aR fun cc i' K => rfl))))
   ·rw [hc]
    exact out _ (.seq LN (.seq (.ef s2 (.bN k)) (.dn (.ef s4 (.cV k2)))))
  ·rw [hq, hb, ha]
   exact out _ (.seq LN (.dn (.ef s2 (.cV k))))
end
open Go.Cod
set_option maxRecDepth 20000
noncomputable section
variable {p : Pg} {h hb h0 h' h1 h2 h3 : Hp} {q i j k jd pe po pd : P4} {s t l : Bs} {x y v a b d e f xc xg vx vo vz : AV}
structure xa (p : Pg) : Prop where
 e : Nz p
 c : Cx p
 e3 : aq 3 p.fs = f3
 e4 : aq 4 p.fs = f4
 e5 : aq 5 p.fs = f5
 e6 : ∀ h, Cv p 6 [] h (.bool true) h
 e10 : aq 10 p.fs = f10
 e11 : aq 11 p.fs = f11
 e12 : aq 12 p.fs = f12
 e13 : aq 13 p.fs = f13
 e14 : aq 14 p.fs = f14
 e43 : aq 43 p.fs = f43
theorem fJ {x y : AV} {e : jA} : (cZ x y e).length = 7 := rfl
theorem xb {x y : AV} {e : jA} (r1 : aO h x e.bP) (r2 : aZ h y e.changes) : same (.agg (cZ x y e)) (.agg (cZ x y e)) = true := Ks fun v hv => by
 obtain ⟨q1, o1, s1, _⟩ := dt.sl r1
 obtain ⟨q2, o2, s2, _⟩ := dt.sl r2
 simp only [cZ, List.mem_cons, List.not_mem_nil, or_false] at hv
 rcases hv with rfl | rfl | rfl | rfl | rfl | rfl | rfl
 ·exact rE _ _
 ·exact rE _ _
 ·exact rE _ _
 ·exact rF _
 ·exact rF _
 ·exact mL s1
 ·exact mL s2
theorem RB {le lo : List AV} {be bo : Bool} (oe : Ob h pe 25 true .plain le) (le7 : le.length = 7) (oo : Ob h po 25 true .plain lo) (lo7 : lo.length = 7) (c1 : Cv p 5 [.agg le] h (.bool be) h1) (O1 : Old h h1) (c2 : Cv p 5 [.agg lo] h1 (.bool bo) h2) :
  ∃ h' r', ((be = true ∧ h' = h2) ∨ (be = false ∧ h' = h1)) ∧ Os p (opsL (fst (fst (bh x3)))) (T0 a b d (.ptr pe 0) (.ptr po 0)) h (.nm r' h') ∧ y2 r' = a ∧ y3 r' = b ∧ y4 r' = d ∧ y5 r' = .ptr pe 0 ∧ y6 r' = .ptr po 0 ∧ y31 r' = .bool (!(be && bo)) := by
 have Le := bJ (m := 7) (Ob.c0 oe) le7
 have Lo := bJ (m := 7) (Ob.c0 (oo.old O1)) lo7
 cases be with
 | false =>
  exact ⟨h1, _, .inr ⟨rfl, rfl⟩, .step (v := .agg le) (h' := h) Le <| .call (v := .bool false) (h' := h1) c1 <| .step (v := .bool true) (h' := h1) rfl <| .step (v := .bool true) (h' := h1) rfl <| .off rfl <| .off rfl <| .off rfl <| .step (v := .bool true) (h' := h1) rfl <| .nil, rfl, rfl, rfl, rfl, rfl, rfl⟩
 | true =>
  cases bo with
  | false =>
   exact ⟨h2, _, .inl ⟨rfl, rfl⟩, .step (v := .agg le) (h' := h) Le <| .call (v := .bool true) (h' := h1) c1 <| .step (v := .bool false) (h' := h1) rfl <| .step (v := .bool false) (h' := h1) rfl <| .on rfl <| .step (v := .agg lo) (h' := h1) Lo <| .on rfl <| .call (v := .bool false) (h' := h2) c2 <| .on rfl <| .step (v := .bool true) (h' := h2) rfl <| .step (v := .bool true) (h' := h2) rfl <| .nil, rfl, rfl, rfl, rfl, rfl, rfl⟩
  | true =>
   exact ⟨h2, _, .inl ⟨rfl, rfl⟩, .step (v := .agg le) (h' := h) Le <| .call (v := .bool true) (h' := h1) c1 <| .step (v := .bool false) (h' := h1) rfl <| .step (v := .bool false) (h' := h1) rfl <| .on rfl <| .step (v := .agg lo) (h' := h1) Lo <| .on rfl <| .call (v := .bool true) (h' := h2) c2 <| .on rfl <| .step (v := .bool false) (h' := h2) rfl <| .step (v := .bool false) (h' := h2) rfl <| .nil, rfl, rfl, rfl, rfl, rfl, rfl⟩
theorem UN {le lo ld : List AV} {so sx : Bs} {bb : Bool} (oe : Ob h pe 25 true .plain le) (oo : Ob h po 25 true .plain lo) (od : Ob h pd 25 true .plain ld) (le7 : le.length = 7) (lo7 : lo.length = 7) (ld7 : ld.length = 7)
  (se : same (.agg le) (.agg le) = true) (sO : same (.agg lo) (.agg lo) = true) (c1 : Cv p 9 [.agg ld, .agg le] h (.bool true) h1) (O1 : Old h h1) (c2 : Cv p 7 [.agg lo] h1 vo h2) (O2 : Old h1 h2) (ro : fm h2 vo so)
  (c3 : Cv p 9 [.agg le, .agg lo] h2 (.bool bb) h3) (O3 : Old h2 h3) (rx : fm h vx sx) (hbb : decide (sx = so) = bb) (hne : sx ≠ []) :
  Rn p (fst (bh (bh (bh x3)))) (T2 a b d (.ptr pe 0) (.ptr po 0) vx (.ptr pd 0) (i64 0)) h (.nm (T3 a b d vx) h3) := by
 have Ld := bJ (m := 7) (Ob.c0 od) ld7
 have Le := bJ (m := 7) (Ob.c0 oe) le7
 have Le1 := bJ (m := 7) (Ob.c0 (oe.old O1)) le7
 have Le2 := bJ (m := 7) (Ob.c0 ((oe.old O1).old O2)) le7
 have Lo1 := bJ (m := 7) (Ob.c0 (oo.old O1)) lo7
 have Lo2 := bJ (m := 7) (Ob.c0 ((oo.old O1).old O2)) lo7
 have rx1 := rx.up O1
 have rx2 := rx1.up O2
 have rx3 := rx2.up O3
 have ro3 := ro.up O3
 have ne0 : bK .ne (i64 0) i0 h = .ok (.bool false) h := xd rfl
 have sq : ∀ h, bK .seq (bB sx) (bB so) h = .ok (.bool bb) h := fun h => by rw [eqs, hbb]
 have sb : same (.bool bb) (.bool bb) = true := by cases bb <;> rfl
 have bn : bK .bne (.bool bb) (.bool bb) h3 = .ok (.bool false) h3 := by cases bb <;> rfl
 have len : bK .eq (i64 sx.length) i0 h3 = .ok (.bool false) h3 := by
  show uC (.int .i64 sx.length) (.int .i64 0) h3 = _
  have : sx.length ≠ 0 := fun e => hne (List.length_eq_zero_iff.1 e)
  rw [En, decide_eq_false (by omega)]
 obtain ⟨_, _, _, sl, _⟩ := id rx
 obtain ⟨r', rn, e2, e3, e4, e11, e64⟩ : ∃ r', Rn p (fst (fst (bh (bh (bh x3))))) (T2 a b d (.ptr pe 0) (.ptr po 0) vx (.ptr pd 0) (i64 0)) h (.nm r' h3) ∧ y2 r' = a ∧ y3 r' = b ∧ y4 r' = d ∧ y11 r' = vx ∧ y64 r' = .bool false :=
  ⟨_, .qv (.bV (v := i64 0) (g' := h) rfl <| .bV (v := .bool false) (g' := h) ne0 <| .bV (v := .bool false) (g' := h) rfl <|
   .on rfl <| .bV (v := .agg ld) (g' := h) Ld <| .on rfl <| .bV (v := .agg le) (g' := h) Le <| .on rfl <| .call (v := .bool true) (h' := h1) c1 <| .on rfl <| .bV (v := .bool false) (g' := h1) rfl <|
   .bV (v := .bool false) (g' := h1) rfl <| .bV (v := .bool false) (g' := h1) rfl <|
   .on rfl <| .bV (v := .agg lo) (g' := h1) Lo1 <| .on rfl <| .call (v := vo) (h' := h2) c2 <|
   .on rfl <| .Sq (v := .agg le) (g' := h2) (h1' := h1) Le2 Le1 se <| .on rfl <| .Sq (v := .agg lo) (g' := h2) (h1' := h1) Lo2 Lo1 sO <| .on rfl <| .call (v := .bool bb) (h' := h3) c3 <|
   .on rfl <| .Ug (v := vx) (g' := h3) (h1' := h2) (h2' := h1) rfl rfl rfl (Eu sl) <| .on rfl <| .Ug (v := bB sx) (g' := h3) (h1' := h2) (h2' := h1) (iR rx3) (iR rx2) (iR rx1) (vf _) <|
   .on rfl <| .Sq (v := bB so) (g' := h3) (h1' := h2) (iR ro3) (iR ro) (vf _) <| .on rfl <| .Sq (v := .bool bb) (g' := h3) (h1' := h2) (sq h3) (sq h2) sb <|
   .on rfl <| .bV (v := .bool false) (g' := h3) bn <| .bV (v := .bool false) (g' := h3) rfl <| .bV (v := .bool false) (g' := h3) rfl <|
   .on rfl <| .bV (v := vx) (g' := h3) rfl <| .on rfl <| .bV (v := i64 sx.length) (g' := h3) (fm.len rx3) <| .on rfl <| .bV (v := .bool false) (g' := h3) len <| .bV (v := .bool false) (g' := h3) rfl <| .nil), rfl, rfl, rfl, rfl, rfl⟩
 exact .seq rn (.aR fun c i K => by
  simp only [k3_3, K5, e2, e3, e4, e11, e64]
  rw [fK])
abbrev L3 : AC := fst (bh (fst (bh (bh (bh (bh (bh x3)))))))
abbrev B3 : AC := fst L3
abbrev C3 : AC := bh (fst (fst (bh B3)))
theorem TC (T : xa p) (rf : Ob h i 5 true .plain (bc (s ++ List.replicate 80 165))) (rx : fm h x s) (hl : s.length + 80 ≤ 16777216) :
  Rn p C3 (T7 x (.slice i 0 (s.length + 80) (s.length + 80)) v (i64 12) a b d) h (.nm (T5 a b d) h) := by
 have c12 := wW (p := p) T.e12 T.e43 rf rx hl
 have ne0 : bK .ne (i64 12) i0 h = .ok (.bool true) h := ED (by decide)
 have ne12 : bK .ne (i64 12) (pi 12) h = .ok (.bool false) h := rfl
 have eq0 : bK .eq (i64 12) i0 h = .ok (.bool false) h := rfl
 obtain ⟨r', rn, e81, e82, e83, e120⟩ : ∃ r', Rn p (fst C3) (T7 x (.slice i 0 (s.length + 80) (s.length + 80)) v (i64 12) a b d) h (.nm r' h) ∧ y81 r' = a ∧ y82 r' = b ∧ y83 r' = d ∧ y120 r' = .bool false :=
  ⟨_, .qv (.bV (v := i64 12) (g' := h) rfl <| .bV (v := .bool true) (g' := h) ne0 <| .bV (v := .bool true) (g' := h) rfl <|
   .on rfl <| .bV (v := i64 12) (g' := h) rfl <| .on rfl <| .bV (v := .bool false) (g' := h) ne12 <| .bV (v := .bool false) (g' := h) rfl <| .bV (v := .bool false) (g' := h) rfl <|
   .on rfl <| .bV (v := i64 12) (g' := h) rfl <| .on rfl <| .bV (v := .bool false) (g' := h) eq0 <| .on rfl <| .bV (v := .bool false) (g' := h) rfl <|
   .dy rfl <| .RC rfl <| .dy rfl <| .dy rfl <| .dy rfl <| .dy rfl <|
   .on rfl <| .bV (v := .bool false) (g' := h) rfl <| .bV (v := .bool false) (g' := h) rfl <| .bV (v := .bool false) (g' := h) rfl <|
   .on rfl <| .bV (v := .slice i 0 (s.length + 80) (s.length + 80)) (g' := h) rfl <| .on rfl <| .bV (v := x) (g' := h) rfl <| .on rfl <| .call (v := .bool true) (h' := h) c12 <| .on rfl <| .bV (v := .bool false) (g' := h) rfl <| .bV (v := .bool false) (g' := h) rfl <| .nil), rfl, rfl, rfl, rfl⟩
 exact .seq rn (.aR fun c i K => by
  simp only [k3_8, K4, e81, e82, e83, e120]
  rw [fK])
theorem TD (T : xa p) {lz : List AV} (rf : Ob h i 5 true .plain (bc (s ++ List.replicate 80 165))) (rx : fm h x s) (hl : s.length + 80 ≤ 16777216) (oz : Ob h pd 25 true .plain lz) (lz7 : lz.length = 7) (c7 : Cv p 7 [.agg lz] h vz h1) (O1 : Old h h1) (rz : fm h1 vz s) :
  Rn p C3 (T7 x (.slice i 0 (s.length + 80) (s.length + 80)) (.ptr pd 0) (i64 0) a b d) h (.nm (T5 a b d) h1) := by
 have rx1 := rx.up O1
 have c12 := wW (p := p) T.e12 T.e43 (rf.old O1) rx1 hl
 have Lz := bJ (m := 7) (Ob.c0 oz) lz7
 have ne0 : bK .ne (i64 0) i0 h = .ok (.bool false) h := xd rfl
 have eq0 : bK .eq (i64 0) i0 h = .ok (.bool true) h := rfl
 have sn : bK .Si (bB s) (bB s) h1 = .ok (.bool false) h1 := by
  show Ak (.str _) (.str _) h1 = _
  rw [Ku, decide_eq_true rfl]; rfl
 obtain ⟨_, _, _, sl, _⟩ := id rx
 obtain ⟨r', rn, e81, e82, e83, e120⟩ : ∃ r', Rn p (fst C3) (T7 x (.slice i 0 (s.length + 80) (s.length + 80)) (.ptr pd 0) (i64 0) a b d) h (.nm r' h1) ∧ y81 r' = a ∧ y82 r' = b ∧ y83 r' = d ∧ y120 r' = .bool false :=
  ⟨_, .qv (.bV (v := i64 0) (g' := h) rfl <| .bV (v := .bool false) (g' := h) ne0 <| .bV (v := .bool false) (g' := h) rfl <|
   .dy rfl <| .dy rfl <| .bV (v := .bool false) (g' := h) rfl <| .bV (v := .bool false) (g' := h) rfl <|
   .on rfl <| .bV (v := i64 0) (g' := h) rfl <| .on rfl <| .bV (v := .bool true) (g' := h) eq0 <| .on rfl <| .bV (v := .bool true) (g' := h) rfl <|
   .on rfl <| .bV (v := .agg lz) (g' := h) Lz <| .on rfl <| .call (v := vz) (h' := h1) c7 <| .on rfl <| .bV (v := bB s) (g' := h1) (iR rz) <|
   .on rfl <| .Sq (v := x) (g' := h1) (h1' := h) rfl rfl (Eu sl) <| .on rfl <| .Sq (v := bB s) (g' := h1) (h1' := h) (iR rx1) (iR rx) (vf _) <| .on rfl <| .bV (v := .bool false) (g' := h1) sn <|
   .on rfl <| .bV (v := .bool false) (g' := h1) rfl <| .bV (v := .bool false) (g' := h1) rfl <| .bV (v := .bool false) (g' := h1) rfl <|
   .on rfl <| .bV (v := .slice i 0 (s.length + 80) (s.length + 80)) (g' := h1) rfl <| .on rfl <| .bV (v := x) (g' := h1) rfl <| .on rfl <| .call (v := .bool true) (h' := h1) c12 <| .on rfl <| .bV (v := .bool false) (g' := h1) rfl <| .bV (v := .bool false) (g' := h1) rfl <| .nil), rfl, rfl, rfl, rfl⟩
 exact .seq rn (.aR fun c i K => by
  simp only [k3_8, K4, e81, e82, e83, e120]
  rw [fK])
theorem EE (W : Wf h) {l : List AV} (hl : l.length = 7) : ∃ q h1 h2, Seat.Sn 25 7 (.k1 (Y7 i0 i0 i0 iS iS .ar .ar)) h = .ok (.ptr q 0) h1 ∧ Seat.EW 7 (.ptr q 0) (.agg l) h1 = .ok .undef h2 ∧ Ob h2 q 25 true .plain l ∧ Old h h2 ∧ Wf h2 := by
 obtain ⟨q, h1, g1, g2, g3, g4, g5, g6⟩ := lx (el := 25) (n := 7) W (c := .k1 (Y7 i0 i0 i0 iS iS .ar .ar)) trivial (by decide)
 obtain ⟨h2, d1, d2, d3, d4⟩ := gO (k := 0) (m := 7) (l' := l) g3 hl (by rw [cD]; omega)
 refine ⟨q, h1, h2, g1, d1, ?_, fun k hk => ?_, g5.of d4 fun k hk => by rw [d3 k (fun e => by rw [e] at hk; exact g3.ne hk)]; exact hk⟩
 ·have : (bI 7 (.k1 (Y7 i0 i0 i0 iS iS .ar .ar)) 0).take 0 ++ (l ++ (bI 7 (.k1 (Y7 i0 i0 i0 iS iS .ar .ar)) 0).drop (0 + 7)) = l := by
   rw [List.drop_of_length_le (by rw [cD]; omega)]; simp
  rw [← this]; exact d2
 ·rw [d3 k (fun e => by rw [e] at hk; exact hk g2), g4 k hk]
theorem RD (T : xa p) (W : Wf h) {L : List AV} {n : Nat} (hn : n < 2) (cd : Cs h jd 0 L) (hL : L[n]? = some x) (r : fm h x s) (hl : s.length + 80 ≤ 16777216) :
  ∃ h', Old h h' ∧ Wf h' ∧ Rn p (bh B3) (T5 (.slice jd 0 2 2) (i64 2) (i64 n)) h (.nm (T5 (.slice jd 0 2 2) (i64 2) (i64 (n + 1 : Nat))) h') := by
 have sl : vO (.slice jd 0 2 2) 1 2 jd 0 := .inl ⟨_, rfl⟩
 have X : iX 1 (.slice jd 0 2 2) (i64 n) h = .ok (.ptr jd (0 + n)) h := by
  rw [ct sl hn, Nat.mul_one]
 obtain ⟨i, h1, c11, rf, O1, W1⟩ := Kn (p := p) T.e11 W r hl
 have cut : fN 1 (.c (.slice i 0 (s.length + 80) (s.length + 80))) .none (.some (.c (i64 s.length))) .none .nil h1 = .ok (.slice i 0 s.length (s.length + 80)) h1 := by
  show (@Bool.rec (fun _ => RV) (.err 42) (@Bool.rec (fun _ => RV) (.err 42) (@Bool.rec (fun _ => RV) (.err 42) (.ok (.slice i (@Bool.rec (fun _ => Nat) (Nat.add 0 (Nat.mul 0 1)) 0 (Nat.beq (s.length + 80) 0)) (Nat.sub s.length 0) (Nat.sub (s.length + 80) 0)) h1) (Nat.ble (s.length + 80) (s.length + 80))) (Nat.ble s.length (s.length + 80))) (Nat.ble 0 s.length)) = _
  rw [Nat.ble_eq_true_of_le (Nat.zero_le _), Nat.ble_eq_true_of_le (Nat.le_refl _), Nat.ble_eq_true_of_le (Nat.le_add_right _ _)]
  rfl
 have rb : fm h1 (.slice i 0 s.length (s.length + 80)) s := AU rf
 obtain ⟨l, h2, m, c8, O2, W2, hd⟩ := xf T.e W1 rb (by omega)
 have hl7 : l.length = 7 := by
  rcases hd with ⟨e, xc, xg, _, _, rfl, _⟩ | ⟨_, _, rfl⟩ <;> rfl
 obtain ⟨pz, h3, h4, g1, g2, oz, O4, W4⟩ := EE W2 hl7
 have O14 : Old h1 h4 := O2.trans O4
 have k7 : Ev fun m' => ∀ K : A2 → Hp → RS, k3_7 (au p (exec p m')) (aB p (exec p m')) K (T5 (.slice jd 0 2 2) (i64 2) (i64 n)) h = K (T7 x (.slice i 0 (s.length + 80) (s.length + 80)) (.ptr pz 0) (i64 m) (.slice jd 0 2 2) (i64 2) (i64 n)) h4 := (c11.and c8).mono fun m' g K => by
  obtain ⟨u1, u2⟩ := g
  simp only [k3_7, K3, t5_81, t5_82, t5_83]
  (rw [du X, aC (aw cd n hL), aM u1, bt (fm.len (r.up O1)), aH cut, aM u2, xh (show Seat.ext 0 (.jj [.agg l, i64 m]) h2 = .ok (.agg l) h2 from rfl), xh (show Seat.ext 1 (.jj [.agg l, i64 m]) h2 = .ok (i64 m) h2 from rfl), mK g1, ky g2]; try rfl)
 have k9 : ∀ h' c i' (K : A2 → Hp → RS), k3_9 c i' K (T5 (.slice jd 0 2 2) (i64 2) (i64 n)) h' = .nm (T5 (.slice jd 0 2 2) (i64 2) (i64 (n + 1 : Nat))) h' := fun h' c i' K => by
  simp only [k3_9, K3, t5_81, t5_82, t5_83]
  (rw [dS hn (by omega)]; try rfl)
 rcases hd with ⟨e, xc, xg, e1, rfl, rfl, own1, own2, bd⟩ | ⟨e1, rfl, rfl⟩
 ·obtain ⟨en, tk⟩ := CE e1
  obtain ⟨vz, h5, c7, own, O5, W5⟩ := nz (p := p) T.e.w T.e.t T.e.e30 T.e.d.e58 W4 (l := cZ xc xg e) (e := e) ⟨xc, xg, rfl, aO.up (pX own1) O4, aZ.up (pY own2) O4⟩ bd (by omega) (by rw [en]; omega)
  rw [if_pos tk, en] at own
  exact ⟨h5, (O1.trans O14).trans O5, W5, .seq (.block (.to k7 (TD T (rf.old O14) ((r.up O1).up O14) hl oz hl7 c7 O5 (dX.GH own)))) (.aR (k9 h5))⟩
 ·exact ⟨h4, O1.trans O14, W4, .seq (.block (.to k7 (TC T (rf.old O14) ((r.up O1).up O14) hl))) (.aR (k9 h4))⟩
end
open Go.Cod
set_option maxRecDepth 20000
noncomputable section
variable {p : Pg} {h hb h0 h' h1 h2 h3 : Hp} {q i j k jd pe po pd : P4} {s t l : Bs} {x y v a b d e f g xc xg vx vo vz xe ye xo yo : AV}
theorem rp5_0 : y0 (aY [a, b, d, e, f] 0 .nil) = a := rfl
theorem rp5_1 : y1 (aY [a, b, d, e, f] 0 .nil) = b := rfl
theorem rp5_2 : y2 (aY [a, b, d, e, f] 0 .nil) = d := rfl
theorem rp5_3 : y3 (aY [a, b, d, e, f] 0 .nil) = e := rfl
theorem rp5_4 : y4 (aY [a, b, d, e, f] 0 .nil) = f := rfl
theorem RF (W : Wf h) {el es es' n n' : Nat} {q q' : P4} {o o' : Nat} (su : vO x es n q o) (sv : vO y es' n' q' o') : ∃ j h', Seat.bs el 1 2 [.ar, .ar] [.mk 0 1 (.c x), .mk 1 1 (.c y)] h = .ok (.slice j 0 2 2) h' ∧ Ob h' j el true .plain [x, y] ∧ Old h h' ∧ Wf h' := by
 have key : ∀ (hf : fits [.mk 0 1 (.c x), .mk 1 1 (.c y)] .nil = true) (hl : fill [.mk 0 1 (.c x), .mk 1 1 (.c y)] .nil [.ar, .ar] = [x, y]), ∃ j h', Seat.bs el 1 2 [.ar, .ar] [.mk 0 1 (.c x), .mk 1 1 (.c y)] h = .ok (.slice j 0 2 2) h' ∧ Ob h' j el true .plain [x, y] ∧ Old h h' ∧ Wf h' := fun hf hl => by
  obtain ⟨j, h1, f1, f2, f3, f4, f5, f6⟩ := iL (el := el) (es := 1) (n := 2) W hf hl (by simp)
  exact ⟨j, h1, f1, f3, f4, f5⟩
 rcases su with ⟨cap, rfl⟩ | rfl | ⟨rfl, _⟩ <;> rcases sv with ⟨cap', rfl⟩ | rfl | ⟨rfl, _⟩ <;> exact key rfl rfl
theorem Kv (T : xa p) (W : Wf h) {e o : jA} {B : Nat} (re1 : aO h xe e.bP) (re2 : aZ h ye e.changes) (ro1 : aO h xo o.bP) (ro2 : aZ h yo o.changes) (bde : wO B e) (bdo : wO B o) (hB : B ≤ 1048576) :
  ∃ pe po xe' ye' xo' yo' h6, (Ev fun m => ∀ K : A2 → Hp → RS, k3_0 (au p (exec p m)) (aB p (exec p m)) K (aY [.agg (cZ xe ye e), .agg (cZ xo yo o), a, b, d] 0 .nil) h = K (T0 a b d (.ptr pe 0) (.ptr po 0)) h6) ∧ Old h h6 ∧ Wf h6 ∧
   Ob h6 pe 25 true .plain (cZ xe' ye' (aL e)) ∧ Ob h6 po 25 true .plain (cZ xo' yo' (aL o)) ∧ aO h6 xe' (aL e).bP ∧ aZ h6 ye' (aL e).changes ∧ aO h6 xo' (aL o).bP ∧ aZ h6 yo' (aL o).changes := by
 have rows : ∀ {u : jA}, wO B u → ∀ c, c ∈ u.changes → c.row.length ≤ 1048576 := fun bd c hc => by
  obtain ⟨_, _, _, _, _, _, _, _, b9⟩ := bd
  have := (b9 c hc).2.1
  omega
 obtain ⟨pe, h1, a1, a2, a3, a4, a5, _⟩ := oh (el := 25) (l := cZ xe ye e) W (by simp [cZ])
 obtain ⟨po, h2, b1, b2, b3, b4, b5, _⟩ := oh (el := 25) (l := cZ xo yo o) a5 (by simp [cZ])
 have O2 : Old h h2 := a4.trans b4
 have pe2 := a3.old b4
 have npo : ag po h = .none := a4.none b2
 obtain ⟨xe', ye', h3, hr3, c1, c2, c3, c4, c5, c6, c7, c8⟩ := wV (p := p) T.e4 T.e13 T.e14 b5 O2 re1 re2 (rows bde)
 have pe3 := pe2.old c2
 have po3 := b3.old c2
 have hne : pe ≠ po := fun e => a3.ne (by rw [e]; exact b2)
 have M1 := bJ (m := 7) (Ob.c0 pe2) fJ
 obtain ⟨h4, d1, d2, d3, d4⟩ := gO (k := 0) (m := 7) (l' := cZ xe' ye' (aL e)) pe3 fJ (by simp [cZ])
 have d2 : Ob h4 pe 25 true .plain (cZ xe' ye' (aL e)) := by simpa [cZ] using d2
 have W4 : Wf h4 := c3.of d4 fun k hk => by rw [d3 k (fun e => by rw [e] at hk; exact pe3.ne hk)]; exact hk
 have O4 : Old h h4 := fun k hk => by rw [d3 k (fun e => by rw [e] at hk; exact hk a2), (O2.trans c2) k hk]
 have po4 := po3.eq (d3 po hne.symm)
 obtain ⟨xo', yo', h5, hr5, f1, f2, f3, f4, f5, f6, f7, f8⟩ := wV (p := p) T.e4 T.e13 T.e14 W4 O4 ro1 ro2 (rows bdo)
 have po5 := po4.old f2
 have M2 := bJ (m := 7) (Ob.c0 po4) fJ
 obtain ⟨h6, g1, g2, g3, g4⟩ := gO (k := 0) (m := 7) (l' := cZ xo' yo' (aL o)) po5 fJ (by simp [cZ])
 have g2 : Ob h6 po 25 true .plain (cZ xo' yo' (aL o)) := by simpa [cZ] using g2
 have W6 : Wf h6 := f3.of g4 fun k hk => by rw [g3 k (fun e => by rw [e] at hk; exact po5.ne hk)]; exact hk
 have O6 : Old h h6 := fun k hk => by rw [g3 k (fun e => by rw [e] at hk; exact hk npo), (O4.trans f2) k hk]
 have Or3 : Old hr3 h6 := fun k hk => by
  have k1 : k ≠ pe := fun e => by
   rw [e] at hk
   rcases c6 pe hk with g | g
   ·exact g a2
   ·exact pe2.ne g
  have k2 : k ≠ po := fun e => by
   rw [e] at hk
   rcases c6 po hk with g | g
   ·exact g npo
   ·exact b3.ne g
  have e4 : ag k h4 = ag k hr3 := by rw [d3 k k1, c5 k hk]
  rw [g3 k k2, f2 k (by rw [e4]; exact hk), e4]
 have Or5 : Old hr5 h6 := fun k hk => by
  have k2 : k ≠ po := fun e => by
   rw [e] at hk
   rcases f6 po hk with g | g
   ·exact g npo
   ·exact po4.ne g
  rw [g3 k k2, f5 k hk]
 refine ⟨pe, po, xe', ye', xo', yo', h6, (c1.and f1).mono fun m u K => ?_, O6, W6, (d2.old f2).eq (g3 pe hne), g2, aO.up c7 Or3, aZ.up c8 Or3, aO.up f7 Or5, aZ.up f8 Or5⟩
 obtain ⟨u1, u2⟩ := u
 simp only [k3_0, K5, rp5_0, rp5_1, rp5_2, rp5_3, rp5_4]
 (rw [lJ a1, lJ b1, kx M1, aM u1, ky d1, kx M2, aM u2, ky g1]; try rfl)
theorem NA (T : xa p) (W : Wf h) {le lo : List AV} {e o : jA} {B : Nat} {u : Bs} (re : eE h le e) (ro : eE h lo o) (bde : wO B e) (bdo : wO B o) (hB : B ≤ 1048576) (ru : fm h y u) (hu : u.length ≤ B) (at' : Int) (ha : dL at') (z : UInt8) :
  ∃ h', Cv p 3 [.agg le, .agg lo, y, i64 at', .int .u8 (z.toNat : Int)] h (.bool true) h' := by
 obtain ⟨xe, ye, rfl, re1, re2⟩ := re
 obtain ⟨xo, yo, rfl, ro1, ro2⟩ := ro
 obtain ⟨pe, po, xe', ye', xo', yo', h6, s0, O6, W6, oe, oo, q1, q2, q3, q4⟩ := Kv (p := p) (a := y) (b := i64 at') (d := .int .u8 (z.toNat : Int)) T W re1 re2 ro1 ro2 bde bdo hB
 have bdE := AR bde
 have bdO := AR bdo
 have lenE := vb e
 have lenO := vb o
 have tkE := sj (e := e)
 have tkO := sj (e := o)
 generalize aL e = E at *
 generalize aL o = O at *
 have RE : eE h6 (cZ xe' ye' E) E := ⟨xe', ye', rfl, q1, q2⟩
 have RO : eE h6 (cZ xo' yo' O) O := ⟨xo', yo', rfl, q3, q4⟩
 obtain ⟨h7, r1, r2, r3⟩ := wZ (p := p) T.e5 T.e.t.e10 W6 RE bdE (by omega)
 obtain ⟨h8, t1, t2, t3⟩ := wZ (p := p) T.e5 T.e.t.e10 r3 (eE.up RO r2) bdO (by omega)
 obtain ⟨hx, r', hxx, o1, o2, o3, o4, o5, o6, o7⟩ := RB (p := p) (a := y) (b := i64 at') (d := .int .u8 (z.toNat : Int)) oe fJ oo fJ r1 r2 t1
 have s1 : ∀ c i' (K : A2 → Hp → RS), k3_1 c i' K r' hx = Seat.I (.bool (!(mP E && mP O))) (Seat.C c 6 [] hx fun j h => .ret (T1 j) h) (.nm (T0 y (i64 at') (.int .u8 (z.toNat : Int)) (.ptr pe 0) (.ptr po 0)) hx) := fun c i' K => by
  simp only [k3_1, K6, o2, o3, o4, o5, o6, o7]
 cases hR : (mP E && mP O) with
 | false =>
  rw [hR] at s1
  exact ⟨hx, .of (r' := T1 (.bool true)) (h1 := hx) T.e3 (by simp) (.to s0 (.dn (.seq (.ops o1) (.ah ((T.e6 hx).mono fun m g => by rw [s1, Bool.not_false, gY, aM g]))))) rfl⟩
 | true =>
  rw [hR] at s1
  rw [Bool.and_eq_true] at hR
  obtain ⟨hE, hO⟩ := hR
  have tE := tkE hE
  have tO := tkO hO
  have hx8 : hx = h8 := by
   rcases hxx with ⟨_, g⟩ | ⟨g, _⟩
   ·exact g
   ·rw [hE] at g; cases g
  subst hx8
  have O68 := r2.trans t2
  have fE : Cod.fits E := Ey bdE
  have fO : Cod.fits O := Ey bdO
  have oe8 := oe.old O68
  have oo8 := oo.old O68
  have RE8 := eE.up RE O68
  have RO8 := eE.up RO O68
  -- the bytes, and the entry of them
  obtain ⟨vx, h9, m1, m2, m3, m4⟩ := nz (p := p) T.e.w T.e.t T.e.e30 T.e.d.e58 t3 RE8 bdE (by omega) (by omega)
  rw [if_pos tE] at m2
  obtain ⟨l, h10, n, n1, n2, n3, n4⟩ := xf T.e m4 (dX.GH m2) (by omega)
  rw [yM tE fE] at n4
  obtain ⟨xc, xg, rfl, rfl, own1, own2⟩ : ∃ xc xg, l = cZ xc xg E ∧ n = 0 ∧ aO h10 xc E.bP ∧ aZ h10 xg E.changes := by
   rcases n4 with ⟨e', xc, xg, e1, e2, e3, e4, e5, _⟩ | ⟨e1, _⟩
   ·cases e1
    exact ⟨xc, xg, e3, e2, pX e4, pY e5⟩
   ·cases e1
  obtain ⟨pd, h11, h12, g1, g2, od, O12, W12⟩ := EE n3 (l := cZ xc xg E) fJ
  have M8 := bJ (m := 7) (Ob.c0 oe8) fJ
  have s2 : Ev fun m => ∀ K : A2 → Hp → RS, k3_2 (au p (exec p m)) (aB p (exec p m)) K (T0 y (i64 at') (.int .u8 (z.toNat : Int)) (.ptr pe 0) (.ptr po 0)) hx = K (T2 y (i64 at') (.int .u8 (z.toNat : Int)) (.ptr pe 0) (.ptr po 0) vx (.ptr pd 0) (i64 0)) h12 := (m1.and n1).mono fun m u K => by
   obtain ⟨u1, u2⟩ := u
   simp only [k3_2, K5, t0_2, t0_3, t0_4, t0_5, t0_6]
   (rw [kx M8, aM u1, aM u2, xh (show Seat.ext 0 (.jj [.agg (cZ xc xg E), i64 0]) h10 = .ok (.agg (cZ xc xg E)) h10 from rfl), xh (show Seat.ext 1 (.jj [.agg (cZ xc xg E), i64 0]) h10 = .ok (i64 0) h10 from rfl), mK g1, ky g2]; try rfl)
  -- the first region
  have O812 : Old hx h12 := (m3.trans n2).trans O12
  have RE12 := eE.up RE8 O812
  have RO12 := eE.up RO8 O812
  obtain ⟨h13, c1, O13, W13⟩ := Eo (p := p) T.c W12 (l1 := cZ xc xg E) (e1 := E) ⟨xc, xg, rfl, aO.up own1 O12, aZ.up own2 O12⟩ RE12 bdE (by omega)
  rw [decide_eq_true rfl] at c1
  obtain ⟨vo, h14, c2, own, O14, W14⟩ := nz (p := p) T.e.w T.e.t T.e.e30 T.e.d.e58 W13 (eE.up RO12 O13) bdO (by omega) (by omega)
  rw [if_pos tO] at own
  have O1214 := O13.trans O14
  obtain ⟨h15, c3, O15, W15⟩ := Eo (p := p) T.c W14 (eE.up RE12 O1214) (eE.up RO12 O1214) bdE (by omega)
  have rx12 : fm h12 vx (enc E) := (dX.GH m2).up (n2.trans O12)
  have hbb : decide (enc E = enc O) = decide (E = O) := by rw [decide_eq_decide]; exact NC tE fE tO fO
  have sE : same (.agg (cZ xe' ye' E)) (.agg (cZ xe' ye' E)) = true := xb q1 q2
  have sO : same (.agg (cZ xo' yo' O)) (.agg (cZ xo' yo' O)) = true := xb q3 q4
  have rA := UN (p := p) (a := y) (b := i64 at') (d := .int .u8 (z.toNat : Int)) (oe8.old O812) (oo8.old O812) od fJ fJ fJ sE sO c1 O13 c2 O14 (dX.GH own) c3 O15 rx12 hbb Kw
  -- a byte is turned
  have O815 : Old hx h15 := O812.trans (O1214.trans O15)
  have hpos : 0 < (enc E).length := List.length_pos_iff.2 Kw
  have w15 : Bb hx h15 vx (enc E) := ⟨O815, W15, m2.old fun j _ hj => ((n2.trans O12).trans (O1214.trans O15)) j hj⟩
  obtain ⟨m, hm, c10⟩ := Gm (p := p) (h := h15) T.e10 at' ha ((enc E).length - 1) (by omega)
  obtain ⟨aa, uu, h16, v1, v2, v3, v4, s', v5, v6⟩ := Ny w15 (m := m) (by omega) z
  have s4 : Ev fun n => ∀ K : A2 → Hp → RS, k3_4 (au p (exec p n)) (aB p (exec p n)) K (T3 y (i64 at') (.int .u8 (z.toNat : Int)) vx) h15 = K (T4 y vx) h16 := c10.mono fun n g K => by
   simp only [k3_4, K4, t3_2, t3_3, t3_4, t3_11]
   have dz : ∀ K : AV → Hp → RS, Seat.Z (i64 (enc E).length) i1 h15 K = K (i64 ((enc E).length - 1 : Nat)) h15 := fun K => by
    obtain ⟨n, hn⟩ : ∃ n, (enc E).length = n + 1 := ⟨(enc E).length - 1, by omega⟩
    rw [hn, vg (by omega), Nat.add_sub_cancel]
   (rw [bt (fm.len w15.rd), dz, aM g, du v1, aC v2, aH v3, du v1, dQ v4]; try rfl)
  -- both rows of bytes
  have O16 : Old h h16 := (O6.trans O68).trans v6.old
  have ry := ru.up O16
  have rx := v6.rd
  obtain ⟨_, _, _, sy, _⟩ := id ry
  obtain ⟨_, _, _, sx, _⟩ := id rx
  obtain ⟨jd, h17, w1, oj, O17, W17⟩ := RF (el := 26) v6.wf sy sx
  have s5 : ∀ c i' (K : A2 → Hp → RS), k3_5 c i' K (T4 y vx) h16 = K (T5 (.slice jd 0 2 2) (i64 2) (i64 (0 : Nat))) h17 := fun c i' K => by
   simp only [k3_5, K2, t4_2, t4_11]
   (rw [aH w1, bt (eY (es := 1) (n := 2) (q := jd) (o := 0) (.inl ⟨_, rfl⟩))]; try rfl)
  obtain ⟨rl, h18, ⟨_, O18, W18⟩, kl⟩ := gv (p := p) (body := B3) (r := T5 (.slice jd 0 2 2) (i64 2) (i64 (0 : Nat))) (h := h17) 2
   (Inv := fun n r h' => r = T5 (.slice jd 0 2 2) (i64 2) (i64 n) ∧ Old h17 h' ∧ Wf h') (l := 0) (Re := T6) (fun n r h' hn I => by
    obtain ⟨rfl, O', W'⟩ := I
    have t6 : ∀ c i' (K : A2 → Hp → RS), k3_6 c i' K (T5 (.slice jd 0 2 2) (i64 2) (i64 n)) h' = K (T5 (.slice jd 0 2 2) (i64 2) (i64 n)) h' := fun c i' K => by
     simp only [k3_6, K3, t5_81, t5_82, t5_83]
     (rw [bA, bH, if_pos (by omega)]; try rfl)
    have cd := (Ob.c0 oj).old O'
    have key : ∃ x s, [y, vx][n]? = some x ∧ fm h' x s ∧ s.length + 80 ≤ 16777216 := by
     match n, hn with
     | 0, _ => exact ⟨y, u, rfl, (ry.up O17).up O', by omega⟩
     | 1, _ => exact ⟨vx, s', rfl, (rx.up O17).up O', by omega⟩
    obtain ⟨x, s, e1, e2, e3⟩ := key
    obtain ⟨h2, O2, W2, k2⟩ := RD (p := p) T W' hn cd e1 e2 e3
    exact ⟨_, h2, .ef t6 k2, rfl, O'.trans O2, W2⟩) (fun r h' I => by
    obtain ⟨rfl, _, _⟩ := I
    refine .aR fun c i' K => ?_
    simp only [k3_6, K3, t5_81, t5_82, t5_83]
    (rw [bA, bH, if_neg (by omega)]; try rfl)) ⟨rfl, .refl _, W17⟩
  refine ⟨h18, .of (r' := T1 (.bool true)) (h1 := h18) T.e3 (by simp) (.to s0 (.seq (.seq (.ops o1) (.aR fun c i' K => by rw [s1, Bool.not_true, fK])) (.to s2 (.seq rA (.to s4 (.seq (.ef s5 (.bN kl)) (.ah ((T.e6 h18).mono fun m g => ?_)))))))) rfl⟩
  simp only [k3_10]
  rw [aM g]
end
open Go.Cod
noncomputable section
def Vy : AF := .tz (.fn Eg) x6 [.t .h0 .h0]
def PH : F1 := match Rl with
 | .nil => .nil
 | .mk a0 a1 a2 a3 a4 a5 _ a7 a8 a9 b0 b1 b2 b3 b4 b5 => .mk a0 a1 a2 a3 a4 a5 Vy a7 a8 a9 b0 b1 b2 b3 b4 b5
def JT : F2 := match Jm with
 | .nil => .nil
 | .mk _ a1 a2 a3 a4 a5 a6 a7 a8 a9 b0 b1 b2 b3 b4 b5 => .mk PH a1 a2 a3 a4 a5 a6 a7 a8 a9 b0 b1 b2 b3 b4 b5
def Ty : Pg := match pg with
 | .mk fs ms => .mk (match fs with
  | .nil => .nil
  | .mk _ a1 a2 a3 a4 a5 a6 a7 a8 a9 b0 b1 b2 b3 b4 b5 => .mk JT a1 a2 a3 a4 a5 a6 a7 a8 a9 b0 b1 b2 b3 b4 b5) ms
theorem UO : Nz Ty where
 d := ⟨rfl, rfl, rfl, rfl, rfl, rfl, rfl, rfl, rfl, rfl⟩
 w := ⟨rfl, rfl, rfl, rfl, rfl, rfl, rfl, rfl⟩
 t := ⟨rfl, rfl, rfl, rfl, rfl⟩
 e30 := rfl
 e45 := rfl
 e72 := rfl
 e74 := rfl
theorem UP : xa Ty where
 e := UO
 c := ⟨rfl, rfl, rfl, rfl⟩
 e3 := rfl
 e4 := rfl
 e5 := rfl
 e6 := fun h => .tz (k := .fn Eg) (body := x6) (res := [.t .h0 .h0]) rfl rfl
 e10 := rfl
 e11 := rfl
 e12 := rfl
 e13 := rfl
 e14 := rfl
 e43 := rfl
end
end Go.Am.Seat
namespace Go.Am
noncomputable section
theorem Kx {P : Program} {names : List String} {p : Pg} {n : Nat} (E : Env P ⟨n, [], none⟩ names p) (m f : Nat) (as1 : List AV) (vs : List Value) (w : World) (hn : n ≤ 65536) (hs : n ≤ w.heap.size) (h' : Hp) (hv : cL (vh n w) as1 vs)
  (e : au p (exec p m) f as1 (AW n w) = .ok (.bool true) h') (hx : Dv (aq f p.fs) = false := by rfl) :
  Calls P f vs.toArray w fun e w' => e = .returned (.bool true) ∧ w.heap.size ≤ w'.heap.size ∧ (∀ b, b < w.heap.size → w'.heap[b]? = w.heap[b]?) ∧ w'.os = w.os ∧ w'.output = w.output := by
 refine (El E m f as1 vs (TE hn) (Vz n w hn hs) hv (by rw [e]; intro q hq; cases hq) (Dw hx)).mono ?_
 rintro e' w' ⟨v, h2, cv, φ', hl, rfl, hvv, _, T⟩
 rw [e] at hl
 cases hl
 cases hvv
 exact ⟨rfl, T.keeps.size, fun b hb => T.keeps.rest b hb fun i p hl => absurd hl (CF hn), T.keeps.os, T.keeps.output⟩
end
end Go.Am
namespace Go.Am.Seat
open Go.Cod
noncomputable section
theorem RG (n : Nat) (w : World) : Wf (AW n w) := ⟨w.heap.size, rfl, fun m hm => by
 rw [pZ]
 unfold Gu
 rw [Array.getElem?_eq_none hm]⟩
def jy : List TypeId := [25, 48, 50, 23, 46, 22, 41, 26, 3, 2, 9, 4, 5]
variable {P : Program} {H : Type} {enc : TypeId × Value → H} {w : World} {sp : Nat → Bool} {held : Bool} {bk : DataW H → Nat} {bkA : List (DataW H) → Nat} {h : Hp}
structure Ask (P : Program) (names : List String) : Prop where
 e : Env P ⟨7, [], none⟩ names Ty
 t : ij P 3 2 9 4 50 46 48 23 41 22 25
 k : vi P jy = true
 s : ik P 26 = some (5, 1)
 u : P.underlying 5 = some (.int .u8)
def Kept (w : World) (e : Ending) (w' : World) : Prop := e = .returned (.bool true) ∧ w.heap.size ≤ w'.heap.size ∧ (∀ b, b < w.heap.size → w'.heap[b]? = w.heap[b]?) ∧ w'.os = w.os ∧ w'.output = w.output
theorem CG {names : List String} (A : Ask P names) (hsp : ∀ b, sp b = true) {v : Value} {t : TypeId} {d : DataW H} {ps : List MemPlace} (hv : v.cells.toList = [v]) (ht : t ∈ jy) (r : DataW.Trod enc P w 0 sp held t v d ps) : ∃ n, tn P (AW 7 w) n t [jO w v] d := by
 obtain ⟨n, r⟩ := r
 obtain ⟨r, _, _⟩ := reads (g := 7) A.k hsp n t v.cells.toList (d, ps) ht r
 rw [hv] at r
 exact ⟨n, r⟩
theorem TF {names : List String} (A : Ask P names) (K : mu bk bkA) (hsp : ∀ b, sp b = true) {v : Value} {d : DataW H} {ps : List MemPlace} (r : DataW.Trod enc P w 0 sp held 25 v d ps) (hB : bk d ≤ 1048576) : ∃ le e, VR (vh 7 w) (.agg le) v ∧ eE (AW 7 w) le e ∧ wO 1048576 e := by
 obtain ⟨n, r⟩ := r
 obtain ⟨r, one, _⟩ := reads (g := 7) A.k hsp n 25 v.cells.toList (d, ps) (by simp [jy]) r
 obtain ⟨e, re, bd⟩ := RH A.t K (tn.add n 6 25 _ d r) hB
 refine ⟨_, e, ?_, re, bd⟩
 have hl : (v.cells.toList.map (jO w)).length = 7 := by
  obtain ⟨x, y, g, _⟩ := re
  rw [g]; rfl
 rw [List.length_map] at hl
 cases v with
 | agg cs =>
  have := VR.agg (φ := vh 7 w) (cs.toList.map (jO w)) cs.toList (cL.Ci (by simp) fun k h1 h2 => by
   rw [List.getElem_map]
   exact qa 7 w _) one
  exact this
 | _ => simp [Value.cells] at hl
theorem TG {k : IntKind} {t : TypeId} {n : Nat} {a : AV} {d : DataW H} (hu : P.underlying t = some (.int k)) (r : tn P h n t [a] d) : ∃ z, a = .int k z ∧ (Lit.int k z).wf = true := by
 obtain ⟨z, e, _, wf⟩ := gP.int hu (tn.succ n t [a] d r)
 have e : a = .int k z := by simpa using e
 exact ⟨z, e, wf⟩
theorem UQ {names : List String} (A : Ask P names) (K : mu bk bkA) {n : Nat} {a : AV} {d : DataW H} (r : tn P h n 26 [a] d) (hB : bk d ≤ 1048576) : ∃ u, fm h a u ∧ u.length ≤ 1048576 := by
 have r2 : gP P h (tn P h (n + 1)) 26 [a] d := tn.add n 2 26 [a] d r
 obtain ⟨x, u, e, rl, hl, _⟩ := gP.slice K (f := fun l (b : UInt8) => l = [AV.int .u8 (b.toNat : Int)]) (Q := fun _ => True) (B := 1048576) A.s r2 hB fun l d r _ => by
  obtain ⟨z, rfl, _, wf⟩ := gP.int A.u r
  simp only [Lit.wf, Bool.and_eq_true, decide_eq_true_eq] at wf
  have h1 : (0 : Int) ≤ z := wf.1
  have h2 : z ≤ 255 := wf.2
  refine ⟨UInt8.ofNat z.toNat, ?_, trivial⟩
  have (n : Nat) : (UInt8.ofNat n).toNat = n % 256 := by simp
  rw [this, show ((z.toNat % 256 : Nat) : Int) = z by omega]
 have e : a = x := by simpa using e
 subst e
 obtain ⟨q, o, sl, g⟩ := dt.sl rl
 refine ⟨u, ⟨q, o, u.length, sl, rfl, fun hne => ?_⟩, hl⟩
 obtain ⟨l0, l1, ⟨el, n, ex, fl, c, c1, c2, c3⟩, rfl⟩ := g 0 (by omega)
 have all : ∀ k (hk : k < u.length), o + k + 1 ≤ n ∧ eO (o + k) c = .int .u8 (u[k].toNat : Int) := fun k hk => by
  obtain ⟨l, l1, ⟨el', n', ex', fl', c', d1, d2, d3⟩, rfl⟩ := g k hk
  rw [c1] at d1
  obtain ⟨_, rfl, _, _, rfl⟩ := Obj.cells.inj d1
  have := d3 0 (by simp)
  simp only [List.length_singleton, Nat.mul_one, Nat.add_zero, List.getElem_cons_zero] at this d2
  exact ⟨d2, this⟩
 refine ⟨el, n, ex, fl, c, c1, ?_, fun k hk => ?_⟩
 ·rw [bU]
  have := (all (u.length - 1) (by omega)).1
  omega
 ·rw [(all k (by rwa [bU] at hk)).2]
  simp [bc]
theorem Jl {names : List String} (A : Ask P names) (K : mu bk bkA) (hs : 7 ≤ w.heap.size) (hsp : ∀ b, sp b = true) {v0 v1 v2 v3 v4 : Value} {d0 d1 d2 d3 d4 : DataW H} {ps0 ps1 ps2 ps3 ps4 : List MemPlace} (hv2 : v2.cells.toList = [v2]) (hv3 : v3.cells.toList = [v3]) (hv4 : v4.cells.toList = [v4])
  (ht0 : DataW.Trod enc P w 0 sp held 25 v0 d0 ps0) (ht1 : DataW.Trod enc P w 0 sp held 25 v1 d1 ps1) (ht2 : DataW.Trod enc P w 0 sp held 26 v2 d2 ps2) (ht3 : DataW.Trod enc P w 0 sp held 3 v3 d3 ps3) (ht4 : DataW.Trod enc P w 0 sp held 5 v4 d4 ps4)
  (hB0 : bk d0 ≤ 1048576) (hB1 : bk d1 ≤ 1048576) (hB2 : bk d2 ≤ 1048576) : Calls P 3 #[v0, v1, v2, v3, v4] w (Kept w) := by
 obtain ⟨le, e, ve, re, be⟩ := TF A K hsp ht0 hB0
 obtain ⟨lo, o, vo, ro, bo⟩ := TF A K hsp ht1 hB1
 obtain ⟨n2, r2⟩ := CG A hsp hv2 (by simp [jy]) ht2
 obtain ⟨n3, r3⟩ := CG A hsp hv3 (by simp [jy]) ht3
 obtain ⟨n4, r4⟩ := CG A hsp hv4 (by simp [jy]) ht4
 obtain ⟨u, ru, hu⟩ := UQ A K r2 hB2
 obtain ⟨z, e3, wf⟩ := TG A.t.i r3
 obtain ⟨t, e4, wt⟩ := TG A.u r4
 simp only [Lit.wf, Bool.and_eq_true, decide_eq_true_eq] at wt
 have h1 : (0 : Int) ≤ t := wt.1
 have h2 : t ≤ 255 := wt.2
 obtain ⟨h', c⟩ := NA (p := Ty) UP (RG 7 w) re ro be bo (Nat.le_refl _) ru hu z (vj wf) (UInt8.ofNat t.toNat)
 have (n : Nat) : (UInt8.ofNat n).toNat = n % 256 := by simp
 have e3 : jO w v3 = i64 z := e3
 rw [this, show ((t.toNat % 256 : Nat) : Int) = t by omega, ← e3, ← e4] at c
 obtain ⟨k, c⟩ := c.some
 exact Kx A.e k 3 [.agg le, .agg lo, jO w v2, jO w v3, jO w v4] [v0, v1, v2, v3, v4] w (by decide) hs h'
  (.cons _ _ _ _ ve (.cons _ _ _ _ vo (.cons _ _ _ _ (qa 7 w v2) (.cons _ _ _ _ (qa 7 w v3) (.cons _ _ _ _ (qa 7 w v4) .nil))))) c
end
end Go.Am.Seat
