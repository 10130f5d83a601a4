/- The walk: what each function of the program does at arguments that are not known; and what the law comes to. Conditions: the table of functions holds these functions. -/
import Derived.Test.YtfancojpkcapeaaGreatH
import Derived.Test.YtfancojpkcapeaaGreatG
import Derived.Test.YtfancojpkcapeaaGreatFast0
set_option linter.all false
namespace Go.Am.Seat
section
variable {a b d e f g j k l m n o p q s t v w : AV}
theorem t0_0 : y0 (T0 a b d e) = a := rfl
theorem t0_1 : y1 (T0 a b d e) = b := rfl
theorem t0_5 : y5 (T0 a b d e) = d := rfl
theorem t0_6 : y6 (T0 a b d e) = e := rfl
theorem t2_0 : y0 (T2 a b d) = a := rfl
theorem t2_1 : y1 (T2 a b d) = b := rfl
theorem t2_5 : y5 (T2 a b d) = d := rfl
theorem t3_0 : y0 (T3 a b d e) = a := rfl
theorem t3_1 : y1 (T3 a b d e) = b := rfl
theorem t3_5 : y5 (T3 a b d e) = d := rfl
theorem t3_7 : y7 (T3 a b d e) = e := rfl
theorem t4_0 : y0 (T4 a b) = a := rfl
theorem t4_5 : y5 (T4 a b) = b := rfl
theorem t5_0 : y0 (T5 a b d e f) = a := rfl
theorem t5_1 : y1 (T5 a b d e f) = b := rfl
theorem t5_5 : y5 (T5 a b d e f) = d := rfl
theorem t5_7 : y7 (T5 a b d e f) = e := rfl
theorem t5_8 : y8 (T5 a b d e f) = f := rfl
theorem t6_0 : y0 (T6 a b d e f) = a := rfl
theorem t6_1 : y1 (T6 a b d e f) = b := rfl
theorem t6_5 : y5 (T6 a b d e f) = d := rfl
theorem t6_7 : y7 (T6 a b d e f) = e := rfl
theorem t6_64 : y64 (T6 a b d e f) = f := rfl
theorem t7_0 : y0 (T7 a b d) = a := rfl
theorem t7_5 : y5 (T7 a b d) = b := rfl
theorem t7_9 : y9 (T7 a b d) = d := rfl
theorem t9_0 : y0 (T9 a b d) = a := rfl
theorem t9_5 : y5 (T9 a b d) = b := rfl
theorem t9_12 : y12 (T9 a b d) = d := rfl
theorem iQ : y0 (T11 a b) = a := rfl
theorem iR : y1 (T11 a b) = b := rfl
theorem t12_6 : y6 (T12 a) = a := rfl
theorem rK : y0 (T14 a) = a := rfl
theorem wE : y0 (T15 a b) = a := rfl
theorem wF : y3 (T15 a b) = b := rfl
theorem t16_0 : y0 (T16 a b d) = a := rfl
theorem t16_3 : y3 (T16 a b d) = b := rfl
theorem t16_6 : y6 (T16 a b d) = d := rfl
theorem t17_0 : y0 (T17 a b d e) = a := rfl
theorem t17_3 : y3 (T17 a b d e) = b := rfl
theorem t17_6 : y6 (T17 a b d e) = d := rfl
theorem pT : y0 (T18 a b d e) = a := rfl
theorem pU : y3 (T18 a b d e) = b := rfl
theorem pV : y6 (T18 a b d e) = d := rfl
theorem kQ : y27 (T18 a b d e) = e := rfl
theorem t19_0 : y0 (T19 a b d) = a := rfl
theorem t19_1 : y1 (T19 a b d) = b := rfl
theorem t19_6 : y6 (T19 a b d) = d := rfl
theorem t20_4 : y4 (T20 a b) = a := rfl
theorem t20_5 : y5 (T20 a b) = b := rfl
theorem t21_5 : y5 (T21 a b d) = a := rfl
theorem t21_12 : y12 (T21 a b d) = b := rfl
theorem t21_13 : y13 (T21 a b d) = d := rfl
theorem t22_5 : y5 (T22 a) = a := rfl
theorem t24_5 : y5 (T24 a b d e) = a := rfl
theorem t24_34 : y34 (T24 a b d e) = b := rfl
theorem t24_35 : y35 (T24 a b d e) = d := rfl
theorem t24_36 : y36 (T24 a b d e) = e := rfl
theorem t25_0 : y0 (T25 a b d) = a := rfl
theorem t25_5 : y5 (T25 a b d) = b := rfl
theorem t25_6 : y6 (T25 a b d) = d := rfl
theorem t26_0 : y0 (T26 a b) = a := rfl
theorem t26_6 : y6 (T26 a b) = b := rfl
theorem t28_0 : y0 (T28 a b d e) = a := rfl
theorem t28_1 : y1 (T28 a b d e) = b := rfl
theorem t28_2 : y2 (T28 a b d e) = d := rfl
theorem t28_9 : y9 (T28 a b d e) = e := rfl
theorem t30_0 : y0 (T30 a b d e f) = a := rfl
theorem t30_3 : y3 (T30 a b d e f) = b := rfl
theorem t30_12 : y12 (T30 a b d e f) = d := rfl
theorem t30_13 : y13 (T30 a b d e f) = e := rfl
theorem t30_14 : y14 (T30 a b d e f) = f := rfl
theorem Al : y3 (T31 a b d e f) = a := rfl
theorem An : y6 (T31 a b d e f) = b := rfl
theorem uO : y32 (T31 a b d e f) = d := rfl
theorem uP : y33 (T31 a b d e f) = e := rfl
theorem uQ : y34 (T31 a b d e f) = f := rfl
theorem Aw : y0 (T33 a b) = a := rfl
theorem Ax : y4 (T33 a b) = b := rfl
theorem t34_0 : y0 (T34 a b d e) = a := rfl
theorem t34_81 : y81 (T34 a b d e) = b := rfl
theorem t34_82 : y82 (T34 a b d e) = d := rfl
theorem t34_83 : y83 (T34 a b d e) = e := rfl
theorem t35_0 : y0 (T35 a b d e) = a := rfl
theorem t35_1 : y1 (T35 a b d e) = b := rfl
theorem t35_2 : y2 (T35 a b d e) = d := rfl
theorem t35_7 : y7 (T35 a b d e) = e := rfl
theorem t36_0 : y0 (T36 a b d) = a := rfl
theorem t36_3 : y3 (T36 a b d) = b := rfl
theorem t36_4 : y4 (T36 a b d) = d := rfl
theorem t50_0 : y0 (T50 a b d) = a := rfl
theorem t50_4 : y4 (T50 a b d) = b := rfl
theorem t50_5 : y5 (T50 a b d) = d := rfl
theorem t51_0 : y0 (T51 a b d e) = a := rfl
theorem t51_4 : y4 (T51 a b d e) = b := rfl
theorem t51_5 : y5 (T51 a b d e) = d := rfl
theorem t51_6 : y6 (T51 a b d e) = e := rfl
theorem t52_0 : y0 (T52 a b d e) = a := rfl
theorem t52_1 : y1 (T52 a b d e) = b := rfl
theorem t52_4 : y4 (T52 a b d e) = d := rfl
theorem t52_12 : y12 (T52 a b d e) = e := rfl
theorem t53_0 : y0 (T53 a b d e f) = a := rfl
theorem t53_1 : y1 (T53 a b d e f) = b := rfl
theorem t53_4 : y4 (T53 a b d e f) = d := rfl
theorem t53_12 : y12 (T53 a b d e f) = e := rfl
theorem t58_1 : y1 (T58 a b) = a := rfl
theorem t58_2 : y2 (T58 a b) = b := rfl
theorem t59_1 : y1 (T59 a b d e f) = a := rfl
theorem t59_2 : y2 (T59 a b d e f) = b := rfl
theorem t62_0 : y0 (T62 a b d e f) = a := rfl
theorem t62_2 : y2 (T62 a b d e f) = b := rfl
theorem t62_14 : y14 (T62 a b d e f) = d := rfl
theorem t62_15 : y15 (T62 a b d e f) = e := rfl
theorem t62_16 : y16 (T62 a b d e f) = f := rfl
theorem t63_1 : y1 (T63 a b d) = a := rfl
theorem t63_3 : y3 (T63 a b d) = b := rfl
theorem t63_6 : y6 (T63 a b d) = d := rfl
theorem t64_0 : y0 (T64 a b d e f) = a := rfl
theorem t64_1 : y1 (T64 a b d e f) = b := rfl
theorem t64_2 : y2 (T64 a b d e f) = d := rfl
theorem t64_11 : y11 (T64 a b d e f) = e := rfl
theorem t64_12 : y12 (T64 a b d e f) = f := rfl
theorem t66_3 : y3 (T66 a) = a := rfl
theorem t67_5 : y5 (T67 a b d) = a := rfl
theorem t67_6 : y6 (T67 a b d) = b := rfl
theorem t67_7 : y7 (T67 a b d) = d := rfl
theorem t70_0 : y0 (T70 a b d e) = a := rfl
theorem t70_1 : y1 (T70 a b d e) = b := rfl
theorem t70_12 : y12 (T70 a b d e) = d := rfl
theorem t70_13 : y13 (T70 a b d e) = e := rfl
theorem t71_3 : y3 (T71 a b d e) = a := rfl
theorem t71_6 : y6 (T71 a b d e) = b := rfl
theorem t71_7 : y7 (T71 a b d e) = d := rfl
theorem t71_8 : y8 (T71 a b d e) = e := rfl
end
end Go.Am.Seat
namespace Go.Am
noncomputable section
section
variable {h h' : Hp} {v x y : AV} {k : AV → Hp → RS} {q : P4} {o n m es el : Nat} {l : List AV}
theorem bS : Seat.tR (.ok v h) k = k v h := rfl
theorem aM {e : RV} (g : e = .ok v h') : Seat.tR e k = k v h' := by rw [g]; rfl
theorem ai {e : RV} {k : AV → RS} (g : e = .ok v h') : Seat.tQ e k = k v := by rw [g]; rfl
theorem NW {e : RT} (g : e = .ok v h') : Seat.tT e k = k v h' := by rw [g]; rfl
theorem kX {e : RT} (g : e = .ok v h') : Seat.tX e k = k v h' := by rw [g]; rfl
theorem aD {c : Cf} {f : Nat} {l : List AV} (g : c f l h = .ok v h') : Seat.C c f l h k = k v h' := by
 show RT.elim k _ _ (c f l h) = _
 rw [g]; rfl
theorem av {d : Nat} : Seat.A d (.ptr q o) h k = k (.ptr q (o + d)) h := rfl
theorem aA : Seat.J (.ptr q o) h k = k (.ptr q o) h := rfl
theorem aC {a : AV} (g : Seat.lD a h = .ok v h') : Seat.L a h k = k v h' := by
 show (@RV.rec (fun _ => RS) k (fun n => .err n) (Seat.lD a h)) = _
 rw [g]
theorem rI {a : AV} (g : Seat.ja m a h = .ok v h') : Seat.M m a h k = k v h' := by
 show (@RV.rec (fun _ => RS) k (fun n => .err n) (Seat.ja m a h)) = _
 rw [g]
theorem cw {a b : AV} (g : Seat.sT a b h = .ok v h') : Seat.W a b h k = k v h' := by
 show (@RV.rec (fun _ => RS) k (fun n => .err n) (Seat.sT a b h)) = _
 rw [g]
theorem uN {a b : AV} (g : Seat.CS m a b h = .ok v h') : Seat.S m a b h k = k v h' := by
 show (@RV.rec (fun _ => RS) k (fun n => .err n) (Seat.CS m a b h)) = _
 rw [g]
theorem fU {a : AV} (g : Seat.bx m a h = .ok v h') : Seat.B m a h k = k v h' := by
 show (@RV.rec (fun _ => RS) k (fun n => .err n) (Seat.bx m a h)) = _
 rw [g]
theorem rJ {c : Cl} (g : Seat.Se m n c h = .ok v h') : Seat.O m n c h k = k v h' := by
 show (@RV.rec (fun _ => RS) k (fun n => .err n) (Seat.Se m n c h)) = _
 rw [g]
theorem jl {z : List AV} {ps : List Part} (g : Seat.bl z ps h = .ok v h') : Seat.U z ps h k = k v h' := by
 show (@RV.rec (fun _ => RS) k (fun n => .err n) (Seat.bl z ps h)) = _
 rw [g]
theorem jm {a : AV} (g : Seat.ext m a h = .ok v h') : Seat.E m a h k = k v h' := by
 show (@RV.rec (fun _ => RS) k (fun n => .err n) (Seat.ext m a h)) = _
 rw [g]
theorem cU {a : AV} (g : Am.len a h = .ok v h') : Seat.G a h k = k v h' := by
 show (@RV.rec (fun _ => RS) k (fun n => .err n) (Am.len a h)) = _
 rw [g]
theorem jk {a b : AV} (g : Seat.iX m a b h = .ok v h') : Seat.X m a b h k = k v h' := by
 show (@RV.rec (fun _ => RS) k (fun n => .err n) (Seat.iX m a b h)) = _
 rw [g]
theorem dY {a b : RS} : Seat.I (.bool true) a b = a := rfl
theorem aY {a b : RS} : Seat.I (.bool false) a b = b := rfl
theorem gT {a b : RS} {c : Prop} [Decidable c] : Seat.I (.bool (decide c)) a b = if c then a else b := by
 by_cases hc : c
 ·rw [if_pos hc, decide_eq_true hc]; rfl
 ·rw [if_neg hc, decide_eq_false hc]; rfl
theorem Ay (k : IntKind) : ll k k = true := by cases k <;> rfl
theorem kS {f : IntKind → Int → Int → AV} (k : IntKind) (a b : Int) : Be f (.int k a) (.int k b) h = .ok (f k a b) h := by
 show (@Bool.rec (fun _ => RV) (.err 4) (.ok (f k a b) h) (ll k k)) = _
 rw [Ay]
theorem uR (k : IntKind) (a b : Int) : mY (.int k a) (.int k b) h = .ok (.bool (decide (a < b))) h := (kS k a b).trans (by rw [lZ])
theorem rH (k : IntKind) (a b : Int) : fj (.int k a) (.int k b) h = .ok (.bool (decide (b < a))) h := (kS k a b).trans (by rw [lZ])
theorem Jz (k : IntKind) (a b : Int) : KN (.int k a) (.int k b) h = .ok (.bool (decide (a ≤ b))) h := (kS k a b).trans (by rw [xP])
theorem Ag (k : IntKind) (a b : Int) : kY (.int k a) (.int k b) h = .ok (.bool (decide (b ≤ a))) h := (kS k a b).trans (by rw [xP])
theorem JM (k : IntKind) (a b : Int) : wN (.int k a) (.int k b) h = .ok (.bool (decide (a = b))) h := (kS k a b).trans (by rw [hE])
theorem Az (k : IntKind) (a b : Int) : gF (.int k a) (.int k b) h = .ok (.bool (!decide (a = b))) h := (kS k a b).trans (by rw [hE])
theorem ye (k : IntKind) (a b : Int) : fX (.int k a) (.int k b) h = .ok (.int k (k.wrap (a + b))) h := (kS k a b).trans (by rw [de, sE])
theorem qY (k : IntKind) (a b : Int) : hR (.int k a) (.int k b) h = .ok (.int k (k.wrap (a - b))) h := (kS k a b).trans (by rw [de, sE, sF, Int.sub_eq_add_neg])
theorem Qc (k : IntKind) (a b : Int) : vz (.int k a) (.int k b) h = .ok (.int k (k.wrap (a * b))) h := (kS k a b).trans (by rw [de, xO])
theorem gC (k k' : IntKind) (a : Int) : cK (.toInt k) (.int k' a) h = .ok (.int k (k.wrap a)) h := by
 show RV.ok (.int k (iy k a)) h = _
 rw [de]
theorem kP (b : Bool) : eS (.bool b) h = .ok (.bool (!b)) h := by cases b <;> rfl
theorem di (k' : IntKind) (a b : Int) : Seat.Y (.int k' a) (.int k' b) h k = k (.bool (decide (a < b))) h := by
 show (@RV.rec (fun _ => RS) k (fun n => .err n) (mY _ _ _)) = _
 rw [uR]
theorem gU (k' : IntKind) (a b : Int) : Seat.Q (.int k' a) (.int k' b) h k = k (.bool (decide (a = b))) h := by
 show (@RV.rec (fun _ => RS) k (fun n => .err n) (wN _ _ _)) = _
 rw [JM]
theorem hS (k' : IntKind) (a b : Int) : Seat.D (.int k' a) (.int k' b) h k = k (.int k' (k'.wrap (a + b))) h := by
 show (@RV.rec (fun _ => RS) k (fun n => .err n) (fX _ _ _)) = _
 rw [ye]
theorem uT (k' : IntKind) (a b : Int) : Seat.Z (.int k' a) (.int k' b) h k = k (.int k' (k'.wrap (a - b))) h := by
 show (@RV.rec (fun _ => RS) k (fun n => .err n) (hR _ _ _)) = _
 rw [qY]
theorem yb (s : List Nat) : lx (.str s) h = .ok (.int .i64 (s.length : Int)) h := rfl
theorem JE (s t : List Nat) : sM (.str s) (.str t) h = .ok (.bool (!decide (s = t))) h := by
 show RV.ok (.bool (Bool.not (kT s t))) h = _
 rw [pe]
theorem JQ (c : Cs h q o l) (j : Nat) (hj : j < l.length) : Seat.lD (.ptr q (o + j)) h = .ok l[j] h := by
 obtain ⟨el, n, ex, fl, c, e, r1, r2⟩ := c
 show (Obj.aN (ah q h) (fun _ n _ _ c => @Bool.rec (fun _ => RV) (.err 13) (.ok (eI (o + j) c) h) (FK (o + j) n)) (.err 14) : RV) = _
 rw [e]
 show (@Bool.rec (fun _ => RV) (.err 13) (.ok (eI (o + j) c) h) (Nat.ble (Nat.succ (o + j)) n)) = _
 rw [Nat.ble_eq_true_of_le (by omega), r2 j hj]
theorem JR (c : Cs h q o l) (hj : 0 < l.length) : Seat.lD (.ptr q o) h = .ok l[0] h := JQ c 0 hj
theorem uU {c : Cl} : ∀ {l : List AV} {o : Nat}, (∀ k (hk : k < l.length), eI (o + k) c = l[k]) → bH l.length c o = l
 | [], _, _ => rfl
 | a :: l, o, g => by
  have h0 := g 0 (by simp)
  have : bH l.length c (o + 1) = l := uU fun k hk => by
   have := g (k + 1) (by simp; omega)
   rw [show o + 1 + k = o + (k + 1) by omega, this]; rfl
  show eI o c :: bH l.length c (o + 1) = a :: l
  rw [this]
  simp at h0
  rw [h0]
theorem gv (c : Cs h q o l) (hm : l.length = m) : Seat.ja m (.ptr q o) h = .ok (.agg l) h := by
 obtain ⟨el, n, ex, fl, c, e, r1, r2⟩ := c
 show (Obj.aN (ah q h) (fun _ n _ _ c => @Bool.rec (fun _ => RV) (.err 16) (.ok (.agg (bH m c o)) h) (Nat.ble (Nat.add o m) n)) (.err 17) : RV) = _
 rw [e]
 show (@Bool.rec (fun _ => RV) (.err 16) (.ok (.agg (bH m c o)) h) (Nat.ble (o + m) n)) = _
 rw [Nat.ble_eq_true_of_le (by omega), ← hm, uU r2]
def FB (x : AV) (es n : Nat) (q : P4) (o : Nat) : Prop := (∃ cap, x = .slice q o n cap) ∨ x = .cA q o n es ∨ (x = .al ∧ n = 0)
theorem yf (s : FB x es n q o) : Am.len x h = .ok (.int .i64 (n : Int)) h := by
 rcases s with ⟨cap, rfl⟩ | rfl | ⟨rfl, rfl⟩ <;> rfl
theorem wH (s : FB x es n q o) {i : Nat} (hi : i < n) : Seat.iX es x (.int .i64 (i : Int)) h = .ok (.ptr q (o + i * es)) h := by
 rcases s with ⟨cap, rfl⟩ | rfl | ⟨rfl, rfl⟩
 ·show (@Bool.rec (fun _ => RV) (.err 54) (.ok (.ptr q (o + i * es)) h) (Nat.ble (Nat.succ i) n)) = _
  rw [Nat.ble_eq_true_of_le hi]
 ·show (@Bool.rec (fun _ => RV) (.err 54) (.ok (.ptr q (o + i * es)) h) (Nat.ble (Nat.succ i) n)) = _
  rw [Nat.ble_eq_true_of_le hi]
 ·omega
theorem pX (s : FB x es n q o) (hes : 0 < es) (c : n ≠ 0 → Cs h q o l) (hl : l.length = n * es) (k : List AV → RV) (e : RV) : elems es x h k e = k l := by
 have key : fG es q o n h k e = k l := by
  cases n with
  | zero =>
   have : l = [] := List.length_eq_zero_iff.1 (by rw [hl, Nat.zero_mul])
   rw [this]; rfl
  | succ n =>
   obtain ⟨el, m, ex, fl, cl, g, r1, r2⟩ := c (by omega)
   show (Obj.aN (ah q h) (fun _ m _ _ c => @Bool.rec (fun _ => RV) e (k (bH (Nat.mul (Nat.succ n) es) c o)) (Nat.ble (Nat.add o (Nat.mul (Nat.succ n) es)) m)) e : RV) = _
   rw [g]
   show (@Bool.rec (fun _ => RV) e (k (bH ((n + 1) * es) cl o)) (Nat.ble (o + (n + 1) * es) m)) = _
   rw [Nat.ble_eq_true_of_le (by omega), ← hl, uU r2]
 rcases s with ⟨cap, rfl⟩ | rfl | ⟨rfl, rfl⟩
 ·exact key
 ·show (@Bool.rec (fun _ => RV) e (fG es q o n h k e) (Nat.beq es es)) = _
  rw [Nat.beq_refl]; exact key
 ·have : l = [] := List.length_eq_zero_iff.1 (by rw [hl, Nat.zero_mul])
  rw [this]; rfl
def dK (h : Hp) (x : AV) (el es : Nat) (l : List AV) (b : P4 → Prop) : Prop := (l = [] ∧ (x = .al ∨ ∃ q, x = .slice q 0 0 0)) ∨ ∃ q n, x = .cA q 0 n es ∧ l.length = n * es ∧ Ob h q el false .plain l ∧ b q
theorem dK.sl {b : P4 → Prop} (w : dK h x el es l b) (hes : 0 < es) : ∃ q n, FB x es n q 0 ∧ l.length = n * es ∧ (n ≠ 0 → Cs h q 0 l) := by
 rcases w with ⟨rfl, rfl | ⟨q, rfl⟩⟩ | ⟨q, n, rfl, hl, ob, _⟩
 ·exact ⟨.ft 0 0, 0, .inr (.inr ⟨rfl, rfl⟩), by simp, fun h => absurd rfl h⟩
 ·exact ⟨q, 0, .inl ⟨0, rfl⟩, by simp, fun h => absurd rfl h⟩
 ·exact ⟨q, n, .inr (.inl rfl), hl, fun _ => ob.cs (k := 0) (fun j hj => ⟨by omega, by simp⟩) (by omega)⟩
theorem Ob.NX (W : Wf h) {ex : Bool} {fl : Fl} {c : Cl} (hn : Gd c ∧ l.length ≤ bw c) (hg : ∀ k (hk : k < l.length), eI k c = l[k]) : Ob (we h (.cells el l.length ex fl c)) h.next el ex fl l :=
 ⟨c, by rw [iI, if_pos rfl], hn, hg⟩
theorem gW (W : Wf h) {b : P4 → Prop} (w : dK h x el es l b) (hes : 0 < es) {new : List AV} (hnew' : new.length = m * es) (hsz : l.length + new.length ≤ 16777216) :
  ∃ x' h', jC el es m new x h = .ok x' h' ∧ dK h' x' el es (l ++ new) (fun q => b q ∨ ah q h = .none) ∧ Wf h' ∧ ∀ q, ah q h ≠ .none → ¬ b q → ah q h' = ah q h := by
 have hnl : new = [] → l ++ new = l := by rintro rfl; simp
 rcases w with ⟨rfl, hx⟩ | ⟨q, n, rfl, hl, ob, hb⟩
 ·cases m with
  | zero =>
   have : new = [] := List.length_eq_zero_iff.1 (by rw [hnew', Nat.zero_mul])
   subst this
   refine ⟨x, h, ?_, .inl ⟨rfl, hx⟩, W, fun _ _ _ => rfl⟩
   rcases hx with rfl | ⟨q, rfl⟩ <;> rfl
  | succ m =>
   have e : jC el es (m + 1) new x h = fB el false .plain new.length (mE new) h (fun i h => .ok (.cA i 0 (m + 1) es) h) := by
    have g : jq el es 0 (m + 1) .nil new h = fB el false .plain new.length (mE new) h (fun i h => .ok (.cA i 0 (m + 1) es) h) := by
     unfold jq oQ
     rw [show Nat.add 0 (m + 1) = m + 1 from Nat.zero_add _]
     rfl
    rcases hx with rfl | ⟨q, rfl⟩
    ·exact g
    ·have e2 : jC el es (m + 1) new (.slice q 0 0 0) h = (@Bool.rec (fun _ => RV) (jq el es 0 (m + 1) .nil new h) (jY q (Nat.add 0 (Nat.mul 0 es)) new h (fun h => .ok (.slice q 0 (Nat.add 0 (Nat.succ m)) 0) h)) (Nat.ble (0 + (m + 1)) 0)) := rfl
     have : Nat.ble (0 + (m + 1)) 0 = false := by rw [Nat.zero_add]; rfl
     rw [e2, this]
     exact g
   rw [e, xH W (by rw [(Gd.of new (by simpa using hsz)).1.max]; exact (Gd.of new (by simpa using hsz)).2)]
   refine ⟨_, _, rfl, .inr ⟨h.next, m + 1, rfl, by simpa using hnew', ?_, .inr W.fresh⟩, W.we _, fun q hq _ => Old.we W _ q hq⟩
   exact Ob.NX W (Gd.of new (by simpa using hsz)) (fun k hk => ir new (by simpa using hsz) k hk)
 ·cases m with
  | zero =>
   have : new = [] := List.length_eq_zero_iff.1 (by rw [hnew', Nat.zero_mul])
   subst this
   refine ⟨.cA q 0 n es, h, ?_, .inr ⟨q, n, rfl, by simpa using hl, by simpa using ob, .inl hb⟩, W, fun _ _ _ => rfl⟩
   show (@Bool.rec (fun _ => RV) (.err 81) (.ok (.cA q 0 n es) h) (Nat.beq es es)) = _
   rw [Nat.beq_refl]
  | succ m =>
   obtain ⟨c, e1, e2, e3⟩ := ob
   have hne : ah q h ≠ .none := by rw [e1]; simp
   have hsum : (n + (m + 1)) * es = l.length + new.length := by rw [Nat.add_mul, ← hl, ← hnew']
   have hpos : 0 < new.length := by rw [hnew']; exact Nat.mul_pos (by omega) hes
   have W2 : Wf (cB q .dead h) := W.cB hne
   have hnx : (cB q .dead h).next = h.next := rfl
   have hcf : Gd (bU new l.length (jV ((n + (m + 1)) * es) c)) ∧ l.length + new.length ≤ bw (bU new l.length (jV ((n + (m + 1)) * es) c)) := by
    rw [fy, hsum]
    obtain ⟨a1, a2⟩ := e2.1.fit (l.length + new.length) hsz
    exact ⟨a1.bU _ _, a2⟩
   have e : jC el es (m + 1) new (.cA q 0 n es) h = fB el false .plain (l ++ new).length (bU new l.length (jV ((n + (m + 1)) * es) c)) (cB q .dead h) (fun j h => .ok (.cA j 0 (n + (m + 1)) es) h) := by
    show (@Bool.rec (fun _ => RV) (.err 81) (CQ el es (m + 1) new q 0 n h) (Nat.beq es es)) = _
    rw [Nat.beq_refl]
    show (Obj.aN (ah q h) _ (.err 84) : RV) = _
    rw [e1]
    show (@Bool.rec (fun _ => RV) (@Bool.rec (fun _ => RV) (.err 83) (@Bool.rec (fun _ => RV) (@Bool.rec (fun _ => RV) (ly q el ((n + (m + 1)) * es) .plain (mE (List.append (bH (n * es) c 0) new)) (n + (m + 1)) es h)
     (ly q el ((n + (m + 1)) * es) .plain (bU new l.length (jV ((n + (m + 1)) * es) c)) (n + (m + 1)) es h) (Bool.and (Nat.beq 0 0) (Nat.beq (n * es) l.length))) (.err 81) (Bool.or false (Bool.not (Nat.beq el el)))) (Nat.ble (0 + n * es) l.length)) _ (Nat.ble (0 + (n + (m + 1)) * es) l.length)) = _
    have b1 : Nat.ble (0 + (n + (m + 1)) * es) l.length = false := by
     rw [← Bool.not_eq_true]
     intro g
     have := Nat.le_of_ble_eq_true g
     omega
    have b2 : Nat.ble (0 + n * es) l.length = true := Nat.ble_eq_true_of_le (by omega)
    have b3 : Nat.beq (n * es) l.length = true := by rw [hl]; exact Nat.beq_refl _
    have b4 : Nat.beq el el = true := Nat.beq_refl _
    rw [b1, b2, b3, b4]
    show ly q el ((n + (m + 1)) * es) .plain _ (n + (m + 1)) es h = _
    unfold ly
    rw [List.length_append, hsum]
   rw [e, xH W2 (by rw [hcf.1.max, List.length_append]; exact hcf.2)]
   refine ⟨_, _, rfl, .inr ⟨h.next, n + (m + 1), rfl, by rw [List.length_append, hsum], ?_, .inr W.fresh⟩, W2.we _, fun j hj hbj => ?_⟩
   ·refine Ob.NX W2 ⟨hcf.1, by rw [List.length_append]; exact hcf.2⟩ (fun k hk => ?_)
    rw [hsum]
    refine zZ l new ?_ e2.2 e3 k hk
    rw [hsum] at hcf
    exact hcf.2
   ·rw [iI, hnx, if_neg (fun g => by rw [g] at hj; exact hj W.fresh), aG, if_neg (fun g => by rw [g] at hbj; exact hbj hb)]
end
end
noncomputable section
section
variable {h h' : Hp} {v x y : AV} {q : P4} {o n m es el k : Nat} {l l' : List AV} {ex : Bool}
theorem ff (b : Ob h q el ex .plain l) (hk : k < l.length) (hv : v.one = true) : ∃ h', Seat.sT (.ptr q k) v h = .ok .undef h' ∧ Ob h' q el ex .plain (l.set k v) ∧ (∀ j, j ≠ q → ah j h' = ah j h) ∧ h'.next = h.next := by
 obtain ⟨c, e1, e2, e3⟩ := b
 refine ⟨cB q (.cells el l.length ex .plain (lh k v c)) h, ?_, ⟨lh k v c, by rw [aG, if_pos rfl, List.length_set], ⟨e2.1.lh _ _, by rw [iK, List.length_set]; exact e2.2⟩, fun j hj => ?_⟩, fun j hj => by rw [aG, if_neg hj], rfl⟩
 ·show (Obj.aN (ah q h) _ (.err 21) : RV) = _
  rw [e1]
  show (@Bool.rec (fun _ => RV) (.err 20) (.ok .undef (cB q (.cells el l.length ex .plain (lh k v c)) h)) (Bool.and (Nat.ble (k + 1) l.length) v.one)) = _
  rw [Nat.ble_eq_true_of_le hk, hv]
  rfl
 ·have hj' : j < l.length := by simpa using hj
  rw [qM c (by have := e2.2; omega) (by have := e2.2; omega), List.getElem_set]
  by_cases h1 : j = k
  ·rw [if_pos h1, if_pos h1.symm]
  ·rw [if_neg h1, if_neg (fun g => h1 g.symm)]
   exact e3 j hj'
theorem mz (b : Ob h q el ex .plain l) (hm : l'.length = m) (hk : k + m ≤ l.length) : ∃ h', Seat.CS m (.ptr q k) (.agg l') h = .ok .undef h' ∧ Ob h' q el ex .plain (l.take k ++ (l' ++ l.drop (k + m))) ∧ (∀ j, j ≠ q → ah j h' = ah j h) ∧ h'.next = h.next := by
 obtain ⟨c, e1, e2, e3⟩ := b
 have hlen : (l.take k ++ (l' ++ l.drop (k + m))).length = l.length := by simp; omega
 refine ⟨cB q (.cells el l.length ex .plain (bU l' k c)) h, ?_, ⟨bU l' k c, by rw [aG, if_pos rfl, hlen], ⟨e2.1.bU _ _, by rw [fy, hlen]; exact e2.2⟩, fun j hj => ?_⟩, fun j hj => by rw [aG, if_neg hj], rfl⟩
 ·show (Obj.aN (ah q h) _ (.err 27) : RV) = _
  rw [e1]
  show (@Bool.rec (fun _ => RV) (.err 24) (@Bool.rec (fun _ => RV) (.err 25) (.ok .undef (cB q (.cells el l.length ex .plain (bU l' k c)) h)) (Nat.beq l'.length m)) (Nat.ble (Nat.add k m) l.length)) = _
  rw [Nat.ble_eq_true_of_le (show Nat.add k m ≤ l.length from hk), hm, Nat.beq_refl]
 ·have hj' : j < l.length := by rw [hlen] at hj; exact hj
  have hr := e2.2
  rw [kH l' k c j (by omega) (by omega)]
  by_cases h1 : j < k
  ·rw [dif_neg (by omega), List.getElem_append_left (by simp; omega), List.getElem_take, e3 j hj']
  ·by_cases h2 : j < k + m
   ·rw [dif_pos (by omega), List.getElem_append_right (by simp; omega), List.getElem_append_left (by simp; omega)]
    congr 1
    simp; omega
   ·rw [dif_neg (by omega), List.getElem_append_right (by simp; omega), List.getElem_append_right (by simp; omega), List.getElem_drop, e3 j hj']
    congr 1
    simp; omega
theorem my (W : Wf h) {c : Cl} (g : Gd c) (hn : n ≤ bw c) : ∃ q h', Seat.Se el n c h = .ok (.ptr q 0) h' ∧ ah q h = .none ∧ Ob h' q el true .plain (bH n c 0) ∧ Old h h' ∧ Wf h' ∧ ∀ j, j ≠ q → ah j h' = ah j h := by
 have hl : (bH n c 0).length = n := bO n c 0
 have e : Seat.Se el n c h = fB el true .plain (bH n c 0).length c h nU := by rw [hl]; rfl
 obtain ⟨q, h', e1, e2, e3, e4, e5, e6⟩ := qG (el := el) (ex := true) (fl := .plain) W (bH n c 0) (c := c) ⟨g, by rw [hl]; exact hn⟩ (fun k hk => by rw [jy, Nat.zero_add]) nU
 exact ⟨q, h', by rw [e, e1]; rfl, e2, e3, e4, e5, e6⟩
theorem gg (W : Wf h) (hl : l.length ≤ 16777216) : ∃ q h', Seat.bx el (.agg l) h = .ok (.ptr q 0) h' ∧ ah q h = .none ∧ Ob h' q el true .plain l ∧ Old h h' ∧ Wf h' ∧ ∀ j, j ≠ q → ah j h' = ah j h := by
 have e : Seat.bx el (.agg l) h = fB el true .plain l.length (mE l) h nU := rfl
 obtain ⟨q, h', e1, r⟩ := qG (el := el) (ex := true) (fl := .plain) W l (c := mE l) (Gd.of l hl) (fun k hk => ir l hl k hk) nU
 exact ⟨q, h', by rw [e, e1]; rfl, r⟩
theorem JS (W : Wf h) (hv : v.one = true) (ha : v.asAgg = .no) : ∃ q h', Seat.bx el v h = .ok (.ptr q 0) h' ∧ ah q h = .none ∧ Ob h' q el true .plain [v] ∧ Old h h' ∧ Wf h' ∧ ∀ j, j ≠ q → ah j h' = ah j h := by
 have e : Seat.bx el v h = fB el true .plain [v].length (mE [v]) h nU := by
  show (OL.rec _ _ v.asAgg : RV) = _
  rw [ha]
  show (@Bool.rec (fun _ => RV) (.err 134) (FZ el [v] h) v.one) = _
  rw [hv]; rfl
 obtain ⟨q, h', e1, r⟩ := qG (el := el) (ex := true) (fl := .plain) W [v] (c := mE [v]) (Gd.of [v] (by simp)) (fun k hk => ir [v] (by simp) k hk) nU
 exact ⟨q, h', by rw [e, e1]; rfl, r⟩
theorem rL (W : Wf h) {z : List AV} {ps : List Part} (hf : fits ps .nil = true) (hl : fill ps .nil z = l) (hn : l.length ≤ 16777216) : ∃ q h', Seat.bs el es n z ps h = .ok (.slice q 0 n n) h' ∧ ah q h = .none ∧ Ob h' q el true .plain l ∧ Old h h' ∧ Wf h' ∧ ∀ j, j ≠ q → ah j h' = ah j h := by
 have e : Seat.bs el es n z ps h = fB el true .plain l.length (mE l) h (fun i h => .ok (.slice i 0 n n) h) := by
  show (@Bool.rec (fun _ => RV) (.err 133) (CG el n (fill ps .nil z) h) (fits ps .nil)) = _
  rw [hf, hl]; rfl
 obtain ⟨q, h', e1, r⟩ := qG (el := el) (ex := true) (fl := .plain) W l (c := mE l) (Gd.of l hn) (fun k hk => ir l hn k hk) (fun i h => .ok (.slice i 0 n n) h)
 exact ⟨q, h', by rw [e, e1], r⟩
theorem gA (s : FB y es m q o) (hes : 0 < es) (c : m ≠ 0 → Cs h q o l) (hl : l.length = m * es) (hm : m * es ≤ 4294967296) : eJ el es x y h = jC el es m l x h := by
 have key : (@Bool.rec (fun _ => RV) (.err 86) (elems es y h (fun new => jC el es m new x h) (.err 87)) (Nat.ble (Nat.mul m es) 4294967296)) = jC el es m l x h := by
  rw [Nat.ble_eq_true_of_le (show Nat.mul m es ≤ 4294967296 from hm)]
  exact pX s hes c hl _ _
 rcases s with ⟨cap, rfl⟩ | rfl | ⟨rfl, rfl⟩ <;> exact key
theorem dK.mono {b b' : P4 → Prop} (w : dK h x el es l b) (g : ∀ q, b q → b' q) : dK h x el es l b' := by
 rcases w with w | ⟨q, n, e1, e2, e3, e4⟩
 ·exact .inl w
 ·exact .inr ⟨q, n, e1, e2, e3, g q e4⟩
theorem dK.old {b : P4 → Prop} (w : dK h x el es l b) (O : ∀ q, b q → ah q h ≠ .none → ah q h' = ah q h) : dK h' x el es l b := by
 rcases w with w | ⟨q, n, e1, e2, e3, e4⟩
 ·exact .inl w
 ·exact .inr ⟨q, n, e1, e2, e3.eq (O q e4 e3.ne), e4⟩
theorem Old.none {h0 : Hp} (O : Old h0 h) (hq : ah q h = .none) : ah q h0 = .none := by
 cases g : ah q h0 with
 | none => rfl
 | _ =>
  have := O q (by rw [g]; simp)
  rw [hq, g] at this
  cases this
theorem Wf.of (W : Wf h) (hn : h'.next = h.next) (g : ∀ j, ah j h = .none → ah j h' = .none) : Wf h' := by
 obtain ⟨N, e, f⟩ := W
 exact ⟨N, by rw [hn, e], fun m hm => g _ (f m hm)⟩
end
end
noncomputable section
def KC (f : Nat → Nat → Obj) (g : Nat → Obj) (n : Nat) : T4 := Nat.rec (.mk .nil f) (fun j t => dt (P4.of j) (g j) t) n
theorem nR (f : Nat → Nat → Obj) (g : Nat → Obj) (b o : Nat) : ∀ n, cL (.ft b o) (KC f g n) = f b o
 | 0 => rfl
 | n + 1 => by
  have e : cL (.ft b o) (KC f g (n + 1)) = if P4.ft b o = P4.of n then g n else cL (.ft b o) (KC f g n) := dy (.ft b o) (P4.of n) (g n) (KC f g n)
  rw [e, if_neg (by intro e; cases e), nR f g b o n]
theorem wI (f : Nat → Nat → Obj) (g : Nat → Obj) (a b c d : H) : ∀ n, n ≤ 65536 → cL (.mk a b c d) (KC f g n) = if oL (.mk a b c d) < n then g (oL (.mk a b c d)) else .none
 | 0, _ => by
  rw [if_neg (by omega)]
  show O1.get d (O2.get c (O3.get b (O4.get a .nil))) = _
  rw [O4.get_nil, O3.get_nil, O2.get_nil, O1.get_nil]
 | m + 1, hm => by
  have e : cL (.mk a b c d) (KC f g (m + 1)) = if P4.mk a b c d = P4.of m then g m else cL (.mk a b c d) (KC f g m) := dy (.mk a b c d) (P4.of m) (g m) (KC f g m)
  rw [e, wI f g a b c d m (by omega)]
  by_cases h : P4.mk a b c d = P4.of m
  ·rw [if_pos h, h, xB (by omega), if_pos (by omega)]
  ·rw [if_neg h]
   have h1 : oL (.mk a b c d) ≠ m := fun e => h (by rw [← e, BV])
   by_cases h2 : oL (.mk a b c d) < m
   ·rw [if_pos h2, if_pos (by omega)]
   ·rw [if_neg h2, if_neg (by omega)]
theorem Qd (a b c d : H) : oL (.mk a b c d) < 65536 := by
 have ha := a.fQ
 have hb := b.fQ
 have hc := c.fQ
 have hd := d.fQ
 show a.nat * 4096 + b.nat * 256 + c.nat * 16 + d.nat < 65536
 omega
theorem Sn (g : P4 → Obj) : ∃ h : Hp, ∀ q, ah q h = g q := by
 obtain ⟨n, hn⟩ : ∃ n, n = 65536 := ⟨_, rfl⟩
 refine ⟨.mk (KC (fun b o => g (.ft b o)) (fun j => g (P4.of j)) n) (.ft 0 0), fun q => ?_⟩
 cases q with
 | ft b o => exact nR _ _ b o n
 | mk a b c d =>
  have e : ah (.mk a b c d) (.mk (KC (fun b o => g (.ft b o)) (fun j => g (P4.of j)) n) (.ft 0 0)) = _ := wI (fun b o => g (.ft b o)) (fun j => g (P4.of j)) a b c d n (by omega)
  rw [e, if_pos (by rw [hn]; exact Qd a b c d), BV]
variable {p : Pg} {h h' h1 : Hp} {r r' : A2} {v x y : AV} {q : P4} {o n m es el : Nat} {l : List AV} {s : RS} {k : AV → Hp → RS}
theorem MH {f : (AV → Hp → RS) → RS} : Seat.gD (.bool true) true f h k = f k := rfl
theorem NU {f : (AV → Hp → RS) → RS} : Seat.gD (.bool false) true f h k = k aH h := rfl
theorem JL {a b : AV} : gZ (.c (.bool true)) (.c a) (.c b) .nil h = .ok a h := rfl
theorem PY {a b : AV} : gZ (.c (.bool false)) (.c a) (.c b) .nil h = .ok b h := rfl
theorem MI (s : List Nat) (n : Nat) (hn : n ≤ s.length) : jo (.c (.str s)) .none (.some (.c (Seat.pi n))) .nil h = .ok (.str (s.take n)) h := by
 show (@Bool.rec (fun _ => RV) (.err 49) (@Bool.rec (fun _ => RV) (.err 49) (.ok (.str (List.take (Nat.sub n 0) (List.drop 0 s))) h) (Nat.ble n s.length)) (Nat.ble 0 n)) = _
 rw [Nat.ble_eq_true_of_le hn, Nat.ble_eq_true_of_le (Nat.zero_le n)]
 rfl
theorem NQ (W : Wf h) (sl : FB x es n q o) {i : Nat} (hi : i < n) (c : Cs h q (o + i * es) l) (hl : l.length = es) {c0 : Cl} (hc : Gd c0) (hr : es ≤ bw c0) :
  ∃ j h', (∀ K : AV → Hp → RS, Seat.X es x (.int .i64 (i : Int)) h (fun g h => Seat.M es g h fun k h => Seat.O el es c0 h fun l h => Seat.S es l k h fun _ h => K l h) = K (.ptr j 0) h') ∧ ah j h = .none ∧ Ob h' j el true .plain l ∧ Old h h' ∧ Wf h' ∧ ∀ k, k ≠ j → ah k h' = ah k h := by
 obtain ⟨j, h1, e1, e2, e3, e4, e5, e6⟩ := my (el := el) W hc hr
 have hg : (bH es c0 0).length = es := bO es c0 0
 obtain ⟨h2, f1, f2, f3, f4⟩ := mz (k := 0) (m := es) (l' := l) e3 hl (by omega)
 refine ⟨j, h2, fun K => ?_, e2, ?_, fun k hk => ?_, e5.of f4 fun k hk => ?_, fun k hk => ?_⟩
 ·rw [jk (wH sl hi), rI (gv c hl), rJ e1, uN f1]
 ·have : (bH es c0 0).take 0 ++ (l ++ (bH es c0 0).drop (0 + es)) = l := by
   rw [List.drop_of_length_le (by omega)]; simp
  rw [this] at f2; exact f2
 ·have : k ≠ j := fun g => by rw [g] at hk; exact hk e2
  rw [f3 k this, e4 k hk]
 ·by_cases g : k = j
  ·rw [g] at hk; exact absurd hk e3.ne
  ·rw [f3 k g]; exact hk
 ·rw [f3 k hk, e6 k hk]
def Os (p : Pg) (l : List GI) (r : A2) (h : Hp) (s : RS) : Prop := Ev fun m => eR p (exec p m) l r h = s
theorem Rn.ops {l : List GI} (e : Os p l r h s) : Rn p (.ops l) r h s := Ev.succ e
theorem Os.nil : Os p [] r h (.nm r h) := .all fun _ => rfl
variable {gs : List GI} {d : aQ} {aop : la} {f : Nat} {xs : List AO} {a b : H} {w : Bool} {i : AI}
theorem Os.step (e : aop.run r h = .ok v h') (g : Os p gs (bN d v r) h' s) : Os p (.o d (.op aop) :: gs) r h s := g.mono fun m g => by
 show CU d (eR p (exec p m) gs) r (aop.run r h) = s
 rw [e]; exact g
theorem Os.call (e : Cv p f (fY xs r) h v h') (g : Os p gs (bN d v r) h' s) : Os p (.o d (.call f xs) :: gs) r h s := e.Fa g fun m e g => by
 show stepT d (eR p (exec p m) gs) r (aw p (exec p m) f (fY xs r) h) = s
 rw [e]; exact g
theorem Os.on (hb : aq a b r = .bool w) (g : Os p (.o d i :: gs) r h s) : Os p (.g a b w d i :: gs) r h s := g.mono fun m g => by
 show AV.bn (gb w (aq a b r)) (iz d (eR p (exec p m) gs) r h i p (exec p m) w) (.err 210) = s
 rw [hb, ← g]
 cases w <;> rfl
theorem Os.off (hb : aq a b r = .bool (!w)) (g : Os p gs (bN d aH r) h s) : Os p (.g a b w d i :: gs) r h s := g.mono fun m g => by
 show AV.bn (gb w (aq a b r)) (iz d (eR p (exec p m) gs) r h i p (exec p m) w) (.err 210) = s
 rw [hb, ← g]
 cases w <;> rfl
end
noncomputable section
variable {p : Pg} {h h' : Hp} {r r' : A2} {s : RS} {body x : AC}
theorem Rn.to {k : Cf → Iv → (A2 → Hp → RS) → A2 → Hp → RS} (e : Ev fun m => ∀ K : A2 → Hp → RS, k (aw p (exec p m)) (aF p (exec p m)) K r h = K r' h') (g : Rn p x r' h' s) : Rn p (.ag k x) r h s :=
 .ag (e.Fa g fun _ e g => (e _).trans g)
theorem Rn.eh {k : Cf → Iv → (A2 → Hp → RS) → A2 → Hp → RS} (e : ∀ c i (K : A2 → Hp → RS), k c i K r h = K r' h') (g : Rn p x r' h' s) : Rn p (.ag k x) r h s := .to (.all fun _ K => e _ _ K) g
theorem Rn.aU {k : Cf → Iv → (A2 → Hp → RS) → A2 → Hp → RS} (e : ∀ c i (K : A2 → Hp → RS), k c i K r h = s) : Rn p (.ag k x) r h s := .ag (.all fun _ => e _ _ _)
theorem DT (n : Nat) {Inv : Nat → A2 → Hp → Prop} {S : RS → Prop} (step : ∀ i r h, i < n → Inv i r h → (∃ r' h', Rn p body r h (.nm r' h') ∧ Inv (i + 1) r' h') ∨ ∃ s, S s ∧ Rn p (.loop body) r h s)
  (fin : ∀ r h, Inv n r h → ∃ s, S s ∧ Rn p (.loop body) r h s) : ∀ k i r h, i + k = n → Inv i r h → ∃ s, S s ∧ Rn p (.loop body) r h s
 | 0, i, r, h, e, I => by
  rw [show i = n by omega] at I
  exact fin r h I
 | k + 1, i, r, h, e, I => by
  rcases step i r h (by omega) I with ⟨r', h', g, I⟩ | g
  ·obtain ⟨s, hs, g'⟩ := DT n step fin k (i + 1) r' h' (by omega) I
   exact ⟨s, hs, .loop g g'⟩
  ·exact g
theorem gz (n : Nat) {Inv : Nat → A2 → Hp → Prop} {l : Nat} {Re : A2} (step : ∀ i r h, i < n → Inv i r h → ∃ r' h', Rn p body r h (.nm r' h') ∧ Inv (i + 1) r' h')
  (fin : ∀ r h, Inv n r h → Rn p body r h (.ex l Re h)) (I : Inv 0 r h) : ∃ r' h', Inv n r' h' ∧ Rn p (.loop body) r h (.ex l Re h') := by
 obtain ⟨s, ⟨r', h', e, I⟩, g⟩ := DT (p := p) (body := body) n (Inv := Inv) (S := fun s => ∃ r' h', s = .ex l Re h' ∧ Inv n r' h') (fun i r h hi I => .inl (step i r h hi I)) (fun r h I => ⟨_, ⟨r, h, rfl, I⟩, .fh (fin r h I)⟩) n 0 r h (by omega) I
 exact ⟨r', h', I, e ▸ g⟩
end
noncomputable section
variable {p : Pg} {h h' h1 h1' h2 h2' g g' : Hp} {r r' : A2} {s : RS} {v v' x : AV} {hs : List Hp}
def Ds (p : Pg) (l : List DI) (r : A2) (h g : Hp) (hs : List Hp) (s : RS) : Prop := Ev fun m => dn p (exec p m) l r h g hs = s
theorem Rn.eH {l : List DI} (e : Ds p l r h h [] s) : Rn p (.eH l) r h s := Ev.succ e
theorem Ds.nil : Ds p [] r h g hs (.nm r h) := .all fun _ => rfl
variable {l : List DI} {d : aQ} {aop : la} {f : Nat} {xs : List AO} {a b : H} {w : Bool} {i : AI} {bk : Bk}
theorem sH : ∀ hs : List Hp, ei aop r v hs 0 = true
 | [] => rfl
 | _ :: _ => rfl
theorem Ds.rM (e : aop.run r g = .ok v g') (k : Ds p l (bN d v r) h g hs s) : Ds p (.mk (.rd 0) (.o d (.op aop)) :: l) r h g hs s := k.mono fun m k => by
 show wZ d aop 0 (dn p (exec p m) l) r h g hs (aop.run r g) = s
 rw [e]
 show (@Bool.rec (fun _ => RS) (.err 211) (dn p (exec p m) l (bN d v r) h g hs) (ei aop r v hs 0)) = s
 rw [sH]; exact k
theorem Ds.gB (e : aop.run r g = .ok v g') (e1 : aop.run r h1 = .ok v h1') (sv : same v v = true) (k : Ds p l (bN d v r) h g (h1 :: hs) s) : Ds p (.mk (.rd 1) (.o d (.op aop)) :: l) r h g (h1 :: hs) s := k.mono fun m k => by
 show wZ d aop 1 (dn p (exec p m) l) r h g (h1 :: hs) (aop.run r g) = s
 rw [e]
 show (@Bool.rec (fun _ => RS) (.err 211) (dn p (exec p m) l (bN d v r) h g (h1 :: hs)) (@RV.rec (fun _ => Bool) (fun v' _ => @Bool.rec (fun _ => Bool) false (ei aop r v hs 0) (same v v')) (fun _ => false) (aop.run r h1))) = s
 rw [e1]
 show (@Bool.rec (fun _ => RS) (.err 211) (dn p (exec p m) l (bN d v r) h g (h1 :: hs)) (@Bool.rec (fun _ => Bool) false (ei aop r v hs 0) (same v v))) = s
 rw [sv, sH]; exact k
theorem Ds.Tm (e : aop.run r g = .ok v g') (e1 : aop.run r h1 = .ok v h1') (e2 : aop.run r h2 = .ok v h2') (sv : same v v = true) (k : Ds p l (bN d v r) h g (h1 :: h2 :: hs) s) : Ds p (.mk (.rd 2) (.o d (.op aop)) :: l) r h g (h1 :: h2 :: hs) s := k.mono fun m k => by
 show wZ d aop 2 (dn p (exec p m) l) r h g (h1 :: h2 :: hs) (aop.run r g) = s
 rw [e]
 show (@Bool.rec (fun _ => RS) (.err 211) (dn p (exec p m) l (bN d v r) h g (h1 :: h2 :: hs)) (@RV.rec (fun _ => Bool) (fun v' _ => @Bool.rec (fun _ => Bool) false (@RV.rec (fun _ => Bool) (fun v' _ => @Bool.rec (fun _ => Bool) false (ei aop r v hs 0) (same v v')) (fun _ => false) (aop.run r h2)) (same v v')) (fun _ => false) (aop.run r h1))) = s
 rw [e1, e2]
 show (@Bool.rec (fun _ => RS) (.err 211) (dn p (exec p m) l (bN d v r) h g (h1 :: h2 :: hs)) (@Bool.rec (fun _ => Bool) false (@Bool.rec (fun _ => Bool) false (ei aop r v hs 0) (same v v)) (same v v))) = s
 rw [sv, sH]; exact k
theorem Ds.call (e : Cv p f (fY xs r) h v h') (k : Ds p l (bN d v r) h' h' (g :: hs) s) : Ds p (.mk .dL (.o d (.call f xs)) :: l) r h g hs s := e.Fa k fun m e k => by
 show mZ d (dn p (exec p m) l) r g hs (aw p (exec p m) f (fY xs r) h) = s
 rw [e]; exact k
theorem Ds.on (hb : aq a b r = .bool w) (k : Ds p (.mk bk (.o d i) :: l) r h g hs s) : Ds p (.mk bk (.g a b w d i) :: l) r h g hs s := k.mono fun m k => by
 show AV.bn (gb w (aq a b r)) (Bn bk d i (dn p (exec p m) l) r h g hs p (exec p m) w) (.err 212) = s
 rw [hb, ← k]
 cases w <;> rfl
theorem Ds.gX {n : Nat} (hb : aq a b r = .bool (!w)) (k : Ds p l (bN d aH r) h g hs s) : Ds p (.mk (.rd n) (.g a b w d i) :: l) r h g hs s := k.mono fun m k => by
 show AV.bn (gb w (aq a b r)) (Bn (.rd n) d i (dn p (exec p m) l) r h g hs p (exec p m) w) (.err 212) = s
 rw [hb, ← k]
 cases w <;> rfl
theorem Ds.So (hb : aq a b r = .bool (!w)) (k : Ds p l (bN d aH r) h h (g :: hs) s) : Ds p (.mk .dL (.g a b w d i) :: l) r h g hs s := k.mono fun m k => by
 show AV.bn (gb w (aq a b r)) (Bn .dL d i (dn p (exec p m) l) r h g hs p (exec p m) w) (.err 212) = s
 rw [hb, ← k]
 cases w <;> rfl
theorem uV (q : P4) : oP q q = true := jd.2 rfl
theorem FC (q : P4) (o : Nat) : ru (.ptr q o) (.ptr q o) = true := by
 show (Bool.and (oP q q) (Nat.beq o o)) = true
 rw [Nat.beq_refl, uV]; rfl
theorem FD (k : IntKind) (n : Int) : ru (.int k n) (.int k n) = true := by
 show (@Bool.rec (fun _ => Bool) false (sI n n) (ll k k)) = true
 rw [Ay, hE, decide_eq_true rfl]
theorem JT {es n : Nat} {q : P4} {o : Nat} (sl : FB x es n q o) : ru x x = true := by
 rcases sl with ⟨cap, rfl⟩ | rfl | ⟨rfl, _⟩
 ·show (Bool.and (oP q q) (Bool.and (Nat.beq o o) (Bool.and (Nat.beq n n) (Nat.beq cap cap)))) = true
  simp only [Nat.beq_refl, uV]; rfl
 ·show (Bool.and (oP q q) (Bool.and (Nat.beq o o) (Bool.and (Nat.beq n n) (Nat.beq es es)))) = true
  simp only [Nat.beq_refl, uV]; rfl
 ·rfl
theorem bm (q : P4) (o : Nat) : same (.ptr q o) (.ptr q o) = true := FC q o
theorem dj (k : IntKind) (n : Int) : same (.int k n) (.int k n) = true := FD k n
end
end Go.Am
namespace Go.Cod
abbrev Bs := List UInt8
def le : Nat → Nat → Bs
 | 0, _ => []
 | k + 1, n => UInt8.ofNat n :: le k (n / 256)
def un : Bs → Nat
 | [] => 0
 | b :: l => b.toNat + 256 * un l
theorem dr : ∀ k n, (le k n).length = k
 | 0, _ => rfl
 | k + 1, n => by simp [le, dr k]
theorem NY : ∀ k n, un (le k n) = n % 256 ^ k
 | 0, n => by simp [le, un, Nat.mod_one]
 | k + 1, n => by
  have h : (UInt8.ofNat n).toNat = n % 256 := by simp
  rw [le, un, NY k, h, Nat.pow_succ, Nat.mul_comm (256 ^ k) 256, Nat.mod_mul]
theorem JU : ∀ l, un l < 256 ^ l.length
 | [] => by simp [un]
 | b :: l => by
  have h := JU l
  have hb := b.toNat_lt
  simp only [un, List.length_cons, Nat.pow_succ]
  omega
def u64 (n : Int) : Nat := (n % 18446744073709551616).toNat
def s64 (n : Nat) : Int := if n < 9223372036854775808 then n else (n : Int) - 18446744073709551616
theorem MM {n : Int} (h0 : -9223372036854775808 ≤ n) (h1 : n ≤ 9223372036854775807) : s64 (u64 n) = n := by
 unfold s64 u64
 split <;> omega
def dM (n : Int) : Bs := le 8 (u64 n)
def text (s : Bs) : Bs := le 2 s.length ++ s
abbrev Rd := Option Bs
def take (k : Nat) : Rd → Bs × Rd
 | none => ([], none)
 | some l => if l.length < k then ([], none) else (l.take k, some (l.drop k))
def get (k : Nat) (r : Rd) : Nat × Rd := (un (take k r).1, (take k r).2)
def dF (r : Rd) : Int × Rd := (s64 (get 8 r).1, (get 8 r).2)
def pY (r : Rd) : Nat × Rd := get 1 r
theorem JV {a l : Bs} : take a.length (some (a ++ l)) = (a, some l) := by
 unfold take
 simp
theorem FE {a l : Bs} {k : Nat} (h : a.length = k) : take k (some (a ++ l)) = (a, some l) := h ▸ JV
theorem JW (k n : Nat) (l : Bs) (h : n < 256 ^ k) : get k (some (le k n ++ l)) = (n, some l) := by
 unfold get
 rw [FE (dr k n)]
 simp only [NY, Nat.mod_eq_of_lt h]
theorem iT {n : Int} (l : Bs) (h0 : -9223372036854775808 ≤ n) (h1 : n ≤ 9223372036854775807) : dF (some (dM n ++ l)) = (n, some l) := by
 unfold dF dM
 have hu : u64 n < 256 ^ 8 := by unfold u64; omega
 rw [JW 8 _ l hu]
 simp only [MM h0 h1]
theorem uW {n : Nat} (l : Bs) (h : n ≤ 255) : pY (some (le 1 n ++ l)) = (n, some l) := JW 1 n l (by omega)
structure TY where
 kind : Int
 n : Int
 s : Bs
deriving DecidableEq
structure TZ where
 table : Bs
 row : List TY
 remove : Bool
deriving DecidableEq
structure Tn where
 JX : Int
 seq : Int
 kind : Int
 name : Bs
 text : Bs
 Sp : List (Bs × Int)
 changes : List TZ
deriving DecidableEq
def dq (n : Int) : Prop := -9223372036854775808 ≤ n ∧ n ≤ 9223372036854775807
def Tp (v : TY) : Bs := dM v.kind ++ dM v.n ++ Cod.text v.s
def Tq (c : TZ) : Bs := Cod.text c.table ++ le 1 c.row.length ++ c.row.flatMap Tp ++ le 1 (if c.remove then 1 else 0)
def Tr (c : Bs × Int) : Bs := Cod.text c.1 ++ dM c.2
def enc (e : Tn) : Bs := dM e.JX ++ dM e.seq ++ dM e.kind ++ Cod.text e.name ++ Cod.text e.text ++ le 1 e.Sp.length ++ e.Sp.flatMap Tr ++ le 1 e.changes.length ++ e.changes.flatMap Tq
def many {α : Type} (f : Rd → α × Rd) : Nat → Rd → List α × Rd
 | 0, r => ([], r)
 | k + 1, r => let (a, r1) := f r; let (l, r2) := many f k r1; (a :: l, r2)
def fits (e : Tn) : Prop := ∀ c, c ∈ e.changes → ∀ v, v ∈ c.row → dq v.n
end Go.Cod
namespace Go.Cod
structure Ts where
 kind : Nat
 JX : Int
 node : Int
 n : Int
 name : Bs
 entry : Tn
deriving DecidableEq
def more (g : Option (Ts × Bs)) (k : Bs → List Ts) : List Ts := match g with
 | none => []
 | some (s, l') => s :: k l'
end Go.Cod
namespace Go.Cod
theorem bQ (n : Int) : (dM n).length = 8 := dr 8 _
end Go.Cod
namespace Go.Cod
def Ua {α : Type} (f : Rd → α × Rd) (g : α → Nat) : Prop := ∀ r a l', f r = (a, some l') → ∃ l, r = some l ∧ g a + l'.length = l.length
theorem Ua.at {α : Type} {f : Rd → α × Rd} {g : α → Nat} (c : Ua f g) {r : Rd} {l' : Bs} (h : (f r).2 = some l') : ∃ l, r = some l ∧ g (f r).1 + l'.length = l.length := c r (f r).1 l' (Prod.ext rfl h)
theorem AA (k : Nat) (r : Rd) : (take k r).1.length ≤ k := by
 unfold take
 cases r with
 | none => simp
 | some l =>
  simp only
  split
  ·simp
  ·simp; omega
theorem JY (k : Nat) (r : Rd) : (get k r).1 < 256 ^ k := by
 unfold get
 exact Nat.lt_of_lt_of_le (JU _) (Nat.pow_le_pow_right (by omega) (AA k r))
end Go.Cod
namespace Go.Am
open Go.Cod
noncomputable section
def AX {α : Type} (h : Hp) (es : Nat) (f : List AV → α → Prop) (x : AV) (xs : List α) : Prop :=
 ∃ q o, ((∃ cap, xs.length ≤ cap ∧ x = .slice q o xs.length cap) ∨ x = .cA q o xs.length es ∨ (x = .al ∧ xs = [])) ∧ ∀ i (hi : i < xs.length), ∃ l, l.length = es ∧ Cs h q (o + i * es) l ∧ f l xs[i]
abbrev Ub (s : Bs) : AV := .str (s.map UInt8.toNat)
abbrev i64 (n : Int) : AV := .int .i64 n
def mA (P : Program) (t : TypeId) : Option (List TypeId) := match P.underlying t with
 | some (.struct fs) => some (fs.toList.map (·.type))
 | _ => none
def qX (P : Program) (t : TypeId) : Option (TypeId × Nat) := match P.underlying t with
 | some (.slice e) => some (e, P.cellsOf e)
 | _ => none
section
variable {H : Type} {P : Program} {h : Hp} {rec : TypeId → List AV → DataW H → Prop} {t : TypeId} {cs : List AV} {d : DataW H}
inductive FN (rec : TypeId → List AV → DataW H → Prop) : List TypeId → List (List AV) → List (DataW H) → Prop
 | nil : FN rec [] [] []
 | cons (t : TypeId) (l : List AV) (p : DataW H) (ts : List TypeId) (ls : List (List AV)) (ps : List (DataW H)) : rec t l p → FN rec ts ls ps → FN rec (t :: ts) (l :: ls) (p :: ps)
theorem FN.of : ∀ {ts : List TypeId} {ls : List (List AV)} {ps : List (DataW H)}, ls.length = ts.length → ps.length = ts.length → (∀ (i : Nat) (t : TypeId), ts[i]? = some t → ∃ l p, ls[i]? = some l ∧ ps[i]? = some p ∧ rec t l p) → FN rec ts ls ps
 | [], [], [], _, _, _ => .nil
 | t :: ts, l :: ls, p :: ps, h1, h2, g => by
  obtain ⟨l', p', e1, e2, e3⟩ := g 0 t rfl
  simp at e1 e2
  subst e1 e2
  exact .cons t l p ts ls ps e3 (FN.of (by simpa using h1) (by simpa using h2) fun i u hu => by simpa using g (i + 1) u (by simpa using hu))
 | [], _ :: _, _, h1, _, _ => by simp at h1
 | [], [], _ :: _, _, h2, _ => by simp at h2
 | _ :: _, [], _, h1, _, _ => by simp at h1
 | _ :: _, _ :: _, [], _, h2, _ => by simp at h2
theorem FN.inv {ts : List TypeId} {ls : List (List AV)} {ps : List (DataW H)} (a : FN rec (t :: ts) ls ps) : ∃ l ls' p ps', ls = l :: ls' ∧ ps = p :: ps' ∧ rec t l p ∧ FN rec ts ls' ps' := by
 cases a with | cons _ l p _ ls ps h1 h2 => exact ⟨l, ls, p, ps, rfl, rfl, h1, h2⟩
theorem FN.none {ls : List (List AV)} {ps : List (DataW H)} (a : FN rec [] ls ps) : ls = [] ∧ ps = [] := by cases a; exact ⟨rfl, rfl⟩
theorem lg.struct {ts : List TypeId} (hs : mA P t = some ts) (r : lg P h rec t cs d) : ∃ ls ps, cs = ls.flatten ∧ d = .agg ps ∧ FN rec ts ls ps := by
 unfold mA at hs
 unfold lg at r
 split at hs
 ·rename_i fs hu
  rw [hu] at r
  obtain ⟨ps, ls, e1, e2, e3, e4, g⟩ := r
  cases hs
  refine ⟨ls, ps, e1, e2, .of (by simp [e4]) (by simp [e3]) fun i t ht => ?_⟩
  simp only [List.getElem?_map, Option.map_eq_some_iff] at ht
  obtain ⟨f, hf, rfl⟩ := ht
  obtain ⟨l, p, a, b, _, c⟩ := g i f (by simpa using hf)
  exact ⟨l, p, a, b, c⟩
 ·cases hs
theorem lg.int {k : IntKind} (hu : P.underlying t = some (.int k)) (r : lg P h rec t cs d) : ∃ z, cs = [.int k z] ∧ d = .lit (.int k z) ∧ (Lit.int k z).wf = true := by
 unfold lg at r
 rw [hu] at r
 exact r
theorem lg.str (hu : P.underlying t = some .string) (r : lg P h rec t cs d) : ∃ s : List UInt8, cs = [Ub s] ∧ d = .lit (.string s) := by
 unfold lg at r
 rw [hu] at r
 exact r
theorem lg.bool (hu : P.underlying t = some .bool) (r : lg P h rec t cs d) : ∃ b, cs = [.bool b] ∧ d = .lit (.bool b) := by
 unfold lg at r
 rw [hu] at r
 exact r
structure Av (bk : DataW H → Nat) (bkA : List (DataW H) → Nat) : Prop where
 str : ∀ b, bk (.lit (.string b)) = b.length + 1
 slice : ∀ e s, bk (.slice e s) = bkA e + bkA s + 1
 agg : ∀ p, bk (.agg p) = bkA p + 1
 nil : bkA [] = 0
 cons : ∀ d r, bkA (d :: r) = bk d + bkA r
 pos : ∀ d, 1 ≤ bk d
variable {bk : DataW H → Nat} {bkA : List (DataW H) → Nat}
theorem Av.len (K : Av bk bkA) : ∀ l : List (DataW H), l.length ≤ bkA l
 | [] => by simp
 | d :: l => by
  have := K.len l
  have := K.pos d
  rw [K.cons]
  simp
  omega
theorem Av.mem (K : Av bk bkA) {d : DataW H} : ∀ {l : List (DataW H)}, d ∈ l → bk d ≤ bkA l
 | e :: l, hm => by
  rw [K.cons]
  rcases List.mem_cons.1 hm with rfl | hm
  ·omega
  ·have := K.mem hm
   omega
theorem lg.slice (K : Av bk bkA) {α : Type} {f : List AV → α → Prop} {Q : α → Prop} {e : TypeId} {es B : Nat} (hs : qX P t = some (e, es)) (r : lg P h rec t cs d) (hB : bk d ≤ B)
  (g : ∀ l d, rec e l d → bk d ≤ B → ∃ a, f l a ∧ Q a) : ∃ x xs, cs = [x] ∧ AX h es f x xs ∧ xs.length ≤ B ∧ ∀ a, a ∈ xs → Q a := by
 unfold qX at hs
 unfold lg at r
 split at hs
 ·rename_i e' hu
  rw [hu] at r
  cases hs
  rcases r with ⟨rfl, rfl⟩ | ⟨p, cap, elems, rest, ls, rfl, hcap, rfl, hl, hr⟩
  ·exact ⟨.al, [], rfl, ⟨.ft 0 0, 0, .inr (.inr ⟨rfl, rfl⟩), fun i hi => by simp at hi⟩, by simp, fun a ha => by simp at ha⟩
  ·have hel := K.len elems
   rw [K.slice] at hB
   have mk : ∀ (k : Nat), k ≤ elems.length → ∃ xs : List α, xs.length = k ∧ (∀ i (hi : i < xs.length), ∃ l, l.length = P.cellsOf e ∧ Cs h p (i * P.cellsOf e) l ∧ f l xs[i]) ∧ ∀ a, a ∈ xs → Q a := by
    intro k
    induction k with
    | zero => exact fun _ => ⟨[], rfl, fun i hi => by simp at hi, fun a ha => by simp at ha⟩
    | succ k ih =>
     intro hk
     obtain ⟨xs, e1, e2, e3⟩ := ih (by omega)
     obtain ⟨c1, c2, c3⟩ := hr k (by omega) (by omega)
     have hm := K.mem (List.getElem_mem (show k < elems.length by omega))
     obtain ⟨a, ha, hq⟩ := g _ _ c3 (by omega)
     refine ⟨xs ++ [a], by simp [e1], fun i hi => ?_, fun b hb => ?_⟩
     ·by_cases hik : i < xs.length
      ·obtain ⟨l, l1, l2, l3⟩ := e2 i hik
       exact ⟨l, l1, l2, by rw [List.getElem_append_left hik]; exact l3⟩
      ·have : i = k := by simp [e1] at hi; omega
       subst this
       refine ⟨_, c2, c1, ?_⟩
       rw [List.getElem_append_right (by omega)]
       simp only [e1, Nat.sub_self, List.getElem_cons_zero]
       exact ha
     ·rcases List.mem_append.1 hb with hb | hb
      ·exact e3 b hb
      ·simp at hb
       rw [hb]; exact hq
   obtain ⟨xs, e1, e2, e3⟩ := mk elems.length (Nat.le_refl _)
   refine ⟨_, xs, rfl, ⟨p, 0, .inl ⟨cap, by omega, by rw [e1]⟩, fun i hi => ?_⟩, by omega, e3⟩
   obtain ⟨l, l1, l2, l3⟩ := e2 i hi
   exact ⟨l, l1, by rw [Nat.zero_add]; exact l2, l3⟩
 ·cases hs
theorem NV {z : Int} (h : (Lit.int .i64 z).wf = true) : dq z := by
 simp only [Lit.wf, Bool.and_eq_true, decide_eq_true_eq] at h
 exact ⟨h.1, h.2⟩
variable {tI tN tT tB tV tR tG tGs tC tCs tE tS tL : TypeId} {B n : Nat}
end
end
end Go.Am
namespace Go.Am.Seat
open Go.Cod
noncomputable section
structure Qe (p : Pg) : Prop where
 e12 : ar 137 p.fs = f137
 e13 : ar 138 p.fs = f138
 e15 : ar 71 p.fs = f71
 e16 : ar 145 p.fs = f145
 e18 : ar 140 p.fs = f140
 e27 : ar 126 p.fs = f126
 e28 : ar 179 p.fs = f179
 e29 : ar 78 p.fs = f78
def bc (s : Bs) : List AV := s.map fun b => AV.int .u8 (b.toNat : Int)
theorem bu (s : Bs) : (bc s).length = s.length := by simp [bc]
theorem yg (s t : Bs) : bc (s ++ t) = bc s ++ bc t := by simp [bc]
structure Wr (h0 h : Hp) (q : P4) (s : Bs) : Prop where
 old : Old h0 h
 wf : Wf h
 new : ah q h0 = .none
 ob : ∃ sv, sv.one = true ∧ Ob h q 206 true .plain [sv] ∧ dK h sv 5 1 (bc s) fun j => ah j h0 = .none ∧ j ≠ q
variable {p : Pg} {h0 h h' : Hp} {q : P4} {s : Bs}
theorem yc {x : AV} {el es : Nat} {l : List AV} {b : P4 → Prop} (w : dK h x el es l b) : x.one = true := by
 rcases w with ⟨_, rfl | ⟨q, rfl⟩⟩ | ⟨q, n, rfl, _⟩ <;> rfl
theorem Wr.app (w : Wr h0 h q s) {sv : AV} (ho : Ob h q 206 true .plain [sv]) (hw : dK h sv 5 1 (bc s) fun j => ah j h0 = .none ∧ j ≠ q) (t : Bs) (hl : s.length + t.length ≤ 16777216) :
  ∃ x h1 h2, jC 5 1 t.length (bc t) sv h = .ok x h1 ∧ sT (.ptr q 0) x h1 = .ok .undef h2 ∧ Wr h0 h2 q (s ++ t) := by
 obtain ⟨x, h1, e1, e2, e3, e4⟩ := gW (m := t.length) w.wf hw (by omega) (new := bc t) (by simp [bu]) (by simpa [bu] using hl)
 have hq : ah q h1 = ah q h := e4 q ho.ne (fun g => g.2 rfl)
 have ho1 := ho.eq hq
 obtain ⟨h2, f1, f2, f3, f4⟩ := ff (k := 0) ho1 (by simp) (yc e2)
 refine ⟨x, h1, h2, e1, f1, ⟨fun j hj => ?_, ?_, w.new, x, yc e2, f2, ?_⟩⟩
 ·have hjq : j ≠ q := fun g => by rw [g] at hj; exact hj w.new
  rw [f3 j hjq, e4 j (by rw [w.old j hj]; exact hj) (fun g => hj g.1), w.old j hj]
 ·exact e3.of f4 fun j hj => by
   by_cases g : j = q
   ·rw [g, hq] at hj
    exact absurd hj ho.ne
   ·rw [f3 j g]; exact hj
 ·rw [yg]
  refine (e2.mono fun j hj => ?_).old fun j hj _ => f3 j hj.2
  rcases hj with hj | hj
  ·exact hj
  ·exact ⟨w.old.none hj, fun g => by rw [g] at hj; exact ho.ne hj⟩
theorem Wr.up (w : Wr h0 h q s) (O : Old h h') (W : Wf h') : Wr h0 h' q s := by
 obtain ⟨sv, e1, e2, e3⟩ := w.ob
 exact ⟨w.old.trans O, W, w.new, sv, e1, e2.old O, e3.old fun j _ hj => O j hj⟩
theorem Wr.Qf (w : Wr h0 h q s) (t : Bs) {m : Nat} (hm : t.length = m) {z : List AV} {ps : List Part} (hf : fits ps .nil = true) (hz : fill ps .nil z = bc t) (hl : s.length + t.length ≤ 16777216) :
  ∃ sv l h1 x h2 h3, Seat.lD (.ptr q 0) h = .ok sv h ∧ Seat.bs 5 1 m z ps h = .ok l h1 ∧ eJ 5 1 sv l h1 = .ok x h2 ∧ sT (.ptr q 0) x h2 = .ok .undef h3 ∧ Wr h0 h3 q (s ++ t) := by
 subst hm
 obtain ⟨sv, e1, e2, e3⟩ := w.ob
 obtain ⟨j, h1, f1, f2, f3, f4, f5, f6⟩ := rL (el := 5) (es := 1) (n := t.length) w.wf hf hz (by simp [bu]; omega)
 have w1 := w.up f4 f5
 obtain ⟨x, h2, h3, g1, g2, g3⟩ := w1.app (e2.old f4) (e3.old fun j _ hj => f4 j hj) t hl
 refine ⟨sv, _, h1, x, h2, h3, JR (e2.cs (k := 0) (m := [sv]) (fun j hj => ⟨by omega, by simp⟩) (by simp)) (by simp), f1, ?_, g2, g3⟩
 rw [gA (m := t.length) (q := j) (o := 0) (l := bc t) (.inl ⟨_, rfl⟩) (by omega) (fun _ => f3.cs (k := 0) (fun j hj => ⟨by omega, by simp⟩) (by simp)) (by simp [bu]) (by omega)]
 exact g1
theorem w8 (n : Int) : IntKind.u8.wrap n = n % 256 := rfl
theorem w64 (n : Int) : IntKind.u64.wrap n = n % 18446744073709551616 := rfl
theorem gV (n : Int) (h : dq n) : IntKind.i64.wrap n = n := by
 unfold dq at h
 unfold IntKind.wrap
 dsimp only
 split
 ·rename_i g
  rw [Bool.and_eq_true, decide_eq_true_eq] at g
  have g1 : n % 18446744073709551616 ≥ 9223372036854775808 := g.2
  show n % 18446744073709551616 - 18446744073709551616 = n
  omega
 ·rename_i g
  rw [Bool.and_eq_true, decide_eq_true_eq] at g
  have g1 : ¬ n % 18446744073709551616 ≥ 9223372036854775808 := fun x => g ⟨rfl, x⟩
  show n % 18446744073709551616 = n
  omega
theorem Tt (n : Nat) : bK .shr (.int .u64 n) (.int .u64 (.ofNat 8)) h = .ok (.int .u64 (n / 256 : Nat)) h := rfl
theorem JZ (k : Nat) : ∀ {n : Nat} {h : Hp} {s : Bs} {c : AC} {r0 : A2}, (∀ s, Rn p (.ag lT .skip) (T19 (.ptr q 0) (.int .u64 n) (.int .i64 k)) h s → Rn p c r0 h s) → Wr h0 h q s → n < 18446744073709551616 → s.length + k ≤ 16777216 → k ≤ 1000 →
  ∃ h', Rn p (.sat (.ag k126_0 (.seq (.label 0) (.ag lT .skip))) c) r0 h (.ret T27 h') ∧ Wr h0 h' q (s ++ le k n) := by
 induction k with
 | zero =>
  intro n h s c r0 hc w _ _ _
  refine ⟨h, .sA (hc _ (.ag (.all fun m => ?_))), by simpa [le] using w⟩
  simp only [lT, K3, t19_0, t19_1, t19_6, i0]
  rw [gU, gT, if_pos (by rfl)]
 | succ k ih =>
  intro n h s c r0 hc w hn hs hk
  obtain ⟨sv, l, h1, x, h2, h3, e1, e2, e3, e4, e5⟩ := w.Qf [UInt8.ofNat n] (m := 1) rfl (z := [.int .u8 (.ofNat 0)]) (ps := [.mk 0 1 (.c (.int .u8 ((n : Int) % 256)))]) rfl (by simp [bc]; rfl) (by simp; omega)
  obtain ⟨h', f1, f2⟩ := ih (n := n / 256) (h := h3) (s := s ++ [UInt8.ofNat n]) (c := .seq .skip (.ag lT .skip)) (fun _ e => .seq .skip e) e5 (by omega) (by simp; omega) (by omega)
  refine ⟨h', .xF (i := 0) (hc _ (.ag (.all fun m => ?_))) rfl f1, by simpa [le] using f2⟩
  simp only [lT, K3, t19_0, t19_1, t19_6, i0, i1]
  rw [gU, gT, if_neg (by simp; omega), aA, av, aC e1, gC, w8, bS, aM e2, aM e3, aA, av, cw e4, Tt, bS, uT, gV _ (by unfold dq; simp; omega)]
  simp
section
variable {a b c d : AV}
theorem dh : y0 (aR [a] 0 .nil) = a := rfl
theorem bE : y0 (aR [a, b] 0 .nil) = a := rfl
theorem bF : y1 (aR [a, b] 0 .nil) = b := rfl
theorem ml : y0 (aR [a, b, c] 0 .nil) = a := rfl
theorem mq : y1 (aR [a, b, c] 0 .nil) = b := rfl
theorem mr : y2 (aR [a, b, c] 0 .nil) = c := rfl
end
theorem Ka (T : Qe p) (w : Wr h0 h q s) {n k : Nat} (hn : n < 18446744073709551616) (hs : s.length + k ≤ 16777216) (hk : k ≤ 1000) :
  ∃ h', Cv p 126 [.ptr q 0, .int .u64 n, .int .i64 k] h aH h' ∧ Wr h0 h' q (s ++ le k n) := by
 have hc : ∀ s, Rn p (.ag lT .skip) (T19 (.ptr q 0) (.int .u64 n) (.int .i64 k)) h s → Rn p (.ag k126_0 (.seq (.label 0) (.ag lT .skip))) (aR [.ptr q 0, .int .u64 n, .int .i64 k] 0 .nil) h s := by
  intro s e
  refine .ag (Ev.mono (Rn.seq (a := .label 0) .label e) fun m e => ?_)
  simp only [k126_0, K3, ml, mq, mr]
  exact e
 obtain ⟨h', e1, e2⟩ := JZ k hc w hn hs hk
 exact ⟨h', .of T.e27 (by simp) (.scope e1) rfl, e2⟩
theorem DU (T : Qe p) (w : Wr h0 h q s) {n : Int} (hs : s.length + 1 ≤ 16777216) :
  ∃ h', Cv p 138 [.ptr q 0, i64 n] h aH h' ∧ Wr h0 h' q (s ++ le 1 (u64 n)) := by
 obtain ⟨h', e1, e2⟩ := Ka T w (n := u64 n) (k := 1) (by unfold u64; omega) hs (by omega)
 refine ⟨h', .cS (r' := T27) (h1 := h') T.e13 (by simp) (.ag ?_) rfl, e2⟩
 refine Ev.mono e1 fun m e => ?_
 simp only [k138_0, K2, bE, bF, i1, i64]
 rw [gC, w64, bS]
 have g : n % 18446744073709551616 = (u64 n : Int) := by unfold u64; omega
 rw [g]
 exact aD e
theorem pZ (T : Qe p) (w : Wr h0 h q s) {n : Int} (hs : s.length + 8 ≤ 16777216) :
  ∃ h', Cv p 71 [.ptr q 0, i64 n] h aH h' ∧ Wr h0 h' q (s ++ dM n) := by
 obtain ⟨h', e1, e2⟩ := Ka T w (n := u64 n) (k := 8) (by unfold u64; omega) hs (by omega)
 refine ⟨h', .cS (r' := T27) (h1 := h') T.e15 (by simp) (.ag ?_) rfl, e2⟩
 refine Ev.mono e1 fun m e => ?_
 simp only [k71_0, K2, bE, bF, pi, i64]
 rw [gC, w64, bS]
 have g : n % 18446744073709551616 = (u64 n : Int) := by unfold u64; omega
 rw [g]
 exact aD e
end
open Go.Cod
noncomputable section
variable {p : Pg} {h0 h h' h1 : Hp} {q : P4} {s : Bs}
theorem Wr.base (w : Wr h0 h q s) (O : Old h h1) (W : Wf h1) : ∃ h0', Old h0 h0' ∧ Wr h0' h1 q s ∧ ∀ j, ah j h = .none → ah j h0' = ah j h1 := by
 classical
 obtain ⟨h0', g⟩ := Sn fun j => if ah j h = .none then ah j h1 else ah j h0
 have g1 : ∀ j, ah j h = .none → ah j h0' = ah j h1 := fun j hj => by rw [g, if_pos hj]
 have g2 : ∀ j, ah j h ≠ .none → ah j h0' = ah j h0 := fun j hj => by rw [g, if_neg hj]
 obtain ⟨sv, e1, e2, e3⟩ := w.ob
 refine ⟨h0', fun j hj => g2 j (by rw [w.old j hj]; exact hj), ⟨fun j hj => ?_, W, by rw [g2 q e2.ne]; exact w.new, sv, e1, e2.old O, ?_⟩, g1⟩
 ·by_cases hn : ah j h = .none
  ·rw [g1 j hn]
  ·rw [g2 j hn] at hj ⊢
   rw [O j hn, w.old j hj]
 ·rcases e3 with e3 | ⟨q', n, f1, f2, f3, f4⟩
  ·exact .inl e3
  ·exact .inr ⟨q', n, f1, f2, f3.old O, by rw [g2 q' f3.ne]; exact f4.1, f4.2⟩
theorem Wr.Ur {h0' : Hp} (w : Wr h0' h q s) (O : Old h0 h0') : Wr h0 h q s := by
 obtain ⟨sv, e1, e2, e3⟩ := w.ob
 exact ⟨O.trans w.old, w.wf, O.none w.new, sv, e1, e2, e3.mono fun j hj => ⟨O.none hj.1, hj.2⟩⟩
variable {α : Type} {es : Nat} {f : List AV → α → Prop} {x : AV} {xs : List α}
theorem AX.sl (r : AX h es f x xs) : ∃ q o, FB x es xs.length q o ∧ ∀ i (hi : i < xs.length), ∃ l, l.length = es ∧ Cs h q (o + i * es) l ∧ f l xs[i] := by
 obtain ⟨q, o, e, g⟩ := r
 refine ⟨q, o, ?_, g⟩
 rcases e with ⟨c, _, e⟩ | e | ⟨e, rfl⟩
 ·exact .inl ⟨c, e⟩
 ·exact .inr (.inl e)
 ·exact .inr (.inr ⟨e, rfl⟩)
theorem AX.up {f' : List AV → α → Prop} (r : AX h es f x xs) (O : Old h h') (g : ∀ l a, a ∈ xs → f l a → f' l a) : AX h' es f' x xs := by
 obtain ⟨q, o, e, k⟩ := r
 refine ⟨q, o, e, fun i hi => ?_⟩
 obtain ⟨l, a, b, c⟩ := k i hi
 exact ⟨l, a, b.old O, g _ _ (by simp) c⟩
theorem uX (s : Bs) : ∀ (k : List Nat → RV) (e : RV), dG (bc s) k e = k (s.map UInt8.toNat) := by
 induction s with
 | nil => intro k e; rfl
 | cons b s ih =>
  intro k e
  show dG (.int .u8 (b.toNat : Int) :: bc s) k e = _
  rw [pJ]
  show (@Bool.rec (fun _ => RV) e (dG (bc s) (fun s => k (b.toNat :: s)) e) (Nat.ble b.toNat 255)) = _
  have hb := b.toNat_lt
  rw [Nat.ble_eq_true_of_le (by omega), ih]
  rfl
def kR (h : Hp) (x : AV) (s : Bs) : Prop := ∃ q o n, FB x 1 n q o ∧ s.length = n ∧ (n ≠ 0 → Cs h q o (bc s))
theorem dK.NZ {b : P4 → Prop} (w : dK h x 5 1 (bc s) b) : kR h x s := by
 obtain ⟨q, n, e1, e2, e3⟩ := w.sl (by omega)
 exact ⟨q, 0, n, e1, by rw [bu] at e2; omega, e3⟩
theorem PX (r : kR h x s) : cK .KH x h = .ok (Ub s) h := by
 obtain ⟨q, o, n, e1, e2, e3⟩ := r
 show elems 1 x h (fun l => dG l (fun s => .ok (.str s) h) (.err 33)) (.err 34) = _
 rw [pX e1 (by omega) e3 (by rw [bu]; omega), uX]
theorem kR.len (r : kR h x s) : Am.len x h = .ok (.int .i64 (s.length : Int)) h := by
 obtain ⟨q, o, n, e1, e2, e3⟩ := r
 rw [yf e1, e2]
theorem kR.up (r : kR h x s) (O : Old h h') : kR h' x s := by
 obtain ⟨q, o, n, e1, e2, e3⟩ := r
 exact ⟨q, o, n, e1, e2, fun g => (e3 g).old O⟩
theorem qZ (T : Qe p) (W : Wf h) : ∃ q h', Cv p 137 [] h (.ptr q 0) h' ∧ Wr h h' q [] ∧ Old h h' := by
 obtain ⟨q, h1, e1, e2, e3, e4, e5, e6⟩ := gg (el := 206) (l := [.al]) W (by simp)
 refine ⟨q, h1, .of (r' := T14 (.ptr q 0)) (h1 := h1) T.e12 (by simp) (.ag (.all fun m => ?_)) rfl, ⟨e4, e5, e2, .al, rfl, e3, .inl ⟨rfl, .inl rfl⟩⟩, e4⟩
 simp only [k137_0]
 rw [jl (v := .agg [.al]) (h' := h) rfl, fU e1]
theorem Kb (e29 : ar 78 p.fs = f78) (W : Wf h) {b : P4 → Prop} (w : dK h x 5 1 (bc s) b) (hl : s.length ≤ 16777216) : ∃ v h', Cv p 78 [x] h v h' ∧ dK h' v 5 1 (bc s) (fun j => ah j h = .none) ∧ Old h h' ∧ Wf h' := by
 by_cases hx : x = .al
 ·subst hx
  refine ⟨.al, h, .of (r' := T29 .al) (h1 := h) e29 (by simp) (.ag (.all fun m => ?_)) rfl, ?_, .refl h, W⟩
  ·have hn : bK (.gE .s) .al .al h = .ok (.bool true) h := rfl
   simp only [wv, K1, dh]
   rw [aM hn, dY]
  ·rcases w with ⟨w, _⟩ | ⟨q, n, g, _⟩
   ·exact .inl ⟨w, .inl rfl⟩
   ·cases g
 ·have hn : bK (.gE .s) x .al h = .ok (.bool false) h := by
   rcases w with ⟨_, rfl | ⟨q, rfl⟩⟩ | ⟨q, n, rfl, _⟩
   ·exact absurd rfl hx
   ·rfl
   ·rfl
  obtain ⟨j, h1, f1, f2, f3, f4, f5, f6⟩ := rL (el := 5) (es := 1) (n := 0) (z := []) (ps := []) (l := []) W rfl rfl (by simp)
  obtain ⟨q, o, n, g1, g2, g3⟩ := kR.up (dK.NZ w) f4
  obtain ⟨v, h2, c1, c2, c3, c4⟩ := gW (m := n) (es := 1) f5 (x := .slice j 0 0 0) (b := fun _ => False) (el := 5) (l := []) (.inl ⟨rfl, .inr ⟨j, rfl⟩⟩) (by omega) (new := bc s) (by rw [bu]; omega) (by simp [bu]; omega)
  refine ⟨v, h2, .of (r' := T29 v) (h1 := h2) e29 (by simp) (.ag (.all fun m => ?_)) rfl, ?_, fun k hk => ?_, c3⟩
  ·simp only [wv, K1, dh]
   rw [aM hn, aY, aM f1, aM (by rw [gA g1 (by omega) g3 (by rw [bu]; omega) (by omega)]; exact c1)]
  ·refine dK.mono c2 fun k hk => ?_
   rcases hk with hk | hk
   ·exact hk.elim
   ·exact f4.none hk
  ·have := f4 k hk
   rw [c4 k (by rw [this]; exact hk) (fun g => g), this]
theorem yh (T : Qe p) (e29 : ar 78 p.fs = f78) (w : Wr h0 h q s) (hl : s.length ≤ 16777216) : ∃ v h', Cv p 140 [.ptr q 0] h v h' ∧ dK h' v 5 1 (bc s) (fun j => ah j h0 = .none) ∧ Old h0 h' ∧ Wf h' := by
 obtain ⟨sv, e1, e2, e3⟩ := w.ob
 obtain ⟨v, h', f1, f2, f3, f4⟩ := Kb (p := p) e29 w.wf e3 hl
 refine ⟨v, h', .of (r' := T29 v) (h1 := h') T.e18 (by simp) (.ag (f1.mono fun m e => ?_)) rfl, dK.mono f2 fun j hj => w.old.none hj, w.old.trans f3, f4⟩
 simp only [k140_0, K1, dh]
 rw [aA, av, aC (JR (e2.cs (k := 0) (m := [sv]) (fun j hj => ⟨by omega, by simp⟩) (by simp)) (by simp))]
 exact (aD e)
end
open Go.Cod
noncomputable section
variable {p : Pg} {h0 h h' h1 : Hp} {q : P4} {s : Bs} {x y : AV}
theorem az {h : Hp} {q : P4} {o : Nat} {l : List AV} (c : Cs h q o l) (k : Nat) {v : AV} (e : l[k]? = some v) : lD (.ptr q (o + k)) h = .ok v h := by
 obtain ⟨hk, e⟩ := List.getElem?_eq_some_iff.1 e
 rw [JQ c k hk, e]
theorem rf {h : Hp} {q : P4} {o : Nat} {l : List AV} (c : Cs h q o l) {v : AV} (e : l[0]? = some v) : lD (.ptr q o) h = .ok v h := az c 0 e
end
open Go.Cod
noncomputable section
variable {p : Pg} {h0 h h' h1 : Hp} {q : P4} {s : Bs} {x y : AV}
theorem Qg (W : Wf h) {el : Nat} {v z : AV} (hv : v.one = true) (hc : AV.cs v = [v]) (ha : v.asAgg = .no) : ∃ j h', Seat.bs el 1 1 [z] [.mk 0 1 (.c v)] h = .ok (.slice j 0 1 1) h' ∧ Cs h' j 0 [v] ∧ Old h h' ∧ Wf h' := by
 obtain ⟨j, h1, f1, f2, f3, f4, f5, f6⟩ := rL (el := el) (es := 1) (n := 1) (z := [z]) (ps := [.mk 0 1 (.c v)]) (l := [v]) W (by
  show (OL.rec (@Bool.rec (fun _ => Bool) false true (Bool.and v.one (Nat.beq 1 1))) (fun l => @Bool.rec (fun _ => Bool) false true (Nat.beq l.length 1)) v.asAgg : Bool) = true
  rw [ha, hv]; rfl) (by show ny (AV.cs v) 0 [z] = [v]; rw [hc]; rfl) (by simp)
 exact ⟨j, h1, f1, f3.cs (k := 0) (fun j hj => ⟨by omega, by simp⟩) (by simp), f4, f5⟩
end
open Go.Cod
noncomputable section
variable {p : Pg} {h0 h h' h1 : Hp} {q j : P4} {s : Bs} {x y a b d : AV}
def bh : AC → AC
 | .ag _ x => x
 | .seq _ x => x
 | c => c
end
open Go.Cod
noncomputable section
variable {p : Pg} {h0 h h' h1 : Hp} {q j : P4} {s : Bs} {x y a b d : AV}
theorem AX.len {α : Type} {es : Nat} {f : List AV → α → Prop} {x : AV} {xs : List α} (r : AX h es f x xs) : Am.len x h = .ok (.int .i64 (xs.length : Int)) h := by
 obtain ⟨q, o, sl, _⟩ := AX.sl r
 exact yf sl
def fst : AC → AC
 | .seq a _ => a
 | .ag _ a => a
 | .block _ a => a
 | .loop a => a
 | c => c
def opsL : AC → List GI
 | .ops l => l
 | _ => []
end
open Go.Cod
noncomputable section
variable {p : Pg} {h0 h h' h1 : Hp} {q j : P4} {s : Bs} {x y a b d : AV}
theorem Ob.c0 {el : Nat} {ex : Bool} {fl : Fl} {l : List AV} (o : Ob h j el ex fl l) : Cs h j 0 l := o.cs (k := 0) (m := l) (fun k hk => ⟨by omega, by simp⟩) (by simp)
theorem eF {h : Hp} {k : AV → Hp → RS} {i n : Nat} (hi : i < n) (hn : n < 9223372036854775807) : Seat.D (i64 (i : Int)) i1 h k = k (i64 ((i + 1 : Nat) : Int)) h := by
 rw [hS, gV _ (by unfold dq; simp; omega)]; rfl
end
open Go.Cod
noncomputable section
variable {p : Pg} {h0 h h' h1 : Hp} {q j : P4} {s : Bs} {x y a b d e f : AV}
theorem Wr.copy (w : Wr h0 h q s) {es n el o i : Nat} {x : AV} {q' : P4} {l : List AV} (sl : FB x es n q' o) (hi : i < n) (c : Cs h0 q' (o + i * es) l) (hl : l.length = es) {c0 : Cl} (hc : Gd c0) (hr : es ≤ bw c0) :
  ∃ j h1 h0', (∀ K : AV → Hp → RS, Seat.X es x (.int .i64 (i : Int)) h (fun g h => Seat.M es g h fun k h => Seat.O el es c0 h fun l h => Seat.S es l k h fun _ h => K l h) = K (.ptr j 0) h1) ∧ Old h0 h0' ∧ Wr h0' h1 q s ∧ Cs h0' j 0 l := by
 obtain ⟨j, h1, c1, c2, c3, c4, c5, _⟩ := NQ (el := el) w.wf sl hi (c.old w.old) hl hc hr
 obtain ⟨h0', g1, g2, g3⟩ := w.base c4 c5
 exact ⟨j, h1, h0', c1, g1, g2, (Ob.c0 c3).eq (g3 j c2)⟩
end
open Go.Cod
noncomputable section
variable {p : Pg} {h0 h h' h1 h2 : Hp} {q j : P4} {s full : Bs} {x y sv : AV} {r : Rd}
def Fr (q : P4) (h h' : Hp) : Prop := ∀ j, j ≠ q → ah j h ≠ .none → ah j h' = ah j h
theorem Fr.refl (q : P4) (h : Hp) : Fr q h h := fun _ _ _ => rfl
theorem Fr.trans (a : Fr q h h1) (b : Fr q h1 h2) : Fr q h h2 := fun j hq hj => (b j hq (by rw [a j hq hj]; exact hj)).trans (a j hq hj)
theorem Fr.of (O : Old h h') : Fr q h h' := fun j _ hj => O j hj
theorem Fr.old (F : Fr q h h') (O : Old h0 h) (hq : ah q h0 = .none) : Old h0 h' := fun j hj => by
 have e := O j hj
 rw [F j (fun g => by rw [g] at hj; exact hj hq) (by rw [e]; exact hj), e]
theorem Fr.ob (F : Fr q h h') {el : Nat} {ex : Bool} {fl : Fl} {l : List AV} (o : Ob h j el ex fl l) (hj : j ≠ q) : Ob h' j el ex fl l := o.eq (F j hj o.ne)
theorem _root_.Go.Am.Ob.apart {el el' : Nat} {ex ex' : Bool} {fl fl' : Fl} {l l' : List AV} (o : Ob h q el ex fl l) (o' : Ob h j el' ex' fl' l') (g : el ≠ el' ∨ ex ≠ ex') : q ≠ j := by
 rintro rfl
 obtain ⟨c, e, _⟩ := o
 obtain ⟨c', e', _⟩ := o'
 rw [e] at e'
 obtain ⟨a1, _, a2, _⟩ := Obj.cells.inj e'
 rcases g with g | g
 ·exact g a1
 ·exact g a2
theorem Fr.own (F : Fr q h h') {el es el' : Nat} {ex' : Bool} {fl' : Fl} {l l' : List AV} {b : P4 → Prop} (w : dK h x el es l b) (o : Ob h q el' ex' fl' l') (g : el' ≠ el ∨ ex' ≠ false) : dK h' x el es l b := by
 rcases w with w | ⟨k, n, e1, e2, e3, e4⟩
 ·exact .inl w
 ·exact .inr ⟨k, n, e1, e2, F.ob e3 (fun e => (o.apart e3 g) e.symm), e4⟩
structure Ct (h : Hp) (q : P4) (sv : AV) (full : Bs) (a : Nat) (why wh : Int) : Prop where
 wf : Wf h
 ob : Ob h q 149 true .plain [sv, i64 a, i64 why, i64 wh]
 own : dK h sv 5 1 (bc full) fun _ => True
 len : full.length ≤ 16777216
 AB : a ≤ full.length
def qg (h : Hp) (q : P4) (r : Rd) : Prop := ∃ sv full a why wh, Ct h q sv full a why wh ∧ r = if why = 0 then some (full.drop a) else none
theorem Ct.c {a : Nat} {why wh : Int} (w : Ct h q sv full a why wh) : Cs h q 0 [sv, i64 a, i64 why, i64 wh] := Ob.c0 w.ob
theorem Ct.set {a a' : Nat} {why wh why' wh' : Int} (w : Ct h q sv full a why wh) (o : Ob h' q 149 true .plain [sv, i64 a', i64 why', i64 wh']) (g : ∀ j, j ≠ q → ah j h' = ah j h) (hn : h'.next = h.next) (ha : a' ≤ full.length) :
  Ct h' q sv full a' why' wh' where
 wf := w.wf.of hn fun j hj => by rw [g j (fun e => by rw [e] at hj; exact w.ob.ne hj)]; exact hj
 ob := o
 own := Fr.own (fun j hj _ => g j hj) w.own w.ob (.inr (by simp))
 len := w.len
 AB := ha
theorem qg.wf (w : qg h q r) : Wf h := let ⟨_, _, _, _, _, w, _⟩ := w; w.wf
theorem qg.ne (w : qg h q r) : ah q h ≠ .none := let ⟨_, _, _, _, _, w, _⟩ := w; w.ob.ne
theorem qg.apart (w : qg h q r) {el : Nat} {ex : Bool} {fl : Fl} {l : List AV} (o : Ob h j el ex fl l) (g : el ≠ 149) : j ≠ q := let ⟨_, _, _, _, _, w, _⟩ := w; o.apart w.ob (.inl g)
theorem qg.up (w : qg h q r) (O : Old h h') (W : Wf h') : qg h' q r := let ⟨sv, full, a, why, wh, w, e⟩ := w; ⟨sv, full, a, why, wh, ⟨W, w.ob.old O, w.own.old fun j _ hj => O j hj, w.len, w.AB⟩, e⟩
theorem qg.fr (w : qg h q r) {el : Nat} {fl : Fl} {l : List AV} (o : Ob h j el true fl l) (hj : el ≠ 149) (F : Fr j h h') (W : Wf h') : qg h' q r :=
 let ⟨sv, full, a, why, wh, w, e⟩ := w
 ⟨sv, full, a, why, wh, ⟨W, F.ob w.ob (fun g => o.apart w.ob (.inl hj) g.symm), F.own w.own o (.inr (by simp)), w.len, w.AB⟩, e⟩
theorem Sq {a : Int} (ha : a ≠ 0) : gF (i64 a) i0 h = .ok (.bool true) h := by
 have := Az (h := h) .i64 a (Int.ofNat 0)
 rw [decide_eq_false (show ¬ a = Int.ofNat 0 from ha)] at this
 exact this
theorem Ss {a : Int} (ha : a = 0) : gF (i64 a) i0 h = .ok (.bool false) h := by subst ha; rfl
theorem FF (e99 : ar 175 p.fs = f175) (w : qg h q r) {e n : Int} (he : e ≠ 0) : ∃ h', Cv p 175 [.ptr q 0, i64 e, i64 n] h aH h' ∧ qg h' q none ∧ Fr q h h' := by
 obtain ⟨sv, full, a, why, wh, w, hr⟩ := w
 by_cases hw : why = 0
 ·obtain ⟨h1, g1, g2, g3, g4⟩ := ff (k := 2) (v := i64 e) w.ob (by simp) rfl
  obtain ⟨h2, k1, k2, k3, k4⟩ := ff (k := 3) (v := i64 n) g2 (by simp) rfl
  refine ⟨h2, .cS (r' := T27) (h1 := h2) e99 (by simp) (.ag (.all fun m => ?_)) rfl, ⟨sv, full, a, e, n, w.set k2 (fun j hj => by rw [k3 j hj, g3 j hj]) (by rw [k4, g4]) w.AB, (if_neg he).symm⟩, fun j hj _ => by rw [k3 j hj, g3 j hj]⟩
  simp only [k175_0, K3, ml, mq, mr]
  (rw [aA, av, aC (az w.c 2 rfl), gU, gT, if_pos (show why = Int.ofNat 0 from hw), aA, av, cw g1, aA, av, cw k1]; try rfl)
 ·refine ⟨h, .cS (r' := T27) (h1 := h) e99 (by simp) (.ag (.all fun m => ?_)) rfl, ⟨sv, full, a, why, wh, w, (if_neg hw).symm⟩, .refl q h⟩
  simp only [k175_0, K3, ml, mq, mr]
  (rw [aA, av, aC (az w.c 2 rfl), gU, gT, if_neg (show ¬ why = Int.ofNat 0 from hw)]; try rfl)
def Su (x : AV) (a k : Nat) : AV := match x with
 | .cA q _ _ _ => .cA q a k 1
 | y => y
theorem Qh {b : P4 → Prop} (w : dK h x 5 1 (bc s) b) {a k : Nat} (hk : a + k ≤ s.length) : cY 1 (.c x) (.some (.c (i64 a))) (.some (.c (i64 (a + k : Nat)))) .none .nil h = .ok (Su x a k) h ∧ kR h (Su x a k) ((s.drop a).take k) := by
 rcases w with ⟨e, hv⟩ | ⟨k', n, rfl, e2, e3, _⟩
 ·have hs : s = [] := by cases s with | nil => rfl | cons _ _ => simp [bc] at e
  subst hs
  have h1 : a = 0 := by simp at hk; omega
  have h2 : k = 0 := by simp at hk; omega
  subst h1 h2
  rcases hv with rfl | ⟨z, rfl⟩
  ·exact ⟨rfl, .ft 0 0, 0, 0, .inr (.inr ⟨rfl, rfl⟩), rfl, fun g => absurd rfl g⟩
  ·exact ⟨rfl, z, 0, 0, .inl ⟨0, rfl⟩, rfl, fun g => absurd rfl g⟩
 ·rw [bu, Nat.mul_one] at e2
  have hb := e3
  obtain ⟨c, f1, f2, f3⟩ := hb
  refine ⟨?_, k', a, k, .inr (.inl rfl), by simp; omega, fun _ => e3.cs (k := a) (m := bc ((s.drop a).take k)) (fun i hi => ?_) ?_⟩
  ·show (@Bool.rec (fun _ => RV) (.err 42) (Obj.aN (ah k' h) (fun _ m _ _ _ => @Bool.rec (fun _ => RV) (.err 45) (.ok (.cA k' (Nat.add 0 (Nat.mul a 1)) (Nat.sub (a + k) a) 1) h) (Nat.ble (Nat.add 0 (Nat.mul (a + k) 1)) m)) (.err 46)) (Nat.ble a (a + k))) = _
   rw [Nat.ble_eq_true_of_le (Nat.le_add_right a k), f1]
   show (@Bool.rec (fun _ => RV) (.err 45) (.ok (.cA k' (0 + a * 1) (a + k - a) 1) h) (Nat.ble (0 + (a + k) * 1) (bc s).length)) = _
   rw [Nat.ble_eq_true_of_le (show 0 + (a + k) * 1 ≤ (bc s).length by rw [bu]; omega), Nat.mul_one, Nat.zero_add, Nat.add_sub_cancel_left]
   rfl
  ·have hi' : i < k ∧ i < s.length - a := by simpa [bc, Nat.lt_min] using hi
   refine ⟨by rw [bu]; omega, ?_⟩
   simp [bc]
  ·rw [bu, bu]
   simp
   omega
theorem MN {b : P4 → Prop} (w : dK h x 5 1 (bc s) b) {a k : Nat} (hk : a + k ≤ s.length) : ∃ v, cY 1 (.c x) (.some (.c (i64 a))) (.some (.c (i64 (a + k : Nat)))) .none .nil h = .ok v h ∧ kR h v ((s.drop a).take k) := ⟨_, Qh w hk⟩
theorem Sv {a b : Nat} (hb : b ≤ a) (ha : a ≤ 9223372036854775807) : hR (i64 a) (i64 b) h = .ok (i64 ((a - b : Nat) : Int)) h := by
 rw [qY, gV _ (by unfold dq; omega), show (a : Int) - (b : Int) = ((a - b : Nat) : Int) by omega]
theorem Uc (a b : Int) : fj (i64 a) (i64 b) h = .ok (.bool (decide (b < a))) h := rH _ _ _
theorem MO (e97 : ar 148 p.fs = f148) (e99 : ar 175 p.fs = f175) (w : qg h q r) {k : Nat} (hk : k ≤ 16777216) : ∃ v h', Cv p 148 [.ptr q 0, i64 k] h v h' ∧ kR h' v (Cod.take k r).1 ∧ qg h' q (Cod.take k r).2 ∧ Fr q h h' := by
 obtain ⟨sv, full, a, why, wh, w, hr⟩ := w
 have n0 : nC (.ptr q 0) h = .ok (.ptr q 0) h := rfl
 have a0 : fA 0 (.ptr q 0) h = .ok (.ptr q 0) h := rfl
 have a1 : fA 1 (.ptr q 0) h = .ok (.ptr q 1) h := rfl
 have l0 : lD (.ptr q 0) h = .ok sv h := rf w.c rfl
 have l1 : lD (.ptr q 1) h = .ok (i64 a) h := az w.c 1 rfl
 have hfl := w.len
 have hal := w.AB
 by_cases hw : why = 0
 ·rw [if_pos hw] at hr
  have z0 : ∀ c i (K : A2 → Hp → RS), k148_0 c i K (aR [.ptr q 0, i64 k] 0 .nil) h = K (T11 (.ptr q 0) (i64 k)) h := fun c i K => by
   simp only [k148_0, K2, bE, bF]
   (rw [aA, av, aC (az w.c 2 rfl), aM (Ss hw), aY]; try rfl)
  have hs := Sv (h := h) hal (by omega)
  by_cases hl : full.length - a < k
  ·obtain ⟨h1, c1, w1, F1⟩ := FF (p := p) e99 ⟨sv, full, a, why, wh, w, rfl⟩ (e := 10) (n := full.length) (by omega)
   have c1 : Cv p 175 [.ptr q 0, pi 10, i64 full.length] h aH h1 := c1
   have ht : Cod.take k r = ([], none) := by subst hr; unfold Cod.take; simp only [List.length_drop]; rw [if_pos hl]
   rw [ht]
   refine ⟨.al, h1, .of (r' := T1 .al) (h1 := h1) e97 (by simp) (.eh z0 (.ag (c1.mono fun m g1 => ?_))) rfl, ⟨.ft 0 0, 0, 0, .inr (.inr ⟨rfl, rfl⟩), rfl, fun g => absurd rfl g⟩, w1, F1⟩
   simp only [k148_1, K2, iQ, iR]
   (rw [ai n0, ai a0, ai l0, ai (kR.len (dK.NZ w.own)), ai n0, ai a1, ai l1, ai hs, ai (Uc _ _), gT, if_pos (by omega), aA, av, aC (rf w.c rfl), cU (kR.len (dK.NZ w.own)), aD g1]; try rfl)
  ·have ht : Cod.take k r = ((full.drop a).take k, some ((full.drop a).drop k)) := by subst hr; unfold Cod.take; simp only [List.length_drop]; rw [if_neg hl]
   rw [ht]
   obtain ⟨h1, g1, g2, g3, g4⟩ := ff (k := 1) (v := i64 (a + k : Nat)) w.ob (by simp) rfl
   have w1 : Ct h1 q sv full (a + k) why wh := w.set g2 g3 g4 (by omega)
   obtain ⟨v, s1, s2⟩ := MN (h := h1) (a := a) (k := k) w1.own (by omega)
   refine ⟨v, h1, .of (r' := T1 v) (h1 := h1) e97 (by simp) (.eh z0 (.eh (r' := T11 (.ptr q 0) (i64 k)) (h' := h) (fun c i K => ?_) (.eh (r' := T11 (.ptr q 0) (i64 k)) (h' := h1) (fun c i K => ?_) (.aU fun c i K => ?_)))) rfl, s2, ⟨sv, full, a + k, why, wh, w1, by rw [if_pos hw, List.drop_drop]⟩, fun j hj _ => g3 j hj⟩
   ·simp only [k148_1, K2, iQ, iR]
    (rw [ai n0, ai a0, ai l0, ai (kR.len (dK.NZ w.own)), ai n0, ai a1, ai l1, ai hs, ai (Uc _ _), gT, if_neg (by omega)]; try rfl)
   ·simp only [k148_2, K2, iQ, iR]
    have hd : ∀ K : AV → Hp → RS, Seat.D (i64 a) (i64 k) h K = K (i64 (a + k : Nat)) h := fun K => by
     rw [hS, gV _ (by unfold dq; omega)]; rfl
    (rw [aA, av, aC (az w.c 1 rfl), hd, aA, av, cw g1]; try rfl)
   ·simp only [k148_3, K2, iQ, iR]
    have n0 : nC (.ptr q 0) h1 = .ok (.ptr q 0) h1 := rfl
    have a0 : fA 0 (.ptr q 0) h1 = .ok (.ptr q 0) h1 := rfl
    have a1 : fA 1 (.ptr q 0) h1 = .ok (.ptr q 1) h1 := rfl
    have l0 : lD (.ptr q 0) h1 = .ok sv h1 := rf w1.c rfl
    have l1 : lD (.ptr q 1) h1 = .ok (i64 (a + k : Nat)) h1 := az w1.c 1 rfl
    have hs : hR (i64 (a + k : Nat)) (i64 k) h1 = .ok (i64 a) h1 := by
     rw [Sv (by omega) (by omega), Nat.add_sub_cancel]
    (rw [ai n0, ai a0, ai l0, ai n0, ai a1, ai l1, ai hs, ai n0, ai a1, ai l1, ai s1]; try rfl)
 ·rw [if_neg hw] at hr
  subst hr
  refine ⟨.al, h, .of (r' := T1 .al) (h1 := h) e97 (by simp) (.aU fun c i K => ?_) rfl, ⟨.ft 0 0, 0, 0, .inr (.inr ⟨rfl, rfl⟩), rfl, fun g => absurd rfl g⟩, ⟨sv, full, a, why, wh, w, (if_neg hw).symm⟩, .refl q h⟩
  simp only [k148_0, K2, bE, bF]
  (rw [aA, av, aC (az w.c 2 rfl), aM (Sq hw), dY]; try rfl)
theorem Tu (n : Nat) (hn : n * 256 < 18446744073709551616) : bK .shl (.int .u64 (n : Int)) (.int .u64 (.ofNat 8)) h = .ok (.int .u64 ((n * 256 : Nat) : Int)) h := by
 show RV.ok (.int .u64 (.ofNat (n * 256 % 18446744073709551616))) h = _
 rw [Nat.mod_eq_of_lt hn]; rfl
theorem Qi (m b : Nat) (hb : b < 256) (hm : m * 256 < 18446744073709551616) : KM (.int .u64 ((m * 256 : Nat) : Int)) (.int .u64 (b : Int)) h = .ok (.int .u64 ((b + 256 * m : Nat) : Int)) h := by
 show RV.ok (.int .u64 (.ofNat (Nat.lor (m * 256 % 18446744073709551616) (b % 18446744073709551616) % 18446744073709551616))) h = _
 have e : Nat.lor (m * 256) b = b + 256 * m := by
  have := Nat.shiftLeft_add_eq_or_of_lt (show b < 2 ^ 8 from hb) m
  rw [Nat.shiftLeft_eq] at this
  have this : m * 256 + b = Nat.lor (m * 256) b := this
  rw [← this]; omega
 rw [Nat.mod_eq_of_lt hm, Nat.mod_eq_of_lt (show b < 18446744073709551616 by omega), e, Nat.mod_eq_of_lt (by omega)]; rfl
theorem Sw (b : UInt8) : cK (.toInt .u64) (.int .u8 (b.toNat : Int)) h = .ok (.int .u64 (b.toNat : Int)) h := by
 rw [gC, w64]
 have := b.toNat_lt
 rw [show ((b.toNat : Int) % 18446744073709551616) = (b.toNat : Int) by omega]
theorem Qj {K : AV → Hp → RS} {i : Nat} (hi : i < 9223372036854775807) : Seat.Z (i64 ((i + 1 : Nat) : Int)) i1 h K = K (i64 (i : Int)) h := by
 rw [uT, gV _ (by unfold dq; simp; omega)]
 simp
theorem kR.at (rb : kR h x s) {i : Nat} (hi : i < s.length) : ∃ a, iX 1 x (i64 (i : Int)) h = .ok a h ∧ lD a h = .ok (.int .u8 (s[i].toNat : Int)) h := by
 obtain ⟨q, o, n, e1, e2, e3⟩ := rb
 have c := e3 (by omega)
 refine ⟨.ptr q (o + i), by have := wH (h := h) e1 (i := i) (by omega); rw [Nat.mul_one] at this; exact this, ?_⟩
 rw [JQ c i (by rw [bu]; exact hi)]
 simp [bc]
theorem Sx {n : Nat} : fj (i64 ((n + 1 : Nat) : Int)) i0 h = .ok (.bool true) h := by
 have := rH (h := h) .i64 ((n + 1 : Nat) : Int) (Int.ofNat 0)
 rw [decide_eq_true (show Int.ofNat 0 < ((n + 1 : Nat) : Int) by show (0 : Int) < _; omega)] at this
 exact this
theorem AD (rb : kR h x s) (hs : s.length ≤ 8) : ∀ (i : Nat), i ≤ s.length → ∀ {c : AC} {r0 : A2} {hc : Hp}, (∀ st, Rn p (.ag qI .skip) (T67 (.int .u64 (un (s.drop i) : Nat)) x (i64 i)) h st → Rn p c r0 hc st) →
  Rn p (.sat (.ag k105_1 (.seq (.label 0) (.ag qI .skip))) c) r0 hc (.ret (T1 (.int .u64 (un s : Nat))) h)
 | 0, _, c, r0, hc, g => .sA (g _ (.aU fun c i K => by
   simp only [qI, K3, t67_5, t67_6, t67_7]
   have g0 : fj (i64 ((0 : Nat) : Int)) i0 h = .ok (.bool false) h := rfl
   (rw [aM g0, aY]; try rfl)))
 | i + 1, hi, c, r0, hc, g => by
  obtain ⟨a, b1, b2⟩ := rb.at (i := i) (by omega)
  have hd : s.drop i = s[i] :: s.drop (i + 1) := List.drop_eq_getElem_cons (by omega)
  have hu : un (s.drop i) = s[i].toNat + 256 * un (s.drop (i + 1)) := by rw [hd]; rfl
  have hlt : un (s.drop (i + 1)) * 256 < 18446744073709551616 := by
   have h1 := JU (s.drop (i + 1))
   have h2 : 256 ^ (s.drop (i + 1)).length ≤ 256 ^ 7 := Nat.pow_le_pow_right (by omega) (by simp; omega)
   omega
  have hb := s[i].toNat_lt
  refine .xF (i := 0) (g _ (.aU (s := .go 0 (T67 (.int .u64 (un (s.drop i) : Nat)) x (i64 i)) h) fun c i' K => ?_)) rfl (AD rb hs i (by omega) (c := .seq .skip (.ag qI .skip)) fun _ e => .seq .skip e)
  rw [hu]
  simp only [qI, K3, t67_5, t67_6, t67_7]
  (rw [aM Sx, dY, Qj (by omega), aM (Tu _ hlt), jk b1, aC b2, aM (Sw _), aM (Qi _ _ hb hlt)]; try rfl)
structure Kc (p : Pg) : Prop where
 e36 : ar 49 p.fs = f49
 e38 : ar 54 p.fs = f54
 e58 : ar 78 p.fs = f78
 e63 : ar 105 p.fs = f105
 e64 : ar 61 p.fs = f61
 e65 : ar 134 p.fs = f134
 e66 : ar 111 p.fs = f111
 e97 : ar 148 p.fs = f148
 e98 : ar 174 p.fs = f174
 e99 : ar 175 p.fs = f175
theorem Kd (T : Kc p) (w : qg h q r) {k : Nat} (hk : k ≤ 8) : ∃ h', Cv p 105 [.ptr q 0, pi k] h (.int .u64 ((Cod.get k r).1 : Nat)) h' ∧ qg h' q (Cod.get k r).2 ∧ Fr q h h' := by
 obtain ⟨v, h1, c1, rb, w1, F⟩ := MO (p := p) T.e97 T.e99 w (k := k) (by omega)
 have c1 : Cv p 148 [.ptr q 0, pi k] h v h1 := c1
 have hl := Cod.AA k r
 refine ⟨h1, .of (r' := T1 (.int .u64 (un (Cod.take k r).1 : Nat))) (h1 := h1) T.e63 (by simp) (.eh (r' := T11 (.ptr q 0) (pi k)) (h' := h) (fun c i K => by simp only [k105_0, K2, bE, bF])
  (.scope (AD (p := p) rb (by omega) (Cod.take k r).1.length (Nat.le_refl _) fun st e => ?_))) rfl, w1, F⟩
 rw [List.drop_length] at e
 refine .to (r' := T67 (.int .u64 (.ofNat 0)) v (i64 (Cod.take k r).1.length)) (h' := h1) (c1.mono fun m g K => ?_) (.seq .label e)
 simp only [k105_1, K2, iQ, iR]
 (rw [aD g, cU (kR.len rb)]; try rfl)
theorem Qk {n : Nat} (hn : n < 9223372036854775808) : cK (.toInt .i64) (.int .u64 (n : Int)) h = .ok (i64 (n : Int)) h := by
 rw [gC, gV _ (by unfold dq; omega)]
theorem Ke (n : Nat) (hn : n < 18446744073709551616) : IntKind.i64.wrap (n : Int) = s64 n := by
 unfold IntKind.wrap s64
 dsimp only
 split
 ·rename_i g
  rw [Bool.and_eq_true, decide_eq_true_eq] at g
  have g1 : (n : Int) % 18446744073709551616 ≥ 9223372036854775808 := g.2
  show (n : Int) % 18446744073709551616 - 18446744073709551616 = _
  rw [if_neg (by omega)]; omega
 ·rename_i g
  rw [Bool.and_eq_true, decide_eq_true_eq] at g
  have g1 : ¬ (n : Int) % 18446744073709551616 ≥ 9223372036854775808 := fun x => g ⟨rfl, x⟩
  show (n : Int) % 18446744073709551616 = _
  rw [if_pos (by omega)]; omega
theorem uY (T : Kc p) (w : qg h q r) : ∃ h', Cv p 54 [.ptr q 0] h (i64 ((pY r).1 : Nat)) h' ∧ qg h' q (pY r).2 ∧ Fr q h h' := by
 obtain ⟨h1, c1, w1, F⟩ := Kd T w (k := 1) (by omega)
 have c1 : Cv p 105 [.ptr q 0, i1] h (.int .u64 ((pY r).1 : Nat)) h1 := c1
 have hl : (pY r).1 < 256 := Cod.JY 1 r
 refine ⟨h1, .of (r' := T29 (i64 ((pY r).1 : Nat))) (h1 := h1) T.e38 (by simp) (.ag (c1.mono fun m g => ?_)) rfl, w1, F⟩
 simp only [k54_0, K1, dh]
 (rw [aD g, aM (Qk (by omega))]; try rfl)
theorem mB (T : Kc p) (w : qg h q r) : ∃ h', Cv p 61 [.ptr q 0] h (i64 (dF r).1) h' ∧ qg h' q (dF r).2 ∧ Fr q h h' := by
 obtain ⟨h1, c1, w1, F⟩ := Kd T w (k := 8) (by omega)
 have hl := Cod.JY 8 r
 have e : cK (.toInt .i64) (.int .u64 ((Cod.get 8 r).1 : Nat)) h1 = .ok (i64 (dF r).1) h1 := by
  rw [gC, Ke _ hl]; rfl
 refine ⟨h1, .of (r' := T29 (i64 (dF r).1)) (h1 := h1) T.e64 (by simp) (.ag (c1.mono fun m g => ?_)) rfl, w1, F⟩
 simp only [k61_0, K1, dh]
 (rw [aD g, aM e]; try rfl)
theorem qa (e58 : ar 78 p.fs = f78) (W : Wf h) (r : kR h x s) (hl : s.length ≤ 16777216) : ∃ v h', Cv p 78 [x] h v h' ∧ dK h' v 5 1 (bc s) (fun j => ah j h = .none) ∧ Old h h' ∧ Wf h' := by
 obtain ⟨q, o, n, g1, g2, g3⟩ := r
 by_cases hx : x = .al
 ·subst hx
  refine ⟨.al, h, .of (r' := T29 .al) (h1 := h) e58 (by simp) (.ag (.all fun m => ?_)) rfl, ?_, .refl h, W⟩
  ·have hn : bK (.gE .s) .al .al h = .ok (.bool true) h := rfl
   simp only [wv, K1, dh]
   rw [aM hn, dY]
  ·rcases g1 with ⟨_, g⟩ | g | ⟨_, g⟩
   ·cases g
   ·cases g
   ·have : s = [] := by cases s with | nil => rfl | cons _ _ => simp at g2; omega
    subst this
    exact .inl ⟨rfl, .inl rfl⟩
 ·have hn : bK (.gE .s) x .al h = .ok (.bool false) h := by
   rcases g1 with ⟨_, rfl⟩ | rfl | ⟨rfl, _⟩
   ·rfl
   ·rfl
   ·exact absurd rfl hx
  obtain ⟨j, h1, f1, f2, f3, f4, f5, f6⟩ := rL (el := 5) (es := 1) (n := 0) (z := []) (ps := []) (l := []) W rfl rfl (by simp)
  obtain ⟨v, h2, c1, c2, c3, c4⟩ := gW (m := n) (es := 1) f5 (x := .slice j 0 0 0) (b := fun _ => False) (el := 5) (l := []) (.inl ⟨rfl, .inr ⟨j, rfl⟩⟩) (by omega) (new := bc s) (by rw [bu]; omega) (by simp [bu]; omega)
  refine ⟨v, h2, .of (r' := T29 v) (h1 := h2) e58 (by simp) (.ag (.all fun m => ?_)) rfl, ?_, fun k hk => ?_, c3⟩
  ·simp only [wv, K1, dh]
   rw [aM hn, aY, aM f1, aM (by rw [gA g1 (by omega) (fun z => (g3 z).old f4) (by rw [bu]; omega) (by omega)]; exact c1)]
  ·refine dK.mono c2 fun k hk => ?_
   rcases hk with hk | hk
   ·exact hk.elim
   ·exact f4.none hk
  ·have := f4 k hk
   rw [c4 k (by rw [this]; exact hk) (fun g => g), this]
theorem Ql {b : P4 → Prop} {l : List AV} (w : dK h x 5 1 l b) : bl [.al, i0, i0, i0] [.mk 0 1 (.c x)] h = .ok (.agg [x, i0, i0, i0]) h := by
 rcases w with ⟨_, rfl | ⟨q, rfl⟩⟩ | ⟨q, n, rfl, _⟩ <;> rfl
theorem rh (T : Kc p) (W : Wf h) (rb : kR h x s) (hl : s.length ≤ 16777216) : ∃ q h', Cv p 49 [x] h (.ptr q 0) h' ∧ qg h' q (some s) ∧ ah q h = .none ∧ Old h h' := by
 obtain ⟨v, h1, c1, c2, c3, c4⟩ := qa (p := p) T.e58 W rb hl
 obtain ⟨q, h2, e1, e2, e3, e4, e5, e6⟩ := gg (el := 149) (l := [v, i0, i0, i0]) c4 (by simp)
 refine ⟨q, h2, .of (r' := T29 (.ptr q 0)) (h1 := h2) T.e36 (by simp) (.ag (c1.mono fun m g => ?_)) rfl, ⟨v, s, 0, 0, 0, ⟨e5, e3, (dK.mono c2 fun _ _ => True.intro).old fun j _ hj => e4 j hj, hl, by omega⟩, by simp⟩, c3.none e2, c3.trans e4⟩
 simp only [k49_0, K1, dh]
 (rw [aD g, jl (Ql c2), fU e1]; try rfl)
end
end Go.Am.Seat
namespace Go.Am
noncomputable section
variable {p : Pg} {aop : la} {d : aQ} {gs : List GI} {l : List DI} {r : A2} {h g : Hp} {hs : List Hp} {s : RS}
theorem Os.so (v : AV) (e : aop.run r h = .ok v h) (g : Os p gs (bN d v r) h s) : Os p (.o d (.op aop) :: gs) r h s := .step e g
theorem Ds.ro (v : AV) (e : aop.run r g = .ok v g) (k : Ds p l (bN d v r) h g hs s) : Ds p (.mk (.rd 0) (.o d (.op aop)) :: l) r h g hs s := .rM e k
end
end Go.Am
namespace Go.Am.Seat
open Go.Cod
set_option maxRecDepth 20000
noncomputable section
variable {p : Pg} {h h0 h' h1 h2 h3 : Hp} {q j k : P4} {s t : Bs} {x y v a b d e : AV}
theorem dZ {el : Nat} {ex : Bool} {fl : Fl} {l : List AV} (W : Wf h) (o : Ob h k el ex fl l) (g : ∀ j, j ≠ k → ah j h' = ah j h) (hn : h'.next = h.next) : Wf h' :=
 W.of hn fun j hj => by rw [g j (fun e => by rw [e] at hj; exact o.ne hj)]; exact hj
theorem pW {es n o : Nat} (sl : FB x es n q o) : same x x = true := by
 have := JT sl
 rcases sl with ⟨cap, rfl⟩ | rfl | ⟨rfl, _⟩ <;> exact this
def SB (h : Hp) (x : AV) (s : Bs) : Prop := ∃ q o L, x = .cA q o s.length 1 ∧ Ob h q 5 false .plain L ∧ o + s.length ≤ L.length ∧ ∀ i (hi : i < s.length) (hj : o + i < L.length), L[o + i] = .int .u8 (s[i].toNat : Int)
theorem SB.up (w : SB h x s) (O : Old h h') : SB h' x s := let ⟨q, o, L, e1, e2, e3, e4⟩ := w; ⟨q, o, L, e1, e2.old O, e3, e4⟩
theorem SB.vw (w : SB h x s) (g : ∀ k fl l, Ob h k 5 false fl l → ah k h' = ah k h) : SB h' x s := let ⟨q, o, L, e1, e2, e3, e4⟩ := w; ⟨q, o, L, e1, e2.eq (g q _ _ e2), e3, e4⟩
theorem SB.rd (w : SB h x s) : kR h x s := by
 obtain ⟨q, o, L, rfl, e2, e3, e4⟩ := w
 exact ⟨q, o, s.length, .inr (.inl rfl), rfl, fun _ => e2.cs (k := o) (m := bc s) (fun j hj => by
  rw [bu] at hj
  refine ⟨by omega, ?_⟩
  rw [e4 j hj (by omega)]
  simp [bc]) (by rw [bu]; exact e3)⟩
theorem SB.one (w : SB h x s) : x.one = true := by obtain ⟨q, o, L, rfl, _⟩ := w; rfl
theorem _root_.Go.Am.dK.sb {b : P4 → Prop} (w : dK h x 5 1 (bc s) b) (hs : s ≠ []) : SB h x s := by
 rcases w with ⟨w, _⟩ | ⟨q, n, rfl, e2, e3, _⟩
 ·exact absurd (List.length_eq_zero_iff.1 (by rw [← bu, w]; rfl)) hs
 ·rw [bu, Nat.mul_one] at e2
  subst e2
  refine ⟨q, 0, bc s, rfl, e3, by rw [bu]; omega, fun i hi hj => ?_⟩
  simp [bc]
theorem SB.cut {o : Nat} {L : List AV} {a b : Nat} (e2 : Ob h q 5 false .plain L) (e3 : o + s.length ≤ L.length) (e4 : ∀ i (hi : i < s.length) (hj : o + i < L.length), L[o + i] = .int .u8 (s[i].toNat : Int)) (hab : a ≤ b) (hb : b ≤ s.length) :
  CI 1 q o a b h = .ok (.cA q (o + a) (b - a) 1) h ∧ SB h (.cA q (o + a) (b - a) 1) ((s.drop a).take (b - a)) := by
 have hl : ((s.drop a).take (b - a)).length = b - a := by rw [List.length_take, List.length_drop]; omega
 refine ⟨?_, q, o + a, L, by rw [hl], e2, by rw [hl]; omega, fun i hi hj => ?_⟩
 ·obtain ⟨c, f1, _⟩ := e2
  show (@Bool.rec (fun _ => RV) (.err 42) (Obj.aN (ah q h) (fun _ k _ _ _ => @Bool.rec (fun _ => RV) (.err 45) (.ok (.cA q (o + a * 1) (b - a) 1) h) (Nat.ble (o + b * 1) k)) (.err 46)) (Nat.ble a b)) = _
  rw [Nat.ble_eq_true_of_le hab, f1]
  show (@Bool.rec (fun _ => RV) (.err 45) (.ok (.cA q (o + a * 1) (b - a) 1) h) (Nat.ble (o + b * 1) L.length)) = _
  rw [Nat.ble_eq_true_of_le (by omega), Nat.mul_one]
 ·rw [hl] at hi
  have := e4 (a + i) (by omega) (by omega)
  simp only [← Nat.add_assoc] at this
  rw [this, List.getElem_take, List.getElem_drop]
theorem SB.FL (w : SB h x s) {a b : Nat} (hab : a ≤ b) (hb : b ≤ s.length) : ∃ v, cY 1 (.c x) (.some (.c (i64 a))) (.some (.c (i64 b))) .none .nil h = .ok v h ∧ SB h v ((s.drop a).take (b - a)) := by
 obtain ⟨q, o, L, rfl, e2, e3, e4⟩ := w
 obtain ⟨g1, g2⟩ := SB.cut e2 e3 e4 hab hb
 exact ⟨_, g1, g2⟩
theorem SB.Oa (w : SB h x s) (hl : 4 ≤ s.length) : ∃ v, cY 1 (.c x) (.some (.c (pi 4))) .none .none .nil h = .ok v h ∧ SB h v (s.drop 4) := by
 obtain ⟨q, o, L, rfl, e2, e3, e4⟩ := w
 obtain ⟨g1, g2⟩ := SB.cut e2 e3 e4 hl (Nat.le_refl _)
 refine ⟨_, g1, ?_⟩
 rwa [List.take_of_length_le (by rw [List.length_drop]; omega)] at g2
theorem SB.Us (w : SB h x s) (hl : 4 ≤ s.length) : ∃ v, cY 1 (.c x) .none (.some (.c (pi 4))) .none .nil h = .ok v h ∧ SB h v (s.take 4) := by
 obtain ⟨q, o, L, rfl, e2, e3, e4⟩ := w
 obtain ⟨g1, g2⟩ := SB.cut e2 e3 e4 (Nat.zero_le 4) hl
 exact ⟨_, g1, by simpa using g2⟩
theorem BR (e : ar 173 p.fs = f173) (r : kR h x s) (hl : s.length ≤ 16777216) : Cv p 173 [x] h (.int .u32 ((sV (s.map UInt8.toNat) : Nat) : Int)) h := by
 obtain ⟨q, o, n, sl, rfl, c⟩ := r
 have el := pX (h := h) sl (by omega) c (by rw [bu]; omega) (fun l => dG l (fun s => .ok (.int .u32 (.ofNat (sV s))) h) (.err 140)) (.err 141)
 rw [uX] at el
 have hc : vI x h = .ok (.int .u32 (.ofNat (sV (s.map UInt8.toNat)))) h := by
  have : vI x h = @Bool.rec (fun _ => RV) (.err 141) (elems 1 x h (fun l => dG l (fun s => .ok (.int .u32 (.ofNat (sV s))) h) (.err 140)) (.err 141)) (Nat.ble s.length 4611686018427387904) := by
   rcases sl with ⟨cap, rfl⟩ | rfl | ⟨rfl, e0⟩
   ·rfl
   ·rfl
   ·rw [e0]; rfl
  rw [this, Nat.ble_eq_true_of_le (by omega)]
  exact el
 exact .oV (k := .Rf) (body := x173) (res := [.t .h0 .h2]) e (by
  show (vI x h).iU = _
  rw [hc]; rfl)
def Kf (b : Bs) : Bs := let c := sV (b.map UInt8.toNat); [UInt8.ofNat c, UInt8.ofNat (c / 256), UInt8.ofNat (c / 65536), UInt8.ofNat (c / 16777216)]
def bg (b : Bs) : Bs := Kf b ++ b
def cI (b : Bs) : Bs := dM ((bg b).length : Nat) ++ bg b
theorem mC (b : Bs) : (Kf b).length = 4 := rfl
theorem mW (b : Bs) : (bg b).length = 4 + b.length := by unfold bg; rw [List.length_append, mC]
theorem fp (b : Bs) : (cI b).length = 12 + b.length := by unfold cI; rw [List.length_append, mW, bQ]; omega
theorem Kg (W : Wf h) {el n m : Nat} {l new : List AV} (o : Ob h j el true .plain l) (hn : l.length = n) (hm : new.length = m) (h0 : 0 < m) (hs : n + m ≤ 16777216) :
  ∃ v h', jC el 1 m new (.slice j 0 n n) h = .ok v h' ∧ dK h' v el 1 (l ++ new) (fun k => ah k h = .none) ∧ Old h h' ∧ Wf h' := by
 have sl : FB (.slice j 0 n n) 1 n j 0 := .inl ⟨_, rfl⟩
 have lN : (l ++ new).length = n + m := by rw [List.length_append, hn, hm]
 have e1 : jC el 1 m new (.slice j 0 n n) h = elems 1 (.slice j 0 n n) h (fun old => jq el 1 n m old new h) (.err 77) := by
  show (@Bool.rec (fun _ => RV) (fG 1 j 0 n h (fun old => jq el 1 n m old new h) (.err 77)) _ (Nat.ble (n + m) n)) = _
  have : Nat.ble (n + m) n = false := by
   rw [← Bool.not_eq_true]
   intro g
   have := Nat.le_of_ble_eq_true g
   omega
  rw [this]; rfl
 have e2 := pX (h := h) sl (by omega) (fun _ => o.cs (k := 0) (m := l) (fun k hk => ⟨by omega, by simp⟩) (by simp)) (by omega) (fun old => jq el 1 n m old new h) (.err 77)
 have e3 : jq el 1 n m l new h = fB el false .plain (l ++ new).length (mE (l ++ new)) h (fun i h => .ok (.cA i 0 (n + m) 1) h) := rfl
 obtain ⟨q, h', f1, f2, f3, f4, f5, _⟩ := qG (el := el) (ex := false) (fl := .plain) W (l ++ new) (c := mE (l ++ new)) (Gd.of _ (by omega)) (fun k hk => ir _ (by omega) k hk) (fun i h => .ok (.cA i 0 (n + m) 1) h)
 exact ⟨_, h', by rw [e1, e2, e3, f1], .inr ⟨q, n + m, rfl, by omega, f3, f2⟩, f4, f5⟩
theorem shr32_8 (n : Nat) : bK .shr (.int .u32 (n : Int)) (.int .u64 (.ofNat 8)) h = .ok (.int .u32 ((n / 256 : Nat) : Int)) h := rfl
theorem shr32_16 (n : Nat) : bK .shr (.int .u32 (n : Int)) (.int .u64 (.ofNat 16)) h = .ok (.int .u32 ((n / 65536 : Nat) : Int)) h := rfl
theorem shr32_24 (n : Nat) : bK .shr (.int .u32 (n : Int)) (.int .u64 (.ofNat 24)) h = .ok (.int .u32 ((n / 16777216 : Nat) : Int)) h := rfl
structure FG (p : Pg) : Prop where
 w : Qe p
 d : Kc p
 e46 : ar 46 p.fs = f46
 e47 : ar 47 p.fs = f47
 e77 : ar 77 p.fs = f77
 e97 : ar 97 p.fs = f97
 e131 : ar 131 p.fs = f131
 e132 : ar 132 p.fs = f132
 e139 : ar 139 p.fs = f139
 e173 : ar 173 p.fs = f173
theorem DV (T : FG p) (W : Wf h) (r : kR h x s) (h0 : s ≠ []) (hl : s.length ≤ 1048576) : ∃ v h', Cv p 132 [x] h v h' ∧ dK h' v 5 1 (bc (bg s)) (fun k => ah k h = .none) ∧ Old h h' ∧ Wf h' := by
 have c := BR T.e173 r (by omega)
 generalize hN : sV (s.map UInt8.toNat) = N at c
 obtain ⟨j, h1, f1, f2, f3, f4, f5, _⟩ := rL (el := 5) (es := 1) (n := 4) (z := [.int .u8 (.ofNat 0), .int .u8 (.ofNat 0), .int .u8 (.ofNat 0), .int .u8 (.ofNat 0)])
  (ps := [.mk 0 1 (.c (.int .u8 ((N : Int) % 256))), .mk 1 1 (.c (.int .u8 (((N / 256 : Nat) : Int) % 256))), .mk 2 1 (.c (.int .u8 (((N / 65536 : Nat) : Int) % 256))), .mk 3 1 (.c (.int .u8 (((N / 16777216 : Nat) : Int) % 256)))])
  (l := bc (Kf s)) W rfl (by
   unfold Kf
   simp only [bc, List.map_cons, List.map_nil, hN]
   have (n : Nat) : ((UInt8.ofNat n).toNat : Int) = (n : Int) % 256 := by simp
   simp only [this]
   rfl) (by rw [bu, mC]; omega)
 obtain ⟨q, o, n, sl, hn, cs⟩ := id r
 have hpos : 0 < s.length := List.length_pos_iff.2 h0
 obtain ⟨v, h2, g1, g2, g3, g4⟩ := Kg (el := 5) f5 (n := 4) (m := s.length) (new := bc s) f3 (by rw [bu]; rfl) (bu s) hpos (by omega)
 have V : eJ 5 1 (.slice j 0 4 4) x h1 = .ok v h2 := by
  rw [gA (m := n) sl (by omega) (fun hne => (cs hne).old f4) (by rw [bu]; omega) (by omega), ← hn]
  exact g1
 refine ⟨v, h2, .of (r' := T29 v) (h1 := h2) T.e132 (by simp) (.ag (c.mono fun m g => ?_)) rfl, ?_, f4.trans g3, g4⟩
 ·simp only [k132_0, K1, dh]
  (rw [aD g, gC, w8, bS, shr32_8, bS, gC, w8, bS, shr32_16, bS, gC, w8, bS, shr32_24, bS, gC, w8, bS, aM f1, aM V]; try rfl)
 ·rw [← yg] at g2
  exact dK.mono g2 fun k hk => f4.none hk
theorem DR (W : Wf h) {el es m : Nat} {l : List AV} {b : P4 → Prop} (w : dK h x el es l b) (hes : 0 < es) {new : List AV} (hn : new.length = m * es) (hs : l.length + new.length ≤ 16777216) :
  ∃ v h', jC el es m new x h = .ok v h' ∧ dK h' v el es (l ++ new) (fun j => b j ∨ ah j h = .none) ∧ Wf h' ∧ (∀ k, ah k h ≠ .none → ¬ b k → ah k h' = ah k h) ∧
   ∀ k el' ex' fl' l', Ob h k el' ex' fl' l' → (el' ≠ el ∨ ex' ≠ false) → ah k h' = ah k h := by
 have w' : dK h x el es l fun j => b j ∧ ∃ n c, ah j h = .cells el n false .plain c := by
  rcases w with w | ⟨q, n, e1, e2, e3, e4⟩
  ·exact .inl w
  ·obtain ⟨c, f1, f2⟩ := e3
   exact .inr ⟨q, n, e1, e2, ⟨c, f1, f2⟩, e4, _, c, f1⟩
 obtain ⟨v, h', c1, c2, c3, c4⟩ := gW W w' hes hn hs
 refine ⟨v, h', c1, dK.mono c2 fun j hj => hj.imp_left (·.1), c3, fun k hk hb => c4 k hk fun g => hb g.1, fun k el' ex' fl' l' o g => c4 k o.ne ?_⟩
 rintro ⟨_, n, c, e⟩
 obtain ⟨c', e', _⟩ := o
 rw [e] at e'
 obtain ⟨a1, _, a2, _⟩ := Obj.cells.inj e'
 rcases g with g | g
 ·exact g a1.symm
 ·exact g a2.symm
theorem Kh (T : FG p) (W : Wf h) (r : kR h x s) (h0 : s ≠ []) (hl : s.length ≤ 65536) : ∃ v h', Cv p 139 [x] h v h' ∧ dK h' v 5 1 (bc (cI s)) (fun k => ah k h = .none) ∧ Old h h' ∧ Wf h' := by
 obtain ⟨q, h1, c1, w1, O1⟩ := qZ T.w W
 obtain ⟨vs, h2, c2, o2, O2, W2⟩ := DV T w1.wf (r.up O1) h0 (by omega)
 obtain ⟨hb, B1, w2, g⟩ := w1.base O2 W2
 have hsl := mW s
 obtain ⟨h3, c3, w3⟩ := pZ T.w w2 (n := ((bg s).length : Nat)) (by simp)
 obtain ⟨vd, h4, c4, o4, O4, W4⟩ := yh T.w T.d.e58 w3 (by simp [bQ])
 have o2' : dK h4 vs 5 1 (bc (bg s)) (fun k => ah k h1 = .none) := o2.old fun k hk hne => by
  have e := g k hk
  rw [O4 k (by rw [e]; exact hne), e]
 obtain ⟨q2, o2q, n2, sl, hn2, cs⟩ := dK.NZ o2'
 obtain ⟨v, h5, a1, a2, a3, a4⟩ := gW (m := n2) (es := 1) W4 o4 (by omega) (new := bc (bg s)) (by rw [bu]; omega) (by simp [bu, bQ]; omega)
 have V : eJ 5 1 vd vs h4 = .ok v h5 := by
  rw [gA sl (by omega) cs (by rw [bu]; omega) (by omega)]
  exact a1
 have O04 : Old h h4 := B1.trans O4
 refine ⟨v, h5, .of (r' := T29 v) (h1 := h5) T.e139 (by simp) (.ag ((c1.and (c2.and (c3.and c4))).mono fun m u => ?_)) rfl, ?_, fun k hk => ?_, a3⟩
 ·obtain ⟨u1, u2, u3, u4⟩ := u
  simp only [k139_0, K1, dh]
  (rw [aD u1, aD u2, cU (kR.len (dK.NZ o2)), aD u3, aD u4, aM V]; try rfl)
 ·have : bc (cI s) = bc ([] ++ dM ((bg s).length : Nat)) ++ bc (bg s) := by
   unfold cI
   rw [yg, List.nil_append]
  rw [this]
  refine dK.mono a2 fun k hk => ?_
  rcases hk with hk | hk
  ·exact B1.none hk
  ·exact O04.none hk
 ·have e := O04 k hk
  rw [a4 k (by rw [e]; exact hk) (fun gb => hk (B1.none gb)), e]
theorem Qm (e : ar 131 p.fs = f131) (ra : kR h x s) (rb : kR h y s) (hn : s.length < 9223372036854775807) : Cv p 131 [x, y] h (.bool true) h := by
 obtain ⟨r2, h2, ⟨_, rfl⟩, k2⟩ := gz (p := p) (body := .ag k131_2 .skip) (r := T70 x y (i64 s.length) (i64 (0 : Nat))) (h := h) s.length
  (Inv := fun n r h' => r = T70 x y (i64 s.length) (i64 n) ∧ h' = h) (l := 0) (Re := T70 x y (i64 s.length) (i64 s.length)) (fun n r h' hi I => by
   obtain ⟨rfl, rfl⟩ := I
   obtain ⟨u1, a1, a2⟩ := ra.at hi
   obtain ⟨u2, b1, b2⟩ := rb.at hi
   refine ⟨_, h', .aU fun c i' K => ?_, rfl, rfl⟩
   simp only [k131_2, K4, t70_0, t70_1, t70_12, t70_13]
   have ne : gF (.int .u8 (s[n].toNat : Int)) (.int .u8 (s[n].toNat : Int)) h' = .ok (.bool false) h' := by rw [Az, decide_eq_true rfl]; rfl
   (rw [di, gT, if_pos (by omega), ai a1, ai a2, ai b1, ai b2, ai ne, aY, eF hi hn]; try rfl)) (fun r h' I => by
   obtain ⟨rfl, rfl⟩ := I
   refine .aU fun c i' K => ?_
   simp only [k131_2, K4, t70_0, t70_1, t70_12, t70_13]
   (rw [di, gT, if_neg (by omega)]; try rfl)) ⟨rfl, rfl⟩
 refine .of (r' := T1 (.bool true)) (h1 := h2) e (by simp) (.eh (r' := T11 x y) (h' := h2) (fun c i K => ?_) (.seq (.eh (r' := T70 x y (i64 s.length) (i64 (0 : Nat))) (h' := h2) (fun c i K => ?_) (.bJ k2)) (.aU fun c i K => rfl))) rfl
 ·simp only [k131_0, K2, bE, bF]
  have ne : gF (i64 s.length) (i64 s.length) h2 = .ok (.bool false) h2 := by
   show gF (.int .i64 _) (.int .i64 _) h2 = _
   rw [Az, decide_eq_true rfl]; rfl
  (rw [cU (kR.len ra), cU (kR.len rb), aM ne, aY]; try rfl)
 ·simp only [k131_1, K2, iQ, iR]
  (rw [cU (kR.len ra)]; try rfl)
theorem MP (T : FG p) (W : Wf h) (w : SB h x (bg s)) (h0 : s ≠ []) (hl : s.length ≤ 65536) : ∃ v h', Cv p 77 [x] h (.gh [v, .bool true]) h' ∧ dK h' v 5 1 (bc s) (fun k => ah k h = .none) ∧ Old h h' ∧ Wf h' := by
 have hsl := mW s
 have wx := w
 obtain ⟨q, o, L, rfl, e2, e3, e4⟩ := w
 obtain ⟨v9, c9, w9⟩ := wx.Oa (by omega)
 have d4 : (bg s).drop 4 = s := by unfold bg; rw [List.drop_left' (mC s)]
 have t4 : (bg s).take 4 = Kf s := by unfold bg; rw [List.take_left' (mC s)]
 rw [d4] at w9
 obtain ⟨v10, h1, c10, o10, O1, W1⟩ := DV T W w9.rd h0 (by omega)
 have hne : bg s ≠ [] := fun g => by rw [g] at hsl; simp only [List.length_nil] at hsl; omega
 obtain ⟨v11, c11, w11⟩ := (dK.sb o10 hne).Us (by omega)
 rw [t4] at w11
 obtain ⟨g1, g2⟩ := SB.cut e2 e3 e4 (Nat.zero_le 4) (by omega)
 obtain ⟨g3, g4⟩ := SB.cut (e2.old O1) e3 e4 (Nat.zero_le 4) (by omega)
 rw [Nat.sub_zero, List.drop_zero, t4] at g4
 rw [Nat.sub_zero] at g1 g3
 have c14 := Qm T.e131 w11.rd g4.rd (by rw [mC]; omega)
 have lt : bK .lt (i64 (bg s).length) (pi 4) h = .ok (.bool false) h := by
  show mY (.int .i64 (bg s).length) (.int .i64 4) h = _
  rw [uR, decide_eq_false (by omega)]
 have sx : same (.cA q o (bg s).length 1) (.cA q o (bg s).length 1) = true := pW (es := 1) (n := (bg s).length) (q := q) (o := o) (.inr (.inl rfl))
 have s4 : same (.cA q (o + 0) 4 1) (.cA q (o + 0) 4 1) = true := pW (es := 1) (n := 4) (q := q) (o := o + 0) (.inr (.inl rfl))
 obtain ⟨r', rn, e0, e16⟩ : ∃ r', Rn p (fst (fst (bh x77))) (T14 (.cA q o (bg s).length 1)) h (.nm r' h1) ∧ y0 r' = .cA q o (bg s).length 1 ∧ y16 r' = .bool false :=
  ⟨_, .eH (.ro (.cA q o (bg s).length 1) rfl <| .rM (v := i64 (bg s).length) (g' := h) (kR.len wx.rd) <| .rM (v := .bool false) (g' := h) lt <| .ro (.bool false) rfl <|
   .on rfl <| .ro (.cA q o (bg s).length 1) rfl <| .on rfl <| .rM (v := v9) (g' := h) c9 <| .on rfl <| .call (v := v10) (h' := h1) c10 <| .on rfl <| .rM (v := v11) (g' := h1) c11 <|
   .on rfl <| .gB (v := .cA q o (bg s).length 1) (g' := h1) (h1' := h) rfl rfl sx <| .on rfl <| .gB (v := .cA q (o + 0) 4 1) (g' := h1) (h1' := h) g3 g1 s4 <|
   .on rfl <| .call (v := .bool true) (h' := h1) c14 <| .on rfl <| .ro (.bool false) rfl <| .ro (.bool false) rfl <| .nil), rfl, rfl⟩
 obtain ⟨v9', c9', w9'⟩ := (wx.up O1).Oa (by omega)
 rw [d4] at w9'
 obtain ⟨v, h2, c78, o78, O2, W2⟩ := qa T.d.e58 W1 w9'.rd (by omega)
 refine ⟨v, h2, .of (r' := T13 v (.bool true)) (h1 := h2) T.e77 (by simp) (.eh (r' := T14 (.cA q o (bg s).length 1)) (h' := h) (fun c i K => ?_) (.seq (.seq rn (.aU (s := .nm (T14 (.cA q o (bg s).length 1)) h1) fun c i K => ?_)) (.ag (c78.mono fun m g => ?_)))) rfl, dK.mono o78 fun k hk => O1.none hk, O1.trans O2, W2⟩
 ·simp only [k77_0, K1, dh]
 ·simp only [k77_1, K2, e0, e16]
  rw [aY]
 ·simp only [k77_2, K1, rK]
  (rw [aM c9', aD g]; try rfl)
abbrev B46 : AC := .ag uo (.block 1 (.ag k46_2 (bh (fst (bh (fst (fst (fst (bh x46)))))))))
theorem FH {n : Int} (l : Bs) : (dM n ++ l).take 8 = dM n := List.take_left' (bQ n)
theorem AE (T : FG p) (O : Old h0 h) (W : Wf h) {B r rest : Bs} {at' : Nat} {ms : List AV} (w : SB h0 x B) (hB : B.drop at' = cI r ++ rest) (hr : r ≠ []) (hrl : r.length ≤ 65536) (hl : B.length ≤ 1048576) (wo : dK h a 34 1 ms fun k => ah k h0 = .none) (hms : ms.length ≤ 1000) :
  ∃ v m h', Rn p B46 (T50 x a (i64 at')) h (.nm (T50 x v (i64 (at' + (12 + r.length) : Nat))) h') ∧ Old h0 h' ∧ Wf h' ∧ dK h' v 34 1 (ms ++ [m]) (fun k => ah k h0 = .none) ∧ SB h' m r ∧ ∀ y t, SB h y t → SB h' y t := by
 have hfl := fp r
 have hsl := mW r
 have hlen : B.length = at' + ((cI r).length + rest.length) := by
  have := congrArg List.length hB
  rw [List.length_drop, List.length_append] at this
  omega
 have wh := w.up O
 have t1 : ∀ c i (K : A2 → Hp → RS), uo c i K (T50 x a (i64 at')) h = K (T50 x a (i64 at')) h := fun c i K => by
  simp only [uo, K3, t50_0, t50_4, t50_5]
  have z : ∀ K : AV → Hp → RS, Seat.Z (i64 B.length) (i64 at') h K = K (i64 (B.length - at' : Nat)) h := fun K => by
   rw [uT, gV _ (by unfold dq; omega), show (B.length : Int) - at' = ((B.length - at' : Nat) : Int) by omega]
  have ge : kY (i64 (B.length - at' : Nat)) (pi 8) h = .ok (.bool true) h := by
   show kY (.int .i64 _) (.int .i64 8) h = _
   rw [Ag, decide_eq_true (by omega)]
  (rw [cU (kR.len wh.rd), z, aM ge, dY]; try rfl)
 have d8 : ∀ (n : Nat) (h : Hp) (K : AV → Hp → RS), n ≤ 2000000 → Seat.D (i64 n) (pi 8) h K = K (i64 (n + 8 : Nat)) h := fun n h K hn => by
  show Seat.D (i64 n) (i64 8) h K = _
  rw [hS, gV _ (by unfold dq; omega)]; rfl
 -- its length
 obtain ⟨vf, cf, wf⟩ := wh.FL (a := at') (b := at' + 8) (by omega) (by omega)
 have hh : (B.drop at').take (at' + 8 - at') = dM ((bg r).length : Nat) := by
  rw [Nat.add_sub_cancel_left, hB]
  unfold cI
  rw [List.append_assoc, FH]
 rw [hh] at wf
 obtain ⟨q, h1, c49, gB, nq, O1⟩ := rh T.d W wf.rd (by rw [bQ]; omega)
 obtain ⟨h2, c61, Tm, F2⟩ := mB T.d gB
 have gl : (dF (some (dM ((bg r).length : Nat)))).1 = ((bg r).length : Int) := by
  have := iT (n := ((bg r).length : Int)) [] (by omega) (by omega)
  rw [List.append_nil] at this
  rw [this]
 rw [gl] at c61
 have O02 : Old h h2 := Fr.old F2 O1 nq
 have W2 : Wf h2 := Tm.wf
 have w2 := wh.up O02
 have t2 : Ev fun m => ∀ K : A2 → Hp → RS, k46_2 (aw p (exec p m)) (aF p (exec p m)) K (T50 x a (i64 at')) h = K (T51 x a (i64 at') (i64 (bg r).length)) h2 := (c49.and c61).mono fun m g K => by
  obtain ⟨g1, g2⟩ := g
  simp only [k46_2, K3, t50_0, t50_4, t50_5]
  (rw [d8 _ _ _ (by omega), aM cf, aD g1, aD g2]; try rfl)
 -- it fits
 have lt : bK .lt (i64 (bg r).length) i0 h2 = .ok (.bool false) h2 := by
  show mY (.int .i64 (bg r).length) (.int .i64 0) h2 = _
  rw [uR, decide_eq_false (by omega)]
 have gt1 : bK .gt (i64 (bg r).length) (pi 1048576) h2 = .ok (.bool false) h2 := by
  show fj (.int .i64 (bg r).length) (.int .i64 1048576) h2 = _
  rw [rH, decide_eq_false (by omega)]
 have s1 : bK .sub (i64 B.length) (i64 at') h2 = .ok (i64 (B.length - at' : Nat)) h2 := by
  show hR (.int .i64 _) (.int .i64 _) h2 = _
  rw [qY, gV _ (by unfold dq; omega), show (B.length : Int) - at' = ((B.length - at' : Nat) : Int) by omega]
 have s2 : bK .sub (i64 (B.length - at' : Nat)) (pi 8) h2 = .ok (i64 (B.length - at' - 8 : Nat)) h2 := by
  show hR (.int .i64 _) (.int .i64 8) h2 = _
  rw [qY, gV _ (by unfold dq; omega), show ((B.length - at' : Nat) : Int) - 8 = ((B.length - at' - 8 : Nat) : Int) by omega]
 have gt2 : bK .gt (i64 (bg r).length) (i64 (B.length - at' - 8 : Nat)) h2 = .ok (.bool false) h2 := by
  show fj (.int .i64 _) (.int .i64 _) h2 = _
  rw [rH, decide_eq_false (by omega)]
 obtain ⟨r', o1, o2, o3, o4, o5, o6⟩ : ∃ r', Os p (opsL (fst (fst (bh (fst (bh (fst (fst (fst (bh x46)))))))))) (T51 x a (i64 at') (i64 (bg r).length)) h2 (.nm r' h2) ∧ y0 r' = x ∧ y4 r' = a ∧ y5 r' = i64 at' ∧ y6 r' = i64 (bg r).length ∧ y35 r' = .bool false :=
  ⟨_, .so (i64 (bg r).length) rfl <| .step (v := .bool false) (h' := h2) lt <| .so (.bool false) rfl <| .on rfl <| .so (i64 (bg r).length) rfl <| .on rfl <| .step (v := .bool false) (h' := h2) gt1 <|
   .so (.bool false) rfl <| .so (.bool false) rfl <| .on rfl <| .so (i64 (bg r).length) rfl <| .on rfl <| .so x rfl <| .on rfl <| .step (v := i64 B.length) (h' := h2) (kR.len w2.rd) <|
   .on rfl <| .so (i64 at') rfl <| .on rfl <| .step (v := i64 (B.length - at' : Nat)) (h' := h2) s1 <| .on rfl <| .step (v := i64 (B.length - at' - 8 : Nat)) (h' := h2) s2 <| .on rfl <| .step (v := .bool false) (h' := h2) gt2 <| .so (.bool false) rfl <| .nil, rfl, rfl, rfl, rfl, rfl⟩
 have t3 : ∀ c i (K : A2 → Hp → RS), k46_3 c i K r' h2 = .nm (T51 x a (i64 at') (i64 (bg r).length)) h2 := fun c i K => by
  simp only [k46_3, K5, o2, o3, o4, o5, o6]
  rw [aY]
 -- what is sealed
 obtain ⟨vk, ck, wk⟩ := w2.FL (a := at' + 8) (b := at' + 8 + (bg r).length) (by omega) (by omega)
 have hk : (B.drop (at' + 8)).take (at' + 8 + (bg r).length - (at' + 8)) = bg r := by
  rw [Nat.add_sub_cancel_left, ← List.drop_drop, hB]
  unfold cI
  rw [List.append_assoc, List.drop_left' (bQ _), List.take_left' rfl]
 rw [hk] at wk
 obtain ⟨m, h3, c77, o77, O3, W3⟩ := MP T W2 wk hr hrl
 have sm := dK.sb o77 hr
 obtain ⟨j, h4, b1, b2, O4, W4⟩ : ∃ j h', Seat.bs 34 1 1 [.al] [.mk 0 1 (.c m)] h3 = .ok (.slice j 0 1 1) h' ∧ Cs h' j 0 [m] ∧ Old h3 h' ∧ Wf h' := by
  obtain ⟨_, _, _, rfl, _⟩ := sm
  exact Qg (el := 34) (z := .al) W3 rfl rfl rfl
 have O24 := (O02.trans O3).trans O4
 have wo4 : dK h4 a 34 1 ms fun k => ah k h0 = .none := wo.old fun k hk hne => O24 k hne
 obtain ⟨v, h5, a1, a2, a3, a4, a5⟩ := DR (el := 34) (es := 1) (m := 1) W4 wo4 (by omega) (new := [m]) rfl (by simp; omega)
 have V : eJ 34 1 a (.slice j 0 1 1) h4 = .ok v h5 := by
  rw [gA (m := 1) (q := j) (o := 0) (l := [m]) (.inl ⟨_, rfl⟩) (by omega) (fun _ => b2) rfl (by omega)]
  exact a1
 have O04 : Old h0 h4 := O.trans O24
 have t4 : Ev fun m' => ∀ K : A2 → Hp → RS, k46_4 (aw p (exec p m')) (aF p (exec p m')) K (T51 x a (i64 at') (i64 (bg r).length)) h2 = K (T51 x v (i64 at') (i64 (bg r).length)) h5 := c77.mono fun m' g K => by
  simp only [k46_4, K4, t51_0, t51_4, t51_5, t51_6]
  have d9 : ∀ K : AV → Hp → RS, Seat.D (i64 (at' + 8 : Nat)) (i64 (bg r).length) h2 K = K (i64 (at' + 8 + (bg r).length : Nat)) h2 := fun K => by
   rw [hS, gV _ (by unfold dq; omega)]; rfl
  (rw [d8 _ _ _ (by omega), d8 _ _ _ (by omega), d9, aM ck, aD g, jm (show Seat.ext 0 (.gh [m, .bool true]) h3 = .ok m h3 from rfl), jm (show Seat.ext 1 (.gh [m, .bool true]) h3 = .ok (.bool true) h3 from rfl), kP, bS, Bool.not_true, aY, aM b1, aM V]; try rfl)
 have t5 : ∀ c i (K : A2 → Hp → RS), k46_5 c i K (T51 x v (i64 at') (i64 (bg r).length)) h5 = .nm (T50 x v (i64 (at' + (12 + r.length) : Nat))) h5 := fun c i K => by
  simp only [k46_5, K4, t51_0, t51_4, t51_5, t51_6]
  have d1 : ∀ K : AV → Hp → RS, Seat.D (pi 8) (i64 (bg r).length) h5 K = K (i64 (12 + r.length : Nat)) h5 := fun K => by
   show Seat.D (i64 8) (i64 (bg r).length) h5 K = _
   rw [hS, gV _ (by unfold dq; omega), show (8 : Int) + (bg r).length = ((12 + r.length : Nat) : Int) by omega]
  have d2 : ∀ K : AV → Hp → RS, Seat.D (i64 at') (i64 (12 + r.length : Nat)) h5 K = K (i64 (at' + (12 + r.length) : Nat)) h5 := fun K => by
   rw [hS, gV _ (by unfold dq; omega)]; rfl
  (rw [d1, d2]; try rfl)
 refine ⟨v, m, h5, .eh t1 (.block (.to t2 (.seq (.seq (.ops o1) (.aU t3)) (.to t4 (.aU t5))))), fun k hk => ?_, a3, dK.mono a2 fun k hk => hk.elim id fun g => O04.none g, (sm.up O4).vw fun k fl l ok => a5 k 5 false fl l ok (.inl (by omega)), fun y t sy => (sy.up O24).vw fun k fl l ok => a5 k 5 false fl l ok (.inl (by omega))⟩
 have e := O04 k hk
 rw [a4 k (by rw [e]; exact hk) (fun gb => hk gb), e]
theorem Ki (T : FG p) (W : Wf h) {r1 r2 : Bs} (w : SB h x (cI r1 ++ cI r2)) (h1 : r1 ≠ []) (h2 : r2 ≠ []) (l1 : r1.length ≤ 1000) (l2 : r2.length ≤ 1000) :
  ∃ v m1 m2 e h', Cv p 46 [x] h (.gh [v, e]) h' ∧ Old h h' ∧ Wf h' ∧ dK h' v 34 1 [m1, m2] (fun k => ah k h = .none) ∧ SB h' m1 r1 ∧ SB h' m2 r2 := by
 have f1 := fp r1
 have f2 := fp r2
 have hl : (cI r1 ++ cI r2).length = 24 + r1.length + r2.length := by rw [List.length_append]; omega
 obtain ⟨v1, m1, g1, k1, O1, W1, o1, s1, _⟩ := AE (a := .al) (ms := []) (at' := 0) T (.refl h) W w (rest := cI r2) rfl h1 (by omega) (by omega) (.inl ⟨rfl, .inl rfl⟩) (by simp)
 obtain ⟨v2, m2, g2, k2, O2, W2, o2, s2, p2⟩ := AE (a := v1) (ms := [] ++ [m1]) (at' := 0 + (12 + r1.length)) T O1 W1 w (rest := []) (by
  rw [Nat.zero_add, List.append_nil, List.drop_left' (by omega)]) h2 (by omega) (by omega) o1 (by simp)
 have o2 : dK g2 v2 34 1 [m1, m2] (fun k => ah k h = .none) := o2
 have fin : ∀ c i (K : A2 → Hp → RS), uo c i K (T50 x v2 (i64 (0 + (12 + r1.length) + (12 + r2.length) : Nat))) g2 = .ex 0 (T20 v2 (i64 (24 + r1.length + r2.length : Nat))) g2 := fun c i K => by
  simp only [uo, K3, t50_0, t50_4, t50_5]
  have hx : (0 + (12 + r1.length) + (12 + r2.length) : Nat) = 24 + r1.length + r2.length := by omega
  rw [hx]
  have z : ∀ K : AV → Hp → RS, Seat.Z (i64 (cI r1 ++ cI r2).length) (i64 (24 + r1.length + r2.length : Nat)) g2 K = K (i64 0) g2 := fun K => by
   rw [uT, hl, Int.sub_self]; rfl
  have ge : kY (i64 0) (pi 8) g2 = .ok (.bool false) g2 := rfl
  (rw [cU (kR.len (w.up O2).rd), z, aM ge, aY]; try rfl)
 exact ⟨v2, m1, m2, _, g2, .of (r' := T13 v2 (i64 (24 + r1.length + r2.length : Nat))) (h1 := g2) T.e46 (by simp) (.eh (r' := T50 x .al (i64 (0 : Nat))) (h' := h) (fun c i K => by simp only [k46_0, K1, dh]; rfl)
  (.seq (.bJ (.loop k1 (.loop k2 (.fh (.aU fin))))) (.aU fun c i K => by simp only [k46_6, K2, t20_4, t20_5]))) rfl, O2, W2, o2, p2 _ _ s1, s2⟩
end
open Go.Cod
set_option maxRecDepth 20000
noncomputable section
variable {p : Pg} {h h0 h' h1 h2 h3 : Hp} {q j k N D : P4} {s t : Bs} {x y v a b d e : AV} {L : List AV}
theorem dB (q : P4) (o : Nat) : nC (.ptr q o) h = .ok (.ptr q o) h := rfl
theorem bG (q : P4) (o n : Nat) : fA n (.ptr q o) h = .ok (.ptr q (o + n)) h := rfl
theorem JF (m n : Int) : fW false [i64 m, i64 n] h = .ok (i64 (max m n)) h := by
 show RV.ok (.int .i64 (@Bool.rec (fun _ => Int) m n (FP m n))) h = _
 rw [lZ]
 by_cases g : m < n
 ·rw [decide_eq_true g, Int.max_eq_right (by omega)]
 ·rw [decide_eq_false g, Int.max_eq_left (by omega)]
theorem Cq (m n : Int) : fW true [i64 m, i64 n] h = .ok (i64 (min m n)) h := by
 show RV.ok (.int .i64 (@Bool.rec (fun _ => Int) m n (FP n m))) h = _
 rw [lZ]
 by_cases g : n < m
 ·rw [decide_eq_true g, Int.min_eq_right (by omega)]
 ·rw [decide_eq_false g, Int.min_eq_left (by omega)]
theorem Qn (n : Int) : fW false [i64 n, i0] h = .ok (i64 (max n 0)) h := JF n 0
theorem Tv {K : AV → Hp → RS} : Seat.Y i0 i0 h K = K (.bool false) h := rfl
theorem kW {n : Int} {K : AV → Hp → RS} (hn : 0 ≤ n) : Seat.Y (i64 n) i0 h K = K (.bool false) h := by
 show Seat.Y (i64 n) (i64 0) h K = _
 rw [di, decide_eq_false (by omega)]
def qc (n : Int) : Bs := le 1 (u64 0) ++ dM n
def nS : Bs := le 1 (u64 1) ++ (dM 0 ++ dM 0)
def qV (n : Int) : Bs := cI (qc n) ++ cI nS
theorem jT (n : Int) : (qc n).length = 9 := by unfold qc; rw [List.length_append, dr, bQ]
theorem jU : nS.length = 17 := by unfold nS; rw [List.length_append, List.length_append, dr, bQ]
theorem iP (n : Int) : (qV n).length = 50 := by unfold qV; rw [List.length_append, fp, fp, jT, jU]
theorem gw {s : Bs} {n : Nat} (h : s.length = n) (h0 : 0 < n) : s ≠ [] := fun e => by rw [e] at h; simp at h; omega
structure Au (p : Pg) : Prop where
 f : FG p
 e39 : ar 39 p.fs = f39
 e40 : ar 40 p.fs = f40
 e51 : ar 51 p.fs = f51
 e73 : ar 73 p.fs = f73
 e75 : ar 75 p.fs = f75
 e85 : ar 85 p.fs = f85
 e86 : ar 86 p.fs = f86
 e90 : ar 90 p.fs = f90
 e92 : ar 92 p.fs = f92
 e93 : ar 93 p.fs = f93
 e94 : ar 94 p.fs = f94
 e98 : ar 98 p.fs = f98
theorem mP (e : ar 39 p.fs = f39) {km : P4} {ck : Nat} (c : Cs h q 0 [.map km, i0]) (hm : ah km h = .map [] ck) : Cv p 39 [.ptr q 0] h i0 h := by
 have lk : uZ (.one .i) iS true (.map km) i0 h = .ok (.gh [iS, .bool false]) h := by
  show (Obj.eP (ah km h) _ (.err 62) : RV) = _
  rw [hm]; rfl
 refine .of (r' := T29 i0) (h1 := h) e (by simp) (.eh (r' := T15 (.ptr q 0) i0) (h' := h) (fun c' i K => ?_) (.Fb (.Iw (.aU fun c' i K => ?_)))) rfl
 ·simp only [k39_0, K1, dh]
  (rw [aA, av, aC (az c 1 rfl)]; try rfl)
 ·simp only [k39_1, K2, wE, wF]
  (rw [aA, av, aC (az c 0 rfl), aM lk, jm (show Seat.ext 0 (.gh [iS, .bool false]) h = .ok iS h from rfl), jm (show Seat.ext 1 (.gh [iS, .bool false]) h = .ok (.bool false) h from rfl), kP, bS, Bool.not_false, dY]; try rfl)
theorem Kj (e : ar 73 p.fs = f73) (c : Cs h q 0 [x, i0]) : Cv p 73 [.ptr q 0] h i0 h := by
 refine .of (r' := T29 i0) (h1 := h) e (by simp) (.aU fun c' i K => ?_) rfl
 simp only [k73_0, K1, dh]
 (rw [aA, av, aC (az c 1 rfl)]; try rfl)
theorem Kk (T : Au p) {km : P4} {ck : Nat} (c : Cs h q 0 [.map km, i0]) (hm : ah km h = .map [] ck) : Cv p 98 [.ptr q 0] h .al h := by
 have cn := mP T.e39 c hm
 refine .of (r' := T29 .al) (h1 := h) T.e98 (by simp) (.eh (r' := T15 (.ptr q 0) .al) (h' := h) (fun c' i K => ?_) (.seq (.to (r' := T36 (.ptr q 0) .al i0) (h' := h) (cn.mono fun m g K => ?_) (.bJ (i := 0) (r' := T66 .al) (h' := h) (.fh (.aU fun c' i K => ?_)))) (.aU fun c' i K => ?_))) rfl
 ·simp only [k98_0, K1, dh]
 ·simp only [k98_1, K2, wE, wF]
  (rw [aD g]; try rfl)
 ·simp only [k98_2, K3, t36_0, t36_3, t36_4]
  (rw [aA, av, aC (az c 1 rfl), Tv, aY]; try rfl)
 ·simp only [k98_4, K1, t66_3]
theorem AG (e : ar 75 p.fs = f75) {m1 m2 vm : AV} (c : Cs h q 0 [m1, m2, vm, i0]) (n : Int) : Cv p 75 [.ptr q 0, i64 n] h .al h := by
 refine .of (r' := T1 .al) (h1 := h) e (by simp) (.eh (r' := T2 (.ptr q 0) (i64 n) .al) (h' := h) (fun c' i K => ?_) (.seq (.eh (r' := T25 (.ptr q 0) .al (i64 (max n 0))) (h' := h) (fun c' i K => ?_) (.bJ (i := 0) (r' := T22 .al) (h' := h) (.fh (.aU fun c' i K => ?_)))) (.aU fun c' i K => ?_))) rfl
 ·simp only [k75_0, K2, bE, bF]
 ·simp only [k75_1, K3, t2_0, t2_1, t2_5]
  (rw [aM (Qn n)]; try rfl)
 ·simp only [k75_2, K3, t25_0, t25_5, t25_6]
  (rw [aA, av, aC (az c 3 rfl), kW (by omega), aY]; try rfl)
 ·simp only [k75_5, K1, t22_5]
theorem AH (e : ar 94 p.fs = f94) (c : Cs h N 0 L) (h10 : L[10]? = some i0) (h13 : L[13]? = some i0) (n : Int) : Cv p 94 [.ptr N 0, i64 n] h .al h := by
 refine .of (r' := T1 .al) (h1 := h) e (by simp) (.eh (r' := T2 (.ptr N 0) (i64 n) .al) (h' := h) (fun c' i K => ?_) (.seq (.eh (r' := T25 (.ptr N 0) .al (i64 (max n 0))) (h' := h) (fun c' i K => ?_) (.bJ (i := 0) (r' := T22 .al) (h' := h) (.fh (.aU fun c' i K => ?_)))) (.aU fun c' i K => ?_))) rfl
 ·simp only [k94_0, K2, bE, bF]
 ·simp only [k94_1, K3, t2_0, t2_1, t2_5]
  (rw [aA, av, av, Nat.add_zero, aC (az c 13 h13), aM (Qn n)]; try rfl)
 ·simp only [k94_2, K3, t25_0, t25_5, t25_6]
  (rw [aA, av, aC (az c 10 h10), kW (by omega), aY]; try rfl)
 ·simp only [k94_5, K1, t22_5]
structure AY (h : Hp) (acc cho km : P4) : Prop where
 acc : ∃ vm, Ob h acc 134 true .plain [i0, i0, vm, i0]
 cho : Ob h cho 128 true .plain [.map km, i0]
 km : ∃ ck, ah km h = .map [] ck
theorem AY.Oc (I : AY h j k q) : ∃ vm, Cs h j 0 [i0, i0, vm, i0] := let ⟨_, g⟩ := I.acc; ⟨_, Ob.c0 g⟩
theorem MQ : bK .gt i0 i0 h = .ok (.bool false) h := rfl
theorem Ao (T : Au p) {acc cho km : P4} (c : Cs h N 0 L) (I : AY h acc cho km) (h7 : L[7]? = some (.ptr acc 0)) (h9 : L[9]? = some (.ptr cho 0)) (h10 : L[10]? = some i0) : Cv p 40 [.ptr N 0] h (.bool false) h := by
 obtain ⟨vm, ca⟩ := I.Oc
 obtain ⟨ck, hm⟩ := I.km
 have cn := mP T.e39 (Ob.c0 I.cho) hm
 have cv := AG T.e75 ca 0
 have sn : same i0 i0 = true := dj .i64 0
 have sN : same (.ptr N 0) (.ptr N 0) = true := bm N 0
 have l9 := az c 9 h9
 have l7 := az c 7 h7
 have l10 := az c 10 h10
 obtain ⟨r1, k1, a0, a16, a17, a18⟩ : ∃ r1, Rn p (fst (fst (bh x40))) (T14 (.ptr N 0)) h (.nm r1 h) ∧ y0 r1 = .ptr N 0 ∧ y16 r1 = .al ∧ y17 r1 = i64 0 ∧ y18 r1 = i0 :=
  ⟨_, .eH (.ro (.ptr N 0) rfl <| .ro (.ptr N 0) rfl <| .ro (.ptr N (0 + 9)) rfl <| .rM (v := .ptr cho 0) (g' := h) l9 <| .call (v := i0) (h' := h) cn <|
   .gB (v := .ptr N 0) (g' := h) (h1' := h) rfl rfl sN <| .gB (v := .ptr N 0) (g' := h) (h1' := h) rfl rfl sN <| .gB (v := .ptr N (0 + 7)) (g' := h) (h1' := h) rfl rfl (bm _ _) <| .gB (v := .ptr acc 0) (g' := h) (h1' := h) l7 l7 (bm _ _) <| .call (v := .al) (h' := h) cv <|
   .ro (i64 0) rfl <| .Tm (v := i0) (g' := h) (h1' := h) (h2' := h) rfl rfl rfl sn <| .nil), rfl, rfl, rfl, rfl⟩
 have e1 : ∀ c i (K : A2 → Hp → RS), k40_1 c i K r1 h = .ex 0 (T14 (.ptr N 0)) h := fun c i K => by
  simp only [k40_1, K4, a0, a16, a17, a18]
  have y : ∀ K : AV → Hp → RS, Seat.Y i0 (i64 0) h K = K (.bool false) h := fun K => kW (n := 0) (Int.le_refl 0)
  (rw [y, aY]; try rfl)
 obtain ⟨r2, k2, b2⟩ : ∃ r2, Rn p (fst (bh (bh x40))) (T14 (.ptr N 0)) h (.nm r2 h) ∧ y2 r2 = .bool false :=
  ⟨_, .eH (.ro (.ptr N 0) rfl <| .ro (.ptr N 0) rfl <| .ro (.ptr N (0 + 9)) rfl <| .rM (v := .ptr cho 0) (g' := h) l9 <| .call (v := i0) (h' := h) cn <|
   .gB (v := .ptr N 0) (g' := h) (h1' := h) rfl rfl sN <| .gB (v := .ptr N 0) (g' := h) (h1' := h) rfl rfl sN <| .gB (v := .ptr N (0 + 10)) (g' := h) (h1' := h) rfl rfl (bm _ _) <| .gB (v := i0) (g' := h) (h1' := h) l10 l10 sn <|
   .rM (v := .bool false) (g' := h) MQ <| .ro (.bool false) rfl <| .nil), rfl⟩
 refine .of (r' := r2) (h1 := h) T.e40 (by simp) (.eh (r' := T14 (.ptr N 0)) (h' := h) (fun c i K => ?_) (.seq (.seq k1 (.bJ (.fh (.aU e1)))) (.seq k2 .ret))) ?_
 ·simp only [k40_0, K1, dh]
 ·show RV.ok (y2 r2) h = _
  rw [b2]
theorem Cu (T : Au p) {acc cho km : P4} (c : Cs h N 0 L) (I : AY h acc cho km) (h9 : L[9]? = some (.ptr cho 0)) : Cv p 51 [.ptr N 0] h aH h := by
 obtain ⟨ck, hm⟩ := I.km
 have c1 := Kj T.e73 (Ob.c0 I.cho)
 have c2 := Kk T (Ob.c0 I.cho) hm
 refine .cS (r' := T27) (h1 := h) T.e51 (by simp) (.to (r' := T62 (.ptr N 0) i0 .al (i64 0) i0) (h' := h) ((c1.and c2).mono fun m g K => ?_) (.bJ (i := 0) (.fh (.aU fun c' i K => ?_)))) rfl
 ·obtain ⟨g1, g2⟩ := g
  simp only [k51_0, K1, dh]
  (rw [aA, av, aC (az c 9 h9), aD g1, aA, av, aC (az c 9 h9), aD g2]; try rfl)
 ·simp only [k51_1, K5, t62_0, t62_2, t62_14, t62_15, t62_16]
  have y : ∀ K : AV → Hp → RS, Seat.Y i0 (i64 0) h K = K (.bool false) h := fun K => kW (n := 0) (Int.le_refl 0)
  (rw [y, aY]; try rfl)
theorem MS (w : Qe p) (e90 : ar 90 p.fs = f90) (wr : Wr h0 h q s) (m n : Int) (hs : s.length ≤ 1000) : ∃ h', Cv p 90 [.ptr q 0, .agg [i64 m, i64 n]] h aH h' ∧ Wr h0 h' q (s ++ (dM m ++ dM n)) := by
 obtain ⟨j, h1, f1, f2, f3, f4, f5, _⟩ := gg (el := 108) (l := [i64 m, i64 n]) wr.wf (by simp)
 obtain ⟨hb, B1, w1, g⟩ := wr.base f4 f5
 have ob : Ob hb j 108 true .plain [i64 m, i64 n] := f3.eq (g j f2)
 obtain ⟨h2, c2, w2⟩ := pZ w w1 (n := m) (by omega)
 have o2 := ob.old w2.old
 obtain ⟨h3, c3, w3⟩ := pZ w w2 (n := n) (by simp [bQ]; omega)
 refine ⟨h3, .cS (r' := T27) (h1 := h3) e90 (by simp) (.ag ((c2.and c3).mono fun m' u => ?_)) rfl, ?_⟩
 ·obtain ⟨u1, u2⟩ := u
  simp only [k90_0, K2, bE, bF]
  (rw [fU f1, av, aC (az (Ob.c0 f3) 0 rfl), aD u1, av, aC (az (Ob.c0 o2) 1 rfl), aD u2]; try rfl)
 ·rw [← List.append_assoc]
  exact w3.Ur B1
theorem AJ (e93 : ar 93 p.fs = f93) (W : Wf h) {m1 m2 vm tp : AV} (c : Cs h q 0 [m1, m2, vm, tp]) : ∃ h', Cv p 93 [.ptr q 0] h (.agg [m1, m2]) h' ∧ Old h h' ∧ Wf h' := by
 obtain ⟨j, h1, f1, f2, f3, f4, f5, _⟩ := my (el := 108) (n := 2) W (c := .k1 (Y2 i0 i0)) trivial (by decide)
 obtain ⟨h2, d1, d2, d3, d4⟩ := mz (k := 0) (m := 2) (l' := [m1, m2]) f3 rfl (by rw [bO]; omega)
 have d2 : Ob h2 j 108 true .plain [m1, m2] := d2
 have c2 : Cs h1 q 0 [m1, m2] := (c.old f4).sub 0 [m1, m2] (by simp) (fun i hi => by
  match i, hi with
  | 0, _ => rfl
  | 1, _ => rfl)
 have rt : sY [.agg 2 .h0 .h2] (T29 (.ptr j 0)) h2 = .ok (.agg [m1, m2]) h2 := by
  show (RV.rec (fun v _ => .ok v h2) (fun n => .err n) (Seat.ja 2 (.ptr j 0) h2) : RV) = _
  rw [gv (m := 2) (Ob.c0 d2) rfl]
 refine ⟨h2, .of (r' := T29 (.ptr j 0)) (h1 := h2) e93 (by simp) (.aU fun c' i K => ?_) rt, fun k hk => by rw [d3 k (fun e => by rw [e] at hk; exact hk f2), f4 k hk], dZ f5 f3 d3 d4⟩
 simp only [k93_0, K1, dh]
 (rw [rJ f1, aA, av, Nat.add_zero, rI (gv (m := 2) c2 rfl), uN d1]; try rfl)
theorem Kl (T : Au p) (W : Wf h) {kind : Int} {f : Nat} {c : AV} {body : Bs} (hl : body.length ≤ 1000) (cl : ∀ {h2 : Hp} {q : P4} {s : Bs}, Wr h h2 q s → s.length ≤ 1000 → ∃ h3, Cv p f [.ptr q 0, c] h2 aH h3 ∧ Wr h h3 q (s ++ body)) :
  ∃ v h', Cv p 85 [i64 kind, .fn f [c]] h v h' ∧ dK h' v 5 1 (bc (cI (le 1 (u64 kind) ++ body))) (fun k => ah k h = .none) ∧ Old h h' ∧ Wf h' := by
 obtain ⟨q, h1, c1, w1, O1⟩ := qZ T.f.w W
 obtain ⟨h2, c2, w2⟩ := DU T.f.w w1 (n := kind) (by simp)
 obtain ⟨h3, c3, w3⟩ := cl w2 (by simp [dr])
 obtain ⟨vd, h4, c4, o4, O4, W4⟩ := yh T.f.w T.f.d.e58 w3 (by simp [dr]; omega)
 obtain ⟨v, h5, c5, o5, O5, W5⟩ := Kh T.f W4 (dK.NZ o4) (gw (n := 1 + body.length) (by simp [dr]) (by omega)) (by simp [dr]; omega)
 rw [List.nil_append] at o5
 refine ⟨v, h5, .of (r' := T1 v) (h1 := h5) T.e85 (by simp) (.ag ((c1.and (c2.and (c3.and (c4.and c5)))).mono fun m u => ?_)) rfl, dK.mono o5 fun k hk => O4.none hk, O4.trans O5, W5⟩
 obtain ⟨u1, u2, u3, u4, u5⟩ := u
 simp only [k85_0, K2, bE, bF]
 (rw [aD u1, aD u2, NW (show cd (aw p (exec p m)) (.fn f [c]) [.ptr q 0] h2 = .ok aH h3 from u3), aD u4, aD u5]; try rfl)
theorem MT (T : Au p) {bx : P4} {bT : Int} (ob : Cs h bx 0 [.ptr N 0]) (oN : Cs h N 0 L) (h6 : L[6]? = some (i64 bT)) {q : P4} {s : Bs} (w : Wr h h2 q s) (hs : s.length ≤ 1000) : ∃ h3, Cv p 86 [.ptr q 0, .ptr bx 0] h2 aH h3 ∧ Wr h h3 q (s ++ dM bT) := by
 obtain ⟨h3, c3, w3⟩ := pZ T.f.w w (n := bT) (by omega)
 refine ⟨h3, .cS (r' := T27) (h1 := h3) T.e86 (by simp) (.ag (c3.mono fun m u => ?_)) rfl, w3⟩
 simp only [k86_0, K2, bE, bF]
 (rw [aC (rf (ob.old w.old) rfl), aA, av, aC (az (oN.old w.old) 6 h6), aD u]; try rfl)
theorem MU (T : Au p) {bx acc : P4} {vm : AV} (ob : Cs h bx 0 [.ptr N 0]) (oN : Cs h N 0 L) (h7 : L[7]? = some (.ptr acc 0)) (ca : Cs h acc 0 [i0, i0, vm, i0]) {q : P4} {s : Bs} (w : Wr h h2 q s) (hs : s.length ≤ 1000) : ∃ h3, Cv p 92 [.ptr q 0, .ptr bx 0] h2 aH h3 ∧ Wr h h3 q (s ++ (dM 0 ++ dM 0)) := by
 obtain ⟨h3, c3, O3, W3⟩ := AJ T.e93 w.wf (ca.old w.old)
 obtain ⟨h4, c4, w4⟩ := MS T.f.w T.e90 (w.up O3 W3) 0 0 hs
 refine ⟨h4, .cS (r' := T27) (h1 := h4) T.e92 (by simp) (.ag ((c3.and c4).mono fun m u => ?_)) rfl, w4⟩
 obtain ⟨u1, u2⟩ := u
 simp only [k92_0, K2, bE, bF]
 (rw [aC (rf (ob.old w.old) rfl), aA, av, aC (az (oN.old w.old) 7 h7), aD u1, aD (show aw p (exec p m) 90 [.ptr q 0, .agg [i0, i0]] h3 = .ok aH h4 from u2)]; try rfl)
end
end Go.Am.Seat
namespace Go.Am
noncomputable section
def Rr (aop : la) (r : A2) (v : AV) : Nat → List Hp → Prop
 | 0, _ => True
 | _ + 1, [] => False
 | n + 1, hh :: t => (∃ h', aop.run r hh = .ok v h') ∧ Rr aop r v n t
theorem wJ {aop : la} {r : A2} {v : AV} (sv : same v v = true) : ∀ (n : Nat) (hs : List Hp), Rr aop r v n hs → ei aop r v hs n = true
 | 0, hs, _ => sH hs
 | n + 1, [], g => g.elim
 | n + 1, hh :: t, ⟨⟨h', e⟩, g⟩ => by
  show (@RV.rec (fun _ => Bool) (fun v' _ => @Bool.rec (fun _ => Bool) false (ei aop r v t n) (same v v')) (fun _ => false) (aop.run r hh)) = true
  rw [e]
  show (@Bool.rec (fun _ => Bool) false (ei aop r v t n) (same v v)) = true
  rw [sv]
  exact wJ sv n t g
theorem Rr.z {aop : la} {r : A2} {v : AV} {hs : List Hp} : Rr aop r v 0 hs := trivial
theorem Rr.s {aop : la} {r : A2} {v : AV} {hh h' : Hp} {t : List Hp} {n : Nat} (e : aop.run r hh = .ok v h') (g : Rr aop r v n t) : Rr aop r v (n + 1) (hh :: t) := ⟨⟨_, e⟩, g⟩
theorem Ds.AW {p : Pg} {l : List DI} {d : aQ} {aop : la} {r : A2} {h g g' : Hp} {hs : List Hp} {v : AV} {s : RS} {n : Nat} (e : aop.run r g = .ok v g') (sv : same v v = true) (rr : Rr aop r v n hs) (k : Ds p l (bN d v r) h g hs s) : Ds p (.mk (.rd n) (.o d (.op aop)) :: l) r h g hs s := k.mono fun m k => by
 show wZ d aop n (dn p (exec p m) l) r h g hs (aop.run r g) = s
 rw [e]
 show (@Bool.rec (fun _ => RS) (.err 211) (dn p (exec p m) l (bN d v r) h g hs) (ei aop r v hs n)) = s
 rw [wJ sv n hs rr]; exact k
theorem Ds.dL {p : Pg} {l : List DI} {d : aQ} {aop : la} {rg : A2} {h h' g : Hp} {hs : List Hp} {v : AV} {st : RS} (e : aop.run rg h = .ok v h') (k : Ds p l (bN d v rg) h' h' (g :: hs) st) : Ds p (.mk .dL (.o d (.op aop)) :: l) rg h g hs st := k.mono fun m k => by
 show mZ d (dn p (exec p m) l) rg g hs (aop.run rg h).iU = st
 rw [e]; exact k
end
end Go.Am
namespace Go.Am.Seat
open Go.Cod
set_option maxRecDepth 20000
noncomputable section
variable {p : Pg} {h h0 h' h1 h2 h3 : Hp} {q j k N D : P4} {s t : Bs} {x y v a b d e : AV} {L : List AV} {A B : P4 → Prop}
theorem Fr.set (F : Fr q h h') (hk : ah k h = .none) (g : ∀ j, j ≠ k → ah j h1 = ah j h') : Fr q h h1 := fun j hj hn => by
 rw [g j (fun e => by rw [e] at hn; exact hn hk), F j hj hn]
def cT (A : P4 → Prop) (h h' : Hp) : Prop := ∀ j, ¬ A j → ah j h ≠ .none → ah j h' = ah j h
theorem cT.refl (A : P4 → Prop) (h : Hp) : cT A h h := fun _ _ _ => rfl
theorem cT.trans (a : cT A h h1) (b : cT A h1 h2) : cT A h h2 := fun j ha hj => (b j ha (by rw [a j ha hj]; exact hj)).trans (a j ha hj)
theorem cT.mono (a : cT A h h') (g : ∀ j, A j → B j) : cT B h h' := fun j hb hj => a j (fun ha => hb (g j ha)) hj
theorem cT.of (O : Old h h') : cT A h h' := fun j _ hj => O j hj
theorem cT.one (g : ∀ j, j ≠ q → ah j h' = ah j h) (hq : A q) : cT A h h' := fun j ha _ => g j (fun e => ha (e ▸ hq))
theorem cT.on (g : ∀ j, j ≠ q → ah j h' = ah j h) : cT (fun j => j = q) h h' := fun j ha _ => g j ha
theorem cT.Ud (g : Fr q h h') : cT (fun j => j = q) h h' := fun j ha hj => g j ha hj
theorem cT.fr (g : Fr q h h') (hq : A q) : cT A h h' := fun j ha hj => g j (fun e => ha (e ▸ hq)) hj
theorem cT.ob (F : cT A h h') {el : Nat} {ex : Bool} {fl : Fl} {l : List AV} (o : Ob h j el ex fl l) (hj : ¬ A j) : Ob h' j el ex fl l := o.eq (F j hj o.ne)
theorem cT.old (F : cT A h h') (O : Old h0 h) (g : ∀ j, A j → ah j h0 = .none) : Old h0 h' := fun j hj => by
 rw [F j (fun ha => hj (g j ha)) (by rw [O j hj]; exact hj), O j hj]
theorem cT.less (F : cT A h h') (O : Old h0 h) (g : ∀ j, A j → B j ∨ ah j h0 = .none) : cT B h0 h' := fun j hb hj => by
 rw [F j (fun ha => (g j ha).elim hb hj) (by rw [O j hj]; exact hj), O j hj]
theorem cT.lt (F : cT A h0 h) (G : cT B h h') (g : ∀ j, B j → A j ∨ ah j h0 = .none) : cT A h0 h' := fun j ha hj => by
 rw [G j (fun hb => (g j hb).elim ha hj) (by rw [F j ha hj]; exact hj), F j ha hj]
def fT (h : Hp) (D : P4) (s : Bs) : Prop := ∃ b, Ob h D 92 true .plain [b, i64 s.length] ∧ SB h b s
theorem SB.oM (w : SB h x s) (F : cT A h h') (g : ∀ k, A k → ∀ fl l, ¬ Ob h k 5 false fl l) : SB h' x s := w.vw fun k fl l ok => F k (fun ha => g k ha fl l ok) ok.ne
theorem fq {el el' : Nat} {ex ex' : Bool} {fl fl' : Fl} {l l' : List AV} (o : Ob h q el ex fl l) (g : el ≠ el' ∨ ex ≠ ex') : ¬ Ob h q el' ex' fl' l' := fun o' => o.apart o' g rfl
structure ri (p : Pg) : Prop where
 r : Au p
 e37 : ar 37 p.fs = f37
 e48 : ar 48 p.fs = f48
 e50 : ar 50 p.fs = f50
 e55 : ar 55 p.fs = f55
 e79 : ar 79 p.fs = f79
 e119 : ar 119 p.fs = f119
 e157 : ar 157 p.fs = f157
 e181 : ar 181 p.fs = f181
 e182 : ar 182 p.fs = f182
 e190 : ar 190 p.fs = f190
theorem MV (T : ri p) (W : Wf h) {b0 s0 : AV} (o : Ob h D 92 true .plain [b0, s0]) (r : SB h x s) (hs : s ≠ []) (hl : s.length ≤ 4194304) : ∃ h', Cv p 97 [.ptr D 0, x] h i0 h' ∧ fT h' D s ∧ cT (fun j => j = D) h h' ∧ Wf h' := by
 obtain ⟨v, h1, c1, o1, O1, W1⟩ := qa T.r.f.d.e58 W r.rd (by omega)
 have oD := o.old O1
 have sb := dK.sb o1 hs
 obtain ⟨h2, a1, a2, a3, a4⟩ := ff (k := 0) (v := v) oD (by simp) sb.one
 have a2 : Ob h2 D 92 true .plain [v, s0] := a2
 have W2 := dZ W1 oD a3 a4
 have sb2 : SB h2 v s := sb.oM (A := fun j => j = D) (.on a3) fun k e fl l ok => by rw [e] at ok; exact fq oD (.inl (by decide)) ok
 obtain ⟨h3, b1, b2, b3, b4⟩ := ff (k := 1) (v := i64 s.length) a2 (by simp) rfl
 have b2 : Ob h3 D 92 true .plain [v, i64 s.length] := b2
 have sb3 : SB h3 v s := sb2.oM (A := fun j => j = D) (.on b3) fun k e fl l ok => by rw [e] at ok; exact fq a2 (.inl (by decide)) ok
 have gt : fj (i64 s.length) (pi 4194304) h = .ok (.bool false) h := by
  show fj (.int .i64 s.length) (.int .i64 4194304) h = _
  rw [rH, decide_eq_false (by omega)]
 refine ⟨h3, .of (r' := T1 i0) (h1 := h3) T.r.f.e97 (by simp) (.ag (c1.mono fun m u => ?_)) rfl, ⟨v, b2, sb3⟩, ((cT.of O1).trans (.on a3)).trans (.on b3), dZ W2 a2 b3 b4⟩
 simp only [k97_0, K2, bE, bF]
 (rw [cU (kR.len r.rd), aM gt, aY, aD u, aA, av, Nat.zero_add, cw a1, aA, av, aC (az (Ob.c0 a2) 0 rfl), cU (kR.len sb2.rd), aA, av, Nat.zero_add, cw b1]; try rfl)
theorem JA (T : ri p) (W : Wf h) (w : fT h D s) (hl : s.length ≤ 4194304) (n : Int) : ∃ h', Cv p 37 [.ptr D 0, i64 n] h aH h' ∧ fT h' D s ∧ cT (fun j => j = D) h h' ∧ Wf h' := by
 obtain ⟨b, o, sb⟩ := w
 have sb0 := sb
 obtain ⟨q, o', L, rfl, e2, e3, e4⟩ := sb
 obtain ⟨g1, g2⟩ := SB.cut e2 e3 e4 (Nat.zero_le s.length) (Nat.le_refl _)
 rw [Nat.sub_zero, List.drop_zero, List.take_length] at g2
 rw [Nat.sub_zero] at g1
 obtain ⟨h1, a1, a2, a3, a4⟩ := ff (k := 0) (v := .cA q (o' + 0) s.length 1) o (by simp) rfl
 have a2 : Ob h1 D 92 true .plain [.cA q (o' + 0) s.length 1, i64 s.length] := a2
 have W1 := dZ W o a3 a4
 have sb1 : SB h1 (.cA q (o' + 0) s.length 1) s := g2.oM (A := fun j => j = D) (.on a3) fun k e fl l ok => by rw [e] at ok; exact fq o (.inl (by decide)) ok
 obtain ⟨h2, b1, b2, b3, b4⟩ := ff (k := 1) (v := i64 s.length) a2 (by simp) rfl
 have b2 : Ob h2 D 92 true .plain [.cA q (o' + 0) s.length 1, i64 s.length] := b2
 have sb2 : SB h2 (.cA q (o' + 0) s.length 1) s := sb1.oM (A := fun j => j = D) (.on b3) fun k e fl l ok => by rw [e] at ok; exact fq a2 (.inl (by decide)) ok
 have l0 := az (Ob.c0 o) 0 (v := .cA q o' s.length 1) rfl
 have l1 := az (Ob.c0 o) 1 (v := i64 s.length) rfl
 have sub : hR (i64 s.length) (i64 s.length) h = .ok (i64 0) h := by
  show hR (.int .i64 _) (.int .i64 _) h = _
  rw [qY, Int.sub_self]; rfl
 have mn : fW true [i64 (max n 0), i64 0] h = .ok (i64 0) h := by
  rw [Cq, Int.min_eq_right (by omega)]
 have add : fX (i64 s.length) (i64 0) h = .ok (i64 s.length) h := by
  show fX (.int .i64 _) (.int .i64 _) h = _
  rw [ye, Int.add_zero, gV _ (by unfold dq; omega)]
 have cut : cY 1 (.c (.cA q o' s.length 1)) .none (.some (.c (i64 s.length))) .none .nil h = .ok (.cA q (o' + 0) s.length 1) h := g1
 refine ⟨h2, .cS (r' := T27) (h1 := h2) T.e37 (by simp) (.eh (r' := T14 (.ptr D 0)) (h' := h1) (fun c i K => ?_) (.aU fun c i K => ?_)) rfl, ⟨_, b2, sb2⟩, (cT.on a3).trans (.on b3), dZ W1 a2 b3 b4⟩
 ·simp only [k37_0, K2, bE, bF]
  (rw [ai (dB D 0), ai (bG D 0 0), ai l0, ai (dB D 0), ai (bG D 0 1), ai l1, ai (Qn n), ai (dB D 0), ai (bG D 0 0), ai l0, ai (kR.len sb0.rd), ai (dB D 0), ai (bG D 0 1), ai l1, ai sub, ai mn, ai add, ai cut, ai (dB D 0), ai (bG D 0 0), kX (show RV.iU (sT (.ptr D (0 + 0)) (.cA q (o' + 0) s.length 1) h) = .ok .undef h1 by rw [show (0 + 0 : Nat) = 0 from rfl, a1]; rfl)]; try rfl)
 ·simp only [k37_1, K1, rK]
  (rw [aA, av, aC (az (Ob.c0 a2) 0 rfl), cU (kR.len sb1.rd), aA, av, Nat.zero_add, cw b1]; try rfl)
theorem Cw (T : ri p) (W : Wf h) {bT : Int} {acc cho km : P4} {b0 s0 : AV} (o : Ob h N 81 true .plain L) (hL : L.length = 25) (l2 : L[2]? = some (.ptr D 0)) (l6 : L[6]? = some (i64 bT)) (l7 : L[7]? = some (.ptr acc 0)) (l10 : L[10]? = some i0) (l13 : L[13]? = some i0) (I : AY h acc cho km) (oD : Ob h D 92 true .plain [b0, s0]) :
  ∃ h', Cv p 50 [.ptr N 0] h aH h' ∧ Ob h' N 81 true .plain (L.set 5 (i64 50)) ∧ fT h' D (qV bT) ∧ cT (fun j => j = N ∨ j = D) h h' ∧ Wf h' := by
 obtain ⟨vm, ca⟩ := I.Oc
 have cN := Ob.c0 o
 obtain ⟨bx, h1, f1, f2, f3, f4, f5, _⟩ := JS (el := 68) (v := .ptr N 0) W rfl rfl
 have cb := Ob.c0 f3
 obtain ⟨vd, h2, c2, o2, O2, W2⟩ := Kl (kind := 0) (f := 86) (c := .ptr bx 0) T.r f5 (body := dM bT) (by rw [bQ]; omega) fun w hs => MT T.r cb (cN.old f4) l6 w hs
 have O12 := f4.trans O2
 have cb2 := cb.old O2
 have cN2 := cN.old O12
 have ca2 := ca.old O12
 have gt : fj i0 i0 h2 = .ok (.bool false) h2 := rfl
 have s0' : Ev fun m => ∀ K : A2 → Hp → RS, k50_0 (aw p (exec p m)) (aF p (exec p m)) K (aR [.ptr N 0] 0 .nil) h = K (T58 (.ptr bx 0) vd) h2 := c2.mono fun m u K => by
  simp only [k50_0, K1, dh]
  (rw [fU f1, aD (show aw p (exec p m) 85 [i0, .fn 86 [.ptr bx 0]] h1 = .ok vd h2 from u), aC (rf cb2 rfl), aA, av, av, Nat.add_zero, aC (az cN2 13 l13), aM gt, aY]; try rfl)
 have cv := AG T.r.e75 ca2 0
 have lb : lD (.ptr bx 0) h2 = .ok (.ptr N 0) h2 := rf cb2 rfl
 obtain ⟨r1, k1, a1, a2, a29, a30, a31⟩ : ∃ r1, Rn p (fst (fst (bh x50))) (T58 (.ptr bx 0) vd) h2 (.nm r1 h2) ∧ y1 r1 = .ptr bx 0 ∧ y2 r1 = vd ∧ y29 r1 = .al ∧ y30 r1 = i64 0 ∧ y31 r1 = i0 :=
  ⟨_, .eH (.rM (v := .ptr N 0) (g' := h2) lb <| .ro (.ptr N 0) rfl <| .ro (.ptr N (0 + 7)) rfl <| .rM (v := .ptr acc 0) (g' := h2) (az cN2 7 l7) <|
   .rM (v := .ptr N 0) (g' := h2) lb <| .ro (.ptr N 0) rfl <| .ro (.ptr N (0 + 13)) rfl <| .ro (.ptr N (0 + 13)) rfl <| .rM (v := i0) (g' := h2) (az cN2 13 l13) <|
   .call (v := .al) (h' := h2) cv <| .ro (i64 0) rfl <| .gB (v := i0) (g' := h2) (h1' := h2) rfl rfl (dj .i64 0) <| .nil), rfl, rfl, rfl, rfl, rfl⟩
 have e1 : ∀ c i (K : A2 → Hp → RS), k50_1 c i K r1 h2 = .ex 0 (T59 (.ptr bx 0) vd .al (i64 0) i0) h2 := fun c i K => by
  simp only [k50_1, K5, a1, a2, a29, a30, a31]
  have y : ∀ K : AV → Hp → RS, Seat.Y i0 (i64 0) h2 K = K (.bool false) h2 := fun K => kW (n := 0) (Int.le_refl 0)
  (rw [y, aY]; try rfl)
 obtain ⟨ve, h3, c3, o3, O3, W3⟩ := Kl (kind := 1) (f := 92) (c := .ptr bx 0) T.r W2 (body := dM 0 ++ dM 0) (by rw [List.length_append, bQ]; omega) fun w hs => MU T.r cb2 cN2 l7 ca2 w hs
 have o2' : dK h3 vd 5 1 (bc (cI (qc bT))) (fun k => ah k h1 = .none) := o2.old fun k _ hk => O3 k hk
 obtain ⟨q2, oq, n2, sl, hn2, cs⟩ := dK.NZ o3
 have lp : (cI nS).length = 29 := by rw [fp, jU]
 have lbt : (cI (qc bT)).length = 21 := by rw [fp, jT]
 have hn2 : (cI nS).length = n2 := hn2
 obtain ⟨vb, h4, g1, g2, g3, g4⟩ := gW (m := n2) (es := 1) W3 o2' (by omega) (new := bc (cI nS)) (by rw [bu]; omega) (by rw [bu, bu]; omega)
 have V : eJ 5 1 vd ve h3 = .ok vb h4 := by
  rw [gA sl (by omega) cs (by rw [bu]; omega) (by omega)]
  exact g1
 have O13 : Old h1 h3 := O2.trans O3
 have O14 : Old h1 h4 := fun k hk => by
  have e := O13 k hk
  rw [g4 k (by rw [e]; exact hk) (fun gb => hk gb), e]
 have O04 : Old h h4 := f4.trans O14
 have sb : SB h4 vb (qV bT) := by
  have : bc (qV bT) = bc (cI (qc bT)) ++ bc (cI nS) := yg _ _
  rw [← this] at g2
  exact dK.sb g2 (gw (iP bT) (by omega))
 have cb4 := cb.old O14
 have cN4 := cN.old O04
 have lb4 : lD (.ptr bx 0) h4 = .ok (.ptr N 0) h4 := rf cb4 rfl
 have s2 : Ev fun m => ∀ K : A2 → Hp → RS, k50_2 (aw p (exec p m)) (aF p (exec p m)) K (T59 (.ptr bx 0) vd .al (i64 0) i0) h2 = K (T58 (.ptr bx 0) vb) h4 := c3.mono fun m u K => by
  simp only [k50_2, K2, t59_1, t59_2]
  (rw [aD (show aw p (exec p m) 85 [i1, .fn 92 [.ptr bx 0]] h2 = .ok ve h3 from u), aM V]; try rfl)
 have ck := AH T.r.e94 cN4 l10 l13 0
 obtain ⟨r2, k2, b1, b2, b50, b51, b52⟩ : ∃ r2, Rn p (fst (fst (bh (bh (bh x50))))) (T58 (.ptr bx 0) vb) h4 (.nm r2 h4) ∧ y1 r2 = .ptr bx 0 ∧ y2 r2 = vb ∧ y50 r2 = .al ∧ y51 r2 = i64 0 ∧ y52 r2 = i0 :=
  ⟨_, .eH (.rM (v := .ptr N 0) (g' := h4) lb4 <| .rM (v := .ptr N 0) (g' := h4) lb4 <| .ro (.ptr N 0) rfl <| .ro (.ptr N (0 + 13)) rfl <| .ro (.ptr N (0 + 13)) rfl <| .rM (v := i0) (g' := h4) (az cN4 13 l13) <|
   .call (v := .al) (h' := h4) ck <| .ro (i64 0) rfl <| .gB (v := i0) (g' := h4) (h1' := h4) rfl rfl (dj .i64 0) <| .nil), rfl, rfl, rfl, rfl, rfl⟩
 have e3 : ∀ c i (K : A2 → Hp → RS), k50_3 c i K r2 h4 = .ex 2 (T58 (.ptr bx 0) vb) h4 := fun c i K => by
  simp only [k50_3, K5, b1, b2, b50, b51, b52]
  have y : ∀ K : AV → Hp → RS, Seat.Y i0 (i64 0) h4 K = K (.bool false) h4 := fun K => kW (n := 0) (Int.le_refl 0)
  (rw [y, aY]; try rfl)
 obtain ⟨h5, c5, dsk, F5, W5⟩ := MV T g3 (oD.old O04) sb (gw (iP bT) (by omega)) (by rw [iP]; omega)
 have oN4 := o.old O04
 have nND : N ≠ D := fun e => (o.apart oD (.inl (by decide))) e
 have oN5 := F5.ob oN4 nND
 have cb5 : Ob h5 bx 68 true .plain [.ptr N 0] := F5.ob (f3.old O14) fun e => by rw [e] at f2; exact oD.ne f2
 obtain ⟨h6, d1, d2, d3, d4⟩ := ff (k := 5) (v := i64 (qV bT).length) oN5 (by omega) rfl
 have W6 := dZ W5 oN5 d3 d4
 have sbl : Am.len vb h5 = .ok (i64 (qV bT).length) h5 := by
  obtain ⟨q, o', L', rfl, _⟩ := sb
  rfl
 have dsk6 : fT h6 D (qV bT) := by
  obtain ⟨b, z1, z2⟩ := dsk
  exact ⟨b, z1.eq (d3 D nND.symm), z2.oM (A := fun j => j = N) (.on d3) fun k e fl l ok => by rw [e] at ok; exact fq oN5 (.inl (by decide)) ok⟩
 refine ⟨h6, .cS (r' := T27) (h1 := h6) T.e50 (by simp) (.to s0' (.seq (.seq k1 (.bJ (.fh (.aU e1)))) (.to s2 (.seq (.seq k2 (.bJ (.fh (.aU e3)))) (.ag (c5.mono fun m u => ?_)))))) rfl, by rw [iP] at d2; exact d2, dsk6, ((cT.of O04).trans (F5.mono fun j g => .inr g)).trans (.one d3 (.inl rfl)), W6⟩
 simp only [k50_8, K2, t58_1, t58_2]
 have q0 : ∀ K : AV → Hp → RS, Seat.Q i0 i0 h5 K = K (.bool true) h5 := fun K => by
  show Seat.Q (i64 0) (i64 0) h5 K = _
  rw [gU, decide_eq_true rfl]
 (rw [aC lb4, aA, av, aC (az cN4 2 l2), aD u, q0, dY, aC (rf (Ob.c0 cb5) rfl), cU sbl, aA, av, Nat.zero_add, cw d1]; try rfl)
end
open Go.Cod
set_option maxRecDepth 20000
noncomputable section
variable {p : Pg} {h h0 h' h1 h2 h3 : Hp} {q j k N D r : P4} {s t : Bs} {x y v a b d e : AV} {L : List AV} {A B : P4 → Prop}
theorem Qo (T : ri p) : Cv p 190 [i0] h (.bool false) h := by
 refine .of (r' := T29 (.bool false)) (h1 := h) T.e190 (by simp) (.aU fun c i K => ?_) rfl
 simp only [k190_0, K1, dh]
 (rw [aM (show gF i0 i0 h = .ok (.bool false) h from rfl)]; try rfl)
theorem MW (T : ri p) : Cv p 182 [i0, i0] h i0 h := by
 have c1 := Qo (h := h) T
 refine .of (r' := T1 i0) (h1 := h) T.e182 (by simp) (.to (r' := T11 i0 i0) (h' := h) (c1.mono fun m g K => ?_) (.aU fun c i K => ?_)) rfl
 ·simp only [k182_0, K2, bE, bF]
  (rw [aD g, aD g, aY, aY]; try rfl)
 ·simp only [k182_1, K2, iQ, iR]
  have y : ∀ K : AV → Hp → RS, Seat.Y i0 i0 h K = K (.bool false) h := fun K => kW (n := 0) (Int.le_refl 0)
  (rw [y, aY, aM (show fj i0 i0 h = .ok (.bool false) h from rfl), aY]; try rfl)
theorem Qp (T : ri p) (c : Cs h j 0 [i0, i0]) : Cv p 181 [.slice j 0 2 2] h i0 h := by
 have sl : FB (.slice j 0 2 2) 1 2 j 0 := .inl ⟨_, rfl⟩
 obtain ⟨r2, h2, ⟨_, rfl⟩, k2⟩ := gz (p := p) (body := .ag k181_2 .skip) (r := T71 i0 (.slice j 0 2 2) (i64 2) (i64 (0 : Nat))) (h := h) 2
  (Inv := fun n r h' => r = T71 i0 (.slice j 0 2 2) (i64 2) (i64 n) ∧ h' = h) (l := 0) (Re := T71 i0 (.slice j 0 2 2) (i64 2) (i64 (2 : Nat))) (fun n r h' hi I => by
   obtain ⟨rfl, rfl⟩ := I
   refine ⟨_, h', .aU fun c' i' K => ?_, rfl, rfl⟩
   simp only [k181_2, K4, t71_3, t71_6, t71_7, t71_8]
   have X : iX 1 (.slice j 0 2 2) (i64 n) h' = .ok (.ptr j (0 + n)) h' := by rw [wH sl hi, Nat.mul_one]
   have e : ([i0, i0] : List AV)[n]? = some i0 := by
    match n, hi with
    | 0, _ => rfl
    | 1, _ => rfl
   have y : ∀ K : AV → Hp → RS, Seat.Y (i64 n) (i64 2) h' K = K (.bool true) h' := fun K => by rw [di, decide_eq_true (by omega)]
   (rw [y, dY, jk X, aC (az c n e), aM (show gF i0 i0 h' = .ok (.bool false) h' from rfl), aY, eF hi (by omega)]; try rfl)) (fun r h' I => by
   obtain ⟨rfl, rfl⟩ := I
   refine .aU fun c' i' K => ?_
   simp only [k181_2, K4, t71_3, t71_6, t71_7, t71_8]
   (rw [di, gT, if_neg (by omega)]; try rfl)) ⟨rfl, rfl⟩
 refine .of (r' := T29 i0) (h1 := h2) T.e181 (by simp) (.eh (r' := T15 (.slice j 0 2 2) i0) (h' := h2) (fun c' i K => ?_) (.seq (.eh (r' := T71 i0 (.slice j 0 2 2) (i64 2) (i64 (0 : Nat))) (h' := h2) (fun c' i K => ?_) (.bJ k2)) (.aU fun c' i K => ?_))) rfl
 ·simp only [k181_0, K1, dh]
 ·simp only [k181_1, K2, wE, wF]
  (rw [cU (yf sl)]; try rfl)
 ·simp only [k181_3, K1, t71_3]
theorem AK (T : ri p) (W : Wf h) : ∃ h', Cv p 157 [.agg [i0, i0], .agg [i0, i0]] h i0 h' ∧ Old h h' ∧ Wf h' := by
 obtain ⟨j1, h1, f1, f2, f3, f4, f5, _⟩ := gg (el := 108) (l := [i0, i0]) W (by simp)
 obtain ⟨j2, h2, g1, g2, g3, g4, g5, _⟩ := gg (el := 108) (l := [i0, i0]) f5 (by simp)
 have o1 := Ob.c0 (f3.old g4)
 have o2 := Ob.c0 g3
 have c1 := MW (h := h2) T
 obtain ⟨jb, h3, b1, b2, b3, b4, b5, _⟩ := rL (el := 3) (es := 1) (n := 2) (z := [i0, i0]) (ps := [.mk 0 1 (.c i0), .mk 1 1 (.c i0)]) (l := [i0, i0]) g5 rfl rfl (by simp)
 have c3 := Qp T (Ob.c0 b3)
 have sn : same i0 i0 = true := dj .i64 0
 obtain ⟨r', rn, e4⟩ : ∃ r', Rn p (bh x157) (T13 (.ptr j1 0) (.ptr j2 0)) h2 (.ret r' h3) ∧ y4 r' = i0 :=
  ⟨_, .seq (.eH (.ro (.ptr j1 (0 + 0)) rfl <| .rM (v := i0) (g' := h2) (az o1 0 rfl) <| .ro (.ptr j2 (0 + 0)) rfl <| .rM (v := i0) (g' := h2) (az o2 0 rfl) <| .call (v := i0) (h' := h2) c1 <|
   .gB (v := .ptr j1 (0 + 1)) (g' := h2) (h1' := h2) rfl rfl (bm _ _) <| .gB (v := i0) (g' := h2) (h1' := h2) (az o1 1 rfl) (az o1 1 rfl) sn <| .gB (v := .ptr j2 (0 + 1)) (g' := h2) (h1' := h2) rfl rfl (bm _ _) <| .gB (v := i0) (g' := h2) (h1' := h2) (az o2 1 rfl) (az o2 1 rfl) sn <| .call (v := i0) (h' := h2) c1 <|
   .dL (v := .slice jb 0 2 2) (h' := h3) b1 <| .call (v := i0) (h' := h3) c3 <| .ro i0 rfl <| .nil)) .ret, rfl⟩
 refine ⟨h3, .of (r' := r') (h1 := h3) T.e157 (by simp) (.eh (r' := T13 (.ptr j1 0) (.ptr j2 0)) (h' := h2) (fun c i K => ?_) rn) ?_, (f4.trans g4).trans b4, b5⟩
 ·simp only [k157_0, K2, bE, bF]
  (rw [fU f1, fU g1]; try rfl)
 ·show RV.ok (y4 r') h3 = _
  rw [e4]
theorem Km (T : ri p) (W : Wf h) : ∃ h', Cv p 119 [.agg [i0, i0], .agg [i0, i0]] h (.bool false) h' ∧ Old h h' ∧ Wf h' := by
 obtain ⟨j1, h1, f1, f2, f3, f4, f5, _⟩ := gg (el := 108) (l := [i0, i0]) W (by simp)
 obtain ⟨j2, h2, g1, g2, g3, g4, g5, _⟩ := gg (el := 108) (l := [i0, i0]) f5 (by simp)
 obtain ⟨h3, c, O3, W3⟩ := AK T g5
 refine ⟨h3, .of (r' := T1 (.bool false)) (h1 := h3) T.e119 (by simp) (.ag (c.mono fun m u => ?_)) rfl, (f4.trans g4).trans O3, W3⟩
 simp only [k119_0, K2, bE, bF]
 have y : ∀ K : AV → Hp → RS, Seat.Y i0 i0 h3 K = K (.bool false) h3 := fun K => kW (n := 0) (Int.le_refl 0)
 (rw [fU f1, fU g1, rI (gv (m := 2) (Ob.c0 (f3.old g4)) rfl), rI (gv (m := 2) (Ob.c0 g3) rfl), aD u, y]; try rfl)
theorem Kn (T : ri p) (W : Wf h) {vm : AV} (c : Cs h q 0 [i0, i0, vm, i0]) (n : AV) : ∃ h', Cv p 79 [.ptr q 0, .agg [i0, i0], n] h (.gh [.bool false, .al]) h' ∧ Old h h' ∧ Wf h' := by
 obtain ⟨j1, h1, f1, f2, f3, f4, f5, _⟩ := gg (el := 108) (l := [i0, i0]) W (by simp)
 obtain ⟨h2, c2, O2, W2⟩ := Km T f5
 have c1 : Cs h1 q 0 [i0, i0] := (c.old f4).sub 0 [i0, i0] (by simp) (fun i hi => by
  match i, hi with
  | 0, _ => rfl
  | 1, _ => rfl)
 refine ⟨h2, .of (r' := T65 (.bool false) .al) (h1 := h2) T.e79 (by simp) (.ag (c2.mono fun m u => ?_)) rfl, f4.trans O2, W2⟩
 simp only [k79_0, K3, ml, mq, mr]
 (rw [fU f1, ai (dB q 0), ai (bG q 0 0), ai (gv (m := 2) c1 rfl), ai (gv (m := 2) (Ob.c0 f3) rfl), kX u, ai (kP false), Bool.not_false, dY]; try rfl)
theorem MX (T : ri p) {rd : Rd} (w : qg h r rd) : ∃ h', Cv p 55 [.ptr r 0] h (.agg [i64 (dF rd).1, i64 (dF (dF rd).2).1]) h' ∧ qg h' r (dF (dF rd).2).2 ∧ Fr r h h' := by
 obtain ⟨j, h1, f1, f2, f3, f4, f5, _⟩ := my (el := 108) (n := 2) w.wf (c := .k1 (Y2 i0 i0)) trivial (by decide)
 have w1 := w.up f4 f5
 have jr : j ≠ r := fun e => w.ne (by rw [← e]; exact f2)
 obtain ⟨h2, c2, w2, F2⟩ := mB T.r.f.d w1
 obtain ⟨h3, c3, w3, F3⟩ := mB T.r.f.d w2
 have o3 := F3.ob (F2.ob f3 jr) jr
 obtain ⟨h4, d1, d2, d3, d4⟩ := mz (k := 0) (m := 2) (l' := [i64 (dF rd).1, i64 (dF (dF rd).2).1]) o3 rfl (by rw [bO]; omega)
 have d2 : Ob h4 j 108 true .plain [i64 (dF rd).1, i64 (dF (dF rd).2).1] := d2
 have rt : sY [.agg 2 .h0 .h2] (T29 (.ptr j 0)) h4 = .ok (.agg [i64 (dF rd).1, i64 (dF (dF rd).2).1]) h4 := by
  show (RV.rec (fun v _ => .ok v h4) (fun n => .err n) (Seat.ja 2 (.ptr j 0) h4) : RV) = _
  rw [gv (m := 2) (Ob.c0 d2) rfl]
 refine ⟨h4, .of (r' := T29 (.ptr j 0)) (h1 := h4) T.e55 (by simp) (.ag ((c2.and c3).mono fun m u => ?_)) rt, w3.fr o3 (by decide) (fun i hi _ => d3 i hi) (dZ w3.wf o3 d3 d4), ((Fr.of f4).trans (F2.trans F3)).set f2 d3⟩
 obtain ⟨u1, u2⟩ := u
 simp only [k55_0, K1, dh]
 (rw [rJ f1, aD u1, aD u2, jl (v := .agg [i64 (dF rd).1, i64 (dF (dF rd).2).1]) (h' := h3) rfl, uN d1]; try rfl)
theorem u64_0 : u64 0 = 0 := rfl
theorem u64_1 : u64 1 = 1 := rfl
theorem AL (T : ri p) {bT : Int} (hf : dq bT) (o : Ob h N 81 true .plain L) (hL : L.length = 25) (w : qg h r (some (qc bT))) (hr : r ≠ N) :
  ∃ h', Cv p 48 [.ptr N 0, .ptr r 0] h aH h' ∧ Ob h' N 81 true .plain (L.set 6 (i64 bT)) ∧ cT (fun j => j = N ∨ j = r) h h' ∧ Wf h' := by
 obtain ⟨h1, c1, w1, F1⟩ := uY T.r.f.d w
 have gb : pY (some (qc bT)) = (0, some (dM bT)) := by
  unfold qc
  rw [u64_0, uW _ (by omega)]
 rw [gb] at c1 w1
 obtain ⟨h2, c2, w2, F2⟩ := mB T.r.f.d w1
 have gl : dF (some (dM bT)) = (bT, some []) := by
  have := iT (n := bT) [] hf.1 hf.2
  rwa [List.append_nil] at this
 rw [gl] at c2 w2
 have o2 := F2.ob (F1.ob o hr.symm) hr.symm
 obtain ⟨h3, d1, d2, d3, d4⟩ := ff (k := 6) (v := i64 bT) o2 (by omega) rfl
 have q0 : ∀ (h : Hp) (K : AV → Hp → RS), Seat.Q (i64 ((0 : Nat) : Int)) i0 h K = K (.bool true) h := fun h K => by
  show Seat.Q (i64 0) (i64 0) h K = _
  rw [gU, decide_eq_true rfl]
 refine ⟨h3, .cS (r' := T27) (h1 := h3) T.e48 (by simp) (.to (r' := T52 (.ptr N 0) (.ptr r 0) (i64 ((0 : Nat) : Int)) (i64 ((0 : Nat) : Int))) (h' := h1) (c1.mono fun m u K => ?_)
  (.block (.eh (r' := T53 (.ptr N 0) (.ptr r 0) (i64 ((0 : Nat) : Int)) (i64 ((0 : Nat) : Int)) (.bool true)) (h' := h1) (fun c i K => ?_) (.xG rfl (.ag (c2.mono fun m u => ?_)))))) rfl, d2, ((cT.fr F1 (.inr rfl)).trans (.fr F2 (.inr rfl))).trans (.one d3 (.inl rfl)), dZ w2.wf o2 d3 d4⟩
 ·simp only [k48_0, K2, bE, bF]
  (rw [aD u]; try rfl)
 ·simp only [k48_1, K4, t52_0, t52_1, t52_4, t52_12]
  (rw [q0]; try rfl)
 ·simp only [k48_2, K2, t53_0, t53_1]
  (rw [aD u, aA, av, Nat.zero_add, cw d1]; try rfl)
theorem AM (T : ri p) {acc : P4} {vm : AV} (o : Ob h N 81 true .plain L) (l7 : L[7]? = some (.ptr acc 0)) (ca : Ob h acc 134 true .plain [i0, i0, vm, i0]) (w : qg h r (some nS)) (hr : r ≠ N) (hra : r ≠ acc) :
  ∃ h', Cv p 48 [.ptr N 0, .ptr r 0] h aH h' ∧ cT (fun j => j = r) h h' ∧ Wf h' := by
 obtain ⟨h1, c1, w1, F1⟩ := uY T.r.f.d w
 have gb : pY (some nS) = (1, some (dM 0 ++ dM 0)) := by
  unfold nS
  rw [u64_1, uW _ (by omega)]
 rw [gb] at c1 w1
 obtain ⟨h2, c2, w2, F2⟩ := MX T w1
 have g1 : dF (some (dM 0 ++ dM 0)) = (0, some (dM 0)) := iT (n := 0) (dM 0) (by omega) (by omega)
 have g2 : dF (some (dM 0)) = (0, some []) := by
  have := iT (n := 0) [] (by omega) (by omega)
  rwa [List.append_nil] at this
 rw [g1] at c2 w2
 simp only [g2] at c2 w2
 have o1 := F1.ob o hr.symm
 have o2 := F2.ob o1 hr.symm
 have a2 := F2.ob (F1.ob ca hra.symm) hra.symm
 obtain ⟨h3, c3, O3, W3⟩ := Kn T w2.wf (Ob.c0 a2) (pi 1048576)
 have q10 : ∀ (h : Hp) (K : AV → Hp → RS), Seat.Q (i64 ((1 : Nat) : Int)) i0 h K = K (.bool false) h := fun h K => by
  show Seat.Q (i64 ((1 : Nat) : Int)) (i64 0) h K = _
  rw [gU, decide_eq_false (by omega)]
 have q11 : ∀ (h : Hp) (K : AV → Hp → RS), Seat.Q (i64 ((1 : Nat) : Int)) i1 h K = K (.bool true) h := fun h K => by
  show Seat.Q (i64 ((1 : Nat) : Int)) (i64 1) h K = _
  rw [gU, decide_eq_true (by omega)]
 obtain ⟨r', rn⟩ : ∃ r', Rn p (.eH [.mk (.rd 0) (.o d26 (.op (.mv r1))), .mk .dL (.o d27 (.call 55 [r26])), .mk (.rd 1) (.o d22 (.op (.mv r0))), .mk (.rd 1) (.o d23 (.op (.dk r22))), .mk (.rd 1) (.o d24 (.op (.ig 7 r23))), .mk (.rd 1) (.o d25 (.op (.eU r24))), .mk .dL (.o d28 (.call 79 [r25, r27, .c (pi 1048576)]))]) (T54 (.ptr N 0) (.ptr r 0) (i64 ((1 : Nat) : Int)) (i64 ((1 : Nat) : Int)) (.bool true)) h1 (.nm r' h3) :=
  ⟨_, .eH (.ro (.ptr r 0) rfl <| .call (v := .agg [i64 0, i64 0]) (h' := h2) c2 <| .gB (v := .ptr N 0) (g' := h2) (h1' := h1) rfl rfl (bm _ _) <| .gB (v := .ptr N 0) (g' := h2) (h1' := h1) rfl rfl (bm _ _) <|
   .gB (v := .ptr N (0 + 7)) (g' := h2) (h1' := h1) rfl rfl (bm _ _) <| .gB (v := .ptr acc 0) (g' := h2) (h1' := h1) (az (Ob.c0 o2) 7 l7) (az (Ob.c0 o1) 7 l7) (bm _ _) <| .call (v := .gh [.bool false, .al]) (h' := h3) c3 <| .nil)⟩
 refine ⟨h3, .cS (r' := r') (h1 := h3) T.e48 (by simp) (.to (r' := T52 (.ptr N 0) (.ptr r 0) (i64 ((1 : Nat) : Int)) (i64 ((1 : Nat) : Int))) (h' := h1) (c1.mono fun m u K => ?_)
  (.block (.eh (r' := T53 (.ptr N 0) (.ptr r 0) (i64 ((1 : Nat) : Int)) (i64 ((1 : Nat) : Int)) (.bool false)) (h' := h1) (fun c i K => ?_) (.Ix rfl (.eh (r' := T54 (.ptr N 0) (.ptr r 0) (i64 ((1 : Nat) : Int)) (i64 ((1 : Nat) : Int)) (.bool true)) (h' := h1) (fun c i K => ?_) (.xG rfl rn)))))) rfl, ((cT.Ud F1).trans (.Ud F2)).trans (.of O3), W3⟩
 ·simp only [k48_0, K2, bE, bF]
  (rw [aD u]; try rfl)
 ·simp only [k48_1, K4, t52_0, t52_1, t52_4, t52_12]
  (rw [q10]; try rfl)
 ·simp only [k48_3, K4, t53_0, t53_1, t53_4, t53_12]
  (rw [q11]; try rfl)
theorem Cx (W : Wf h) : ∃ q h', KB h = .ok (.map q) h' ∧ ah q h = .none ∧ ah q h' = .map [] 0 ∧ Old h h' ∧ Wf h' := by
 refine ⟨h.next, we h (.map [] 0), ?_, W.fresh, by rw [iI, if_pos rfl], .we W _, W.we _⟩
 show iw (.map .nil 0) h (fun i h => .ok (.map i) h) = _
 rw [wg W]
structure qW (p : Pg) : Prop where
 w : ri p
 e29 : ar 29 p.fs = f29
 e42 : ar 42 p.fs = f42
 e43 : ar 43 p.fs = f43
 e44 : ar 44 p.fs = f44
 e45 : ar 45 p.fs = f45
 e241 : ar 241 p.fs = f241
 mi : ∀ (k : Nat → RT) (e : RT), lA 42 0 p.ms k e = k 241
theorem Qq (T : qW p) (W : Wf h) : ∃ q h', Cv p 42 [] h (.ptr q 0) h' ∧ (∃ vm, Ob h' q 134 true .plain [i0, i0, vm, i0]) ∧ ah q h = .none ∧ Old h h' ∧ Wf h' := by
 obtain ⟨m, h1, f1, f2, f3, f4, f5⟩ := Cx W
 obtain ⟨q, h2, g1, g2, g3, g4, g5, _⟩ := gg (el := 134) (l := [i0, i0, .map m, i0]) f5 (by simp)
 refine ⟨q, h2, .of (r' := T14 (.ptr q 0)) (h1 := h2) T.e42 (by simp) (.aU fun c i K => ?_) rfl, ⟨_, g3⟩, f4.none g2, f4.trans g4, g5⟩
 simp only [k42_0]
 (rw [aM f1, jl (v := .agg [i0, i0, .map m, i0]) (h' := h1) rfl, fU g1]; try rfl)
theorem Qr (T : qW p) (W : Wf h) : ∃ q km h', Cv p 43 [] h (.ptr q 0) h' ∧ Ob h' q 128 true .plain [.map km, i0] ∧ ah km h' = .map [] 0 ∧ ah q h = .none ∧ ah km h = .none ∧ Old h h' ∧ Wf h' := by
 obtain ⟨m, h1, f1, f2, f3, f4, f5⟩ := Cx W
 obtain ⟨q, h2, g1, g2, g3, g4, g5, _⟩ := gg (el := 128) (l := [.map m, i0]) f5 (by simp)
 refine ⟨q, m, h2, .of (r' := T14 (.ptr q 0)) (h1 := h2) T.e43 (by simp) (.aU fun c i K => ?_) rfl, g3, by rw [g4 m (by rw [f3]; simp)]; exact f3, f4.none g2, f2, f4.trans g4, g5⟩
 simp only [k43_0]
 (rw [aM f1, jl (v := .agg [.map m, i0]) (h' := h1) rfl, fU g1]; try rfl)
theorem Qs (T : qW p) (W : Wf h) (m n : Int) : ∃ q h', Cv p 44 [i64 m, i64 n] h (.ptr q 0) h' ∧ Old h h' ∧ Wf h' := by
 obtain ⟨q, h2, g1, g2, g3, g4, g5, _⟩ := gg (el := 137) (l := [i64 m, i64 n, i0, i0, i0, i0, .db, .db, .db]) W (by simp)
 refine ⟨q, h2, .of (r' := T1 (.ptr q 0)) (h1 := h2) T.e44 (by simp) (.aU fun c i K => ?_) rfl, g4, g5⟩
 simp only [k44_0, K2, bE, bF]
 (rw [jl (v := .agg [i64 m, i64 n, i0, i0, i0, i0, .db, .db, .db]) (h' := h) rfl, fU g1]; try rfl)
def en (h : Hp) (nd : AV) (ns : List P4) : Prop := dK h nd 68 1 (ns.map fun N => .ptr N 0) fun _ => True
theorem en.len {nd : AV} {ns : List P4} (w : en h nd ns) : Am.len nd h = .ok (i64 ns.length) h := by
 rcases w with ⟨e, rfl | ⟨q, rfl⟩⟩ | ⟨q, n, rfl, e, _⟩
 ·have : ns = [] := by simpa using e
  subst this; rfl
 ·have : ns = [] := by simpa using e
  subst this; rfl
 ·have : ns.length = n := by simpa using e
  rw [this]; rfl
theorem en.at {nd : AV} {ns : List P4} (w : en h nd ns) {i : Nat} (hi : i < ns.length) : ∃ a, iX 1 nd (i64 i) h = .ok a h ∧ lD a h = .ok (.ptr ns[i] 0) h := by
 obtain ⟨q, n, sl, hl, c⟩ := dK.sl w (by omega)
 have hn : n = ns.length := by simpa using hl.symm
 refine ⟨.ptr q (0 + i), by rw [wH sl (by omega), Nat.mul_one], az (c (by omega)) i ?_⟩
 rw [List.getElem?_map, List.getElem?_eq_getElem hi]; rfl
theorem DW (T : qW p) {W : P4} {net nd app : AV} {ns : List P4} (c : Cs h W 0 [net, nd, app]) (w : en h nd ns) : Cv p 45 [.ptr W 0] h (i64 ns.length) h := by
 refine .of (r' := T29 (i64 ns.length)) (h1 := h) T.e45 (by simp) (.aU fun c' i K => ?_) rfl
 simp only [k45_0, K1, dh]
 (rw [aA, av, aC (az c 1 rfl), cU w.len]; try rfl)
def tL : List AV := [i0, iS, .al, i0, iS, .al, i0, iS, .al, i0, iS, .al, i0, iS, .al, .al]
theorem MB (q : P4) (o : Nat) {n : Nat} (hn : n < 5) : FM 5 3 (.ptr q o) (i64 n) h = .ok (.ptr q (o + n * 3)) h := by
 match n, hn with
 | 0, _ => rfl
 | 1, _ => rfl
 | 2, _ => rfl
 | 3, _ => rfl
 | 4, _ => rfl
theorem Qt {n : Nat} (hn : n < 5) : tL.take (0 + 0 + n * 3) ++ ([i0, iS, .al] ++ tL.drop (0 + 0 + n * 3 + 3)) = tL := by
 match n, hn with
 | 0, _ => rfl
 | 1, _ => rfl
 | 2, _ => rfl
 | 3, _ => rfl
 | 4, _ => rfl
theorem install_ok (T : qW p) (W : Wf h) {t : P4} (o : Ob h t 47 true .plain tL) {n : Nat} (hn : n < 5) : ∃ h', Cv p 241 [.ptr t 0, i64 n, i0, iS] h aH h' ∧ Ob h' t 47 true .plain tL ∧ cT (fun j => j = t) h h' ∧ Wf h' := by
 obtain ⟨h1, d1, d2, d3, d4⟩ := mz (k := 0 + 0 + n * 3) (m := 3) (l' := [i0, iS, .al]) o rfl (by show 0 + 0 + n * 3 + 3 ≤ 16; omega)
 rw [Qt hn] at d2
 refine ⟨h1, .cS (r' := T27) (h1 := h1) T.e241 (by simp) (.aU fun c i K => ?_) rfl, d2, .on d3, dZ W o d3 d4⟩
 have r0 : y0 (aR [.ptr t 0, i64 n, i0, iS] 0 .nil) = .ptr t 0 := rfl
 have r1 : y1 (aR [.ptr t 0, i64 n, i0, iS] 0 .nil) = i64 n := rfl
 have r2 : y2 (aR [.ptr t 0, i64 n, i0, iS] 0 .nil) = i0 := rfl
 have r3 : y3 (aR [.ptr t 0, i64 n, i0, iS] 0 .nil) = iS := rfl
 simp only [k241_0, K4, r0, r1, r2, r3]
 (rw [jl (v := .agg [i0, iS, .al]) (h' := h) rfl, aA, av, aM (MB t (0 + 0) hn), uN d1]; try rfl)
end
open Go.Cod
set_option maxRecDepth 20000
noncomputable section
variable {p : Pg} {h h0 h' h1 h2 h3 : Hp} {q j k N D r : P4} {s t : Bs} {x y v a b d e : AV} {L : List AV} {A B : P4 → Prop}
abbrev nL (w me d ck up sz lf ac pr ch tp mt nb b0 b1 b2 b3 mi sq ph ot nx tr ls bh : AV) : List AV := [w, me, d, ck, up, sz, lf, ac, pr, ch, tp, mt, nb, b0, b1, b2, b3, mi, sq, ph, ot, nx, tr, ls, bh]
theorem vt (W : Wf h) (o : Ob h N 81 true .plain L) (hL : L.length = 25) (k : Nat) (hk : k < 25) {v : AV} (hv : v.one = true) : ∃ h', Seat.sT (.ptr N k) v h = .ok .undef h' ∧ Ob h' N 81 true .plain (L.set k v) ∧ cT (fun j => j = N) h h' ∧ Wf h' := by
 obtain ⟨h', a1, a2, a3, a4⟩ := ff (k := k) (v := v) o (by omega) hv
 exact ⟨h', a1, a2, .on a3, dZ W o a3 a4⟩
theorem AY.oM {acc cho km : P4} (I : AY h acc cho km) (F : cT A h h') (g : ∀ k, A k → ∃ el l, Ob h k el true .plain l ∧ el ≠ 134 ∧ el ≠ 128) : AY h' acc cho km := by
 obtain ⟨⟨vm, a⟩, c, ck, m⟩ := I
 refine ⟨⟨vm, F.ob a fun ha => ?_⟩, F.ob c fun ha => ?_, ck, ?_⟩
 ·obtain ⟨el, l, o, g1, _⟩ := g _ ha
  exact fq o (.inl g1) a
 ·obtain ⟨el, l, o, _, g2⟩ := g _ ha
  exact fq o (.inl g2) c
 ·rw [F km (fun ha => by
   obtain ⟨el, l, ⟨c', e, _⟩, _⟩ := g _ ha
   rw [m] at e
   cases e) (by rw [m]; simp)]
  exact m
theorem Ko (T : qW p) (W : Wf h) (w : fT h D s) (hs : s ≠ []) (hl : s.length ≤ 4194304) : ∃ v h', Cv p 47 [.ptr D 0] h v h' ∧ SB h' v s ∧ Old h h' ∧ Wf h' := by
 obtain ⟨b, o, sb⟩ := w
 obtain ⟨v, h1, c1, o1, O1, W1⟩ := qa T.w.r.f.d.e58 W sb.rd (by omega)
 refine ⟨v, h1, .of (r' := T29 v) (h1 := h1) T.w.r.f.e47 (by simp) (.ag (c1.mono fun m u => ?_)) rfl, dK.sb o1 hs, O1, W1⟩
 simp only [k47_0, K1, dh]
 (rw [aA, av, aC (az (Ob.c0 o) 0 rfl), aD u]; try rfl)
theorem FI (T : qW p) (W : Wf h) (o : Ob h D 92 true .plain [.al, i0]) : Cv p 47 [.ptr D 0] h .al h := by
 have c1 : Cv p 78 [.al] h .al h := .of (r' := T29 .al) (h1 := h) T.w.r.f.d.e58 (by simp) (.ag (.all fun m => by
  simp only [wv, K1, dh]
  rw [aM (show bK (.gE .s) .al .al h = .ok (.bool true) h from rfl), dY])) rfl
 refine .of (r' := T29 .al) (h1 := h) T.w.r.f.e47 (by simp) (.ag (c1.mono fun m u => ?_)) rfl
 simp only [k47_0, K1, dh]
 (rw [aA, av, aC (az (Ob.c0 o) 0 rfl), aD u]; try rfl)
theorem Kp (T : qW p) : Cv p 46 [.al] h (.gh [.al, i0]) h := by
 refine .of (r' := T13 .al i0) (h1 := h) T.w.r.f.e46 (by simp) (.eh (r' := T50 .al .al i0) (h' := h) (fun c i K => by simp only [k46_0, K1, dh]) (.seq (.bJ (i := 0) (r' := T20 .al i0) (h' := h) (.fh (.aU fun c i K => ?_))) (.aU fun c i K => by simp only [k46_6, K2, t20_4, t20_5]))) rfl
 simp only [uo, K3, t50_0, t50_4, t50_5]
 have z : ∀ K : AV → Hp → RS, Seat.Z (i64 ((0 : Nat) : Int)) i0 h K = K i0 h := fun K => by
  show Seat.Z (i64 0) (i64 0) h K = _
  rw [uT]; rfl
 have l : Am.len .al h = .ok (i64 ((0 : Nat) : Int)) h := rfl
 (rw [cU l, z, aM (show kY i0 (pi 8) h = .ok (.bool false) h from rfl), aY]; try rfl)
theorem AN (T : qW p) {m : AV} {bs : Bs} {i : Nat} {ms : List AV} {bb : P4 → Prop} {Q : Hp → Prop} (W : Wf h) (wo : dK h v 34 1 ms bb) (hi : i < ms.length) (hm : ms[i] = m) (hl : ms.length < 1000) (sb : SB h m bs) (hbl : bs.length ≤ 1000)
  (rc : ∀ {h1 : Hp} {r : P4}, qg h1 r (some bs) → Old h h1 → ah r h = .none → ∃ h2, Cv p 48 [.ptr N 0, .ptr r 0] h1 aH h2 ∧ cT (fun j => j = N ∨ j = r) h1 h2 ∧ Wf h2 ∧ Q h2) :
  ∃ h', Rn p (.ag wu .skip) (T34 (.ptr N 0) v (i64 ms.length) (i64 i)) h (.nm (T34 (.ptr N 0) v (i64 ms.length) (i64 (i + 1 : Nat))) h') ∧ cT (fun j => j = N) h h' ∧ Wf h' ∧ Q h' := by
 obtain ⟨q, n, sl, hl2, c⟩ := dK.sl wo (by omega)
 have hn : ms.length = n := by omega
 obtain ⟨r, h1, c1, w1, nr, O1⟩ := rh T.w.r.f.d W sb.rd (by omega)
 obtain ⟨h2, c2, F2, W2, Q2⟩ := rc w1 O1 nr
 have X : iX 1 v (i64 i) h = .ok (.ptr q (0 + i)) h := by rw [wH sl (by omega), Nat.mul_one]
 have Lm := az (c (by omega)) i (v := m) (by rw [List.getElem?_eq_getElem hi, hm])
 refine ⟨h2, .ag ((c1.and c2).mono fun m' u => ?_), F2.less O1 fun j hj => ?_, W2, Q2⟩
 ·obtain ⟨u1, u2⟩ := u
  simp only [wu, K4, t34_0, t34_81, t34_82, t34_83]
  (rw [di, gT, if_pos (by omega), jk X, aC Lm, aD u1, aD u2, eF hi (by omega)]; try rfl)
 ·rcases hj with rfl | rfl
  ·exact .inl rfl
  ·exact .inr nr
theorem AP {n : Nat} : Rn p (.ag wu .skip) (T34 x v (i64 n) (i64 (n : Nat))) h (.ex 0 (T34 x v (i64 n) (i64 (n : Nat))) h) := .aU fun c i K => by
 simp only [wu, K4, t34_0, t34_81, t34_82, t34_83]
 (rw [di, gT, if_neg (by omega)]; try rfl)
def nT (h : Hp) (D : P4) : Option Int → Prop
 | none => Ob h D 92 true .plain [.al, i0]
 | some n => fT h D (qV n)
def gS : Option Int → Int
 | none => 0
 | some n => n
theorem nT.ob {o : Option Int} (w : nT h D o) : ∃ b s, Ob h D 92 true .plain [b, s] := by
 cases o with
 | none => exact ⟨_, _, w⟩
 | some n => obtain ⟨b, o, _⟩ := w; exact ⟨_, _, o⟩
theorem fT.oM (w : fT h D s) (F : cT A h h') (hD : ¬ A D) (g : ∀ k, A k → ∃ el l, Ob h k el true .plain l) : fT h' D s := by
 obtain ⟨b, o, sb⟩ := w
 exact ⟨b, F.ob o hD, sb.oM F fun k hk fl l ok => let ⟨el, l', o'⟩ := g k hk; fq o' (.inr (by simp)) ok⟩
theorem fT.old (w : fT h D s) (O : Old h h') : fT h' D s := let ⟨b, o, sb⟩ := w; ⟨b, o.old O, sb.up O⟩
theorem nT.oM {o : Option Int} (w : nT h D o) (F : cT A h h') (hD : ¬ A D) (g : ∀ k, A k → ∃ el l, Ob h k el true .plain l) : nT h' D o := by
 cases o with
 | none => exact F.ob (show Ob h D 92 true .plain [.al, i0] from w) hD
 | some n => exact fT.oM w F hD g
theorem nT.old {o : Option Int} (w : nT h D o) (O : Old h h') : nT h' D o := by
 cases o with
 | none => exact Ob.old (show Ob h D 92 true .plain [.al, i0] from w) O
 | some n => exact fT.old w O
theorem yd {el es : Nat} {l : List AV} {bb : P4 → Prop} (w : dK h x el es l bb) (F : cT A h h') (g : ∀ k, A k → ∃ el l, Ob h k el true .plain l) : dK h' x el es l bb := by
 rcases w with w | ⟨q, n, e1, e2, e3, e4⟩
 ·exact .inl w
 ·exact .inr ⟨q, n, e1, e2, F.ob e3 fun ha => let ⟨el, l', o'⟩ := g q ha; fq o' (.inr (by simp)) e3, e4⟩
theorem Kq {l : List AV} {k : Nat} {v : AV} (e : l[k]? = some v) : l.set k v = l := by
 obtain ⟨hk, e⟩ := List.getElem?_eq_some_iff.1 e
 refine List.ext_getElem (by simp) fun i h1 h2 => ?_
 rw [List.getElem_set]
 split
 ·rename_i g
  subst g
  exact e.symm
 ·rfl
theorem FJ (T : qW p) (W : Wf h) {o : Option Int} {acc : P4} {vm : AV} (oN : Ob h N 81 true .plain L) (hL : L.length = 25) (l2 : L[2]? = some (.ptr D 0)) (l6 : L[6]? = some i0) (l7 : L[7]? = some (.ptr acc 0)) (ca : Ob h acc 134 true .plain [i0, i0, vm, i0]) (w : nT h D o) (hin : dq (gS o)) :
  ∃ v r' h1 h', (Ev fun m => ∀ K : A2 → Hp → RS, k29_4 (aw p (exec p m)) (aF p (exec p m)) K (T14 (.ptr N 0)) h = K (T33 (.ptr N 0) v) h1) ∧ Rn p (.ag k29_5 (.block 0 (.loop (.ag wu .skip)))) (T33 (.ptr N 0) v) h1 (.nm r' h') ∧ y0 r' = .ptr N 0 ∧
   Ob h' N 81 true .plain (L.set 6 (i64 (gS o))) ∧ cT (fun j => j = N) h h' ∧ Wf h' := by
 cases o with
 | none =>
  have c1 := FI T W w
  have c2 := Kp (h := h) T
  refine ⟨.al, _, h, h, (c1.and c2).mono fun m u K => ?_, .eh (r' := T34 (.ptr N 0) .al (i64 (0 : Nat)) (i64 (0 : Nat))) (h' := h) (fun c i K => ?_) (.bJ (.fh AP)), rfl, by rw [Kq (show L[6]? = some (i64 (gS none)) from l6)]; exact oN, .refl _ _, W⟩
  ·obtain ⟨u1, u2⟩ := u
   simp only [k29_4, K1, rK]
   (rw [aA, av, aC (az (Ob.c0 oN) 2 l2), aD u1, aD u2, jm (show Seat.ext 0 (.gh [.al, i0]) h = .ok .al h from rfl), jm (show Seat.ext 1 (.gh [.al, i0]) h = .ok i0 h from rfl)]; try rfl)
  ·simp only [k29_5, K2, Aw, Ax]
   (rw [cU (show Am.len .al h = .ok (i64 ((0 : Nat) : Int)) h from rfl)]; try rfl)
 | some n =>
  obtain ⟨vb, h1, c1, sb1, O1, W1⟩ := Ko T W w (gw (iP n) (by omega)) (by rw [iP]; omega)
  obtain ⟨v, m1, m2, e, h2, c2, O2, W2, wo, s1, s2⟩ := Ki T.w.r.f W1 sb1 (gw (jT n) (by omega)) (gw jU (by omega)) (by rw [jT]; omega) (by rw [jU]; omega)
  have O02 := O1.trans O2
  have oN2 := oN.old O02
  have ca2 := ca.old O02
  have gN : ∀ k, k = N → ∃ el l, Ob h2 k el true .plain l := fun k e => ⟨_, _, e ▸ oN2⟩
  obtain ⟨h3, k3, F3, W3, o3⟩ := AN (N := N) (i := 0) (m := m1) (Q := fun h' => Ob h' N 81 true .plain (L.set 6 (i64 n))) T W2 wo (by simp) rfl (by simp) s1 (by rw [jT]; omega) fun {h1 r} w1 O1 nr => by
   obtain ⟨h2', c, o, F, W⟩ := AL T.w hin (oN2.old O1) hL w1 (fun e => oN2.ne (by rw [← e]; exact nr))
   exact ⟨h2', c, F, W, o⟩
  have ca3 := F3.ob ca2 (fun e => ca2.apart oN2 (.inl (by decide)) e)
  have gN3 : ∀ k, k = N → ∃ el l, Ob h3 k el true .plain l := fun k e => ⟨_, _, e ▸ o3⟩
  obtain ⟨h4, k4, F4, W4, o4⟩ := AN (N := N) (i := 1) (m := m2) (Q := fun h' => Ob h' N 81 true .plain (L.set 6 (i64 n))) T W3 (yd wo F3 gN) (by simp) rfl (by simp) (s2.oM F3 fun k e fl l ok => by rw [e] at ok; exact fq oN2 (.inl (by decide)) ok) (by rw [jU]; omega) fun {h1 r} w1 O1 nr => by
   have o1 := o3.old O1
   have hr : r ≠ N := fun e => o3.ne (by rw [← e]; exact nr)
   obtain ⟨h2', c, F, W⟩ := AM T.w o1 (by rw [List.getElem?_set_ne (by omega)]; exact l7) (ca3.old O1) w1 hr (fun e => ca3.ne (by rw [← e]; exact nr))
   exact ⟨h2', c, F.mono fun j e => .inr e, W, F.ob o1 hr.symm⟩
  refine ⟨v, _, h2, h4, (c1.and c2).mono fun m u K => ?_, .eh (r' := T34 (.ptr N 0) v (i64 ([m1, m2] : List AV).length) (i64 (0 : Nat))) (h' := h2) (fun c i K => ?_) (.bJ (.loop k3 (.loop k4 (.fh AP)))), rfl, o4, ((cT.of O02).trans F3).trans F4, W4⟩
  ·obtain ⟨u1, u2⟩ := u
   simp only [k29_4, K1, rK]
   (rw [aA, av, aC (az (Ob.c0 oN) 2 l2), aD u1, aD u2, jm (show Seat.ext 0 (.gh [v, e]) h2 = .ok v h2 from rfl), jm (show Seat.ext 1 (.gh [v, e]) h2 = .ok e h2 from rfl)]; try rfl)
  ·simp only [k29_5, K2, Aw, Ax]
   have lv : Am.len v h2 = .ok (i64 ([m1, m2] : List AV).length) h2 := by
    obtain ⟨q, n', sl, hl2, _⟩ := dK.sl wo (by omega)
    rw [yf sl]
    have : n' = 2 := by simpa using hl2.symm
    rw [this]; rfl
   (rw [cU lv]; try rfl)
structure NS where
 clock : Int
 up : Bool
 size : Int
 bT : Int
 tries : Int
 last : Int
 behind : Bool
def nQ (W D acc prop cho met : P4) (me : Nat) (s : NS) : List AV := nL (.ptr W 0) (i64 me) (.ptr D 0) (i64 s.clock) (.bool s.up) (i64 s.size) (i64 s.bT) (.ptr acc 0) (.ptr prop 0) (.ptr cho 0) i0 (.map met) i0 i0 i0 .db iS .al i0 i0 .db i0 (i64 s.tries) (i64 s.last) (.bool s.behind)
theorem Ai (T : qW p) (Wf0 : Wf h) {W t : P4} {me : Nat} {clock : Int} {net nd u4 u5 u6 u7 u8 u9 u10 u11 u12 u13 u14 u15 u16 u17 u18 u19 u22 u23 u24 : AV} {ns : List P4} {o : Option Int} (lost : Bool)
  (oN : Ob h N 81 true .plain (nL (.ptr W 0) (i64 me) (.ptr D 0) (i64 clock) u4 u5 u6 u7 u8 u9 u10 u11 u12 u13 u14 u15 u16 u17 u18 u19 .db i0 u22 u23 u24))
  (cW : Ob h W 67 true .plain [net, nd, .iface 42 (.ptr t 0)]) (wn : en h nd ns) (oT : Ob h t 47 true .plain tL) (hme : me < 5) (w : nT h D o) (hl0 : 0 ≤ gS o) (hl1 : gS o < 4611686018427387904) :
  ∃ acc prop cho met km h', Cv p 29 [.ptr N 0, .bool lost] h aH h' ∧ Ob h' N 81 true .plain (nQ W D acc prop cho met me ⟨clock, true, 50, gS o + 1, 0, clock, lost⟩) ∧ AY h' acc cho km ∧ fT h' D (qV (gS o + 1)) ∧ Ob h' t 47 true .plain tL ∧
   cT (fun j => j = N ∨ j = D ∨ j = t) h h' ∧ Wf h' := by
 obtain ⟨bD, sD, oD⟩ := w.ob
 have nND : N ≠ D := fun e => oN.apart oD (.inl (by decide)) e
 have nNt : N ≠ t := fun e => oN.apart oT (.inl (by decide)) e
 have nDt : D ≠ t := fun e => oD.apart oT (.inl (by decide)) e
 have nNW : N ≠ W := fun e => oN.apart cW (.inl (by decide)) e
 -- it is up
 obtain ⟨h1, a1, o1, F1, W1⟩ := vt Wf0 oN rfl 4 (by omega) (v := .bool true) rfl
 have o1 : Ob h1 N 81 true .plain (nL (.ptr W 0) (i64 me) (.ptr D 0) (i64 clock) (.bool true) u5 u6 u7 u8 u9 u10 u11 u12 u13 u14 u15 u16 u17 u18 u19 .db i0 u22 u23 u24) := o1
 have s0 : ∀ c i (K : A2 → Hp → RS), k29_0 c i K (aR [.ptr N 0, .bool lost] 0 .nil) h = K (T11 (.ptr N 0) (.bool lost)) h1 := fun c i K => by
  simp only [k29_0, K2, bE, bF]
  (rw [aA, av, Nat.zero_add, cw a1]; try rfl)
 have gN1 : ∀ k, k = N → ∃ el l, Ob h k el true .plain l := fun k e => ⟨_, _, e ▸ oN⟩
 have cW1 := F1.ob cW nNW.symm
 have wn1 : en h1 nd ns := yd wn F1 gN1
 have oT1 := F1.ob oT nNt.symm
 have w1 := w.oM F1 nND.symm gN1
 -- new parts
 obtain ⟨acc, h2, c2, ⟨vm, oa2⟩, na, O2, W2⟩ := Qq T W1
 obtain ⟨cho, km, h3, c3, oc3, mk3, nc, nk, O3, W3⟩ := Qr T W2
 have O13 := O2.trans O3
 have cz := DW T (Ob.c0 (cW1.old O13)) (dK.old wn1 fun k _ hk => O13 k hk)
 obtain ⟨prop, h4, c4, O4, W4⟩ := Qs T W3 (me : Int) (ns.length : Int)
 have O14 := O13.trans O4
 have o4 := o1.old O14
 obtain ⟨h5, a5, o5, F5, W5⟩ := vt W4 o4 rfl 7 (by omega) (v := .ptr acc 0) rfl
 have o5 : Ob h5 N 81 true .plain (nL (.ptr W 0) (i64 me) (.ptr D 0) (i64 clock) (.bool true) u5 u6 (.ptr acc 0) u8 u9 u10 u11 u12 u13 u14 u15 u16 u17 u18 u19 .db i0 u22 u23 u24) := o5
 obtain ⟨h6, a6, o6, F6, W6⟩ := vt W5 o5 rfl 9 (by omega) (v := .ptr cho 0) rfl
 have o6 : Ob h6 N 81 true .plain (nL (.ptr W 0) (i64 me) (.ptr D 0) (i64 clock) (.bool true) u5 u6 (.ptr acc 0) u8 (.ptr cho 0) u10 u11 u12 u13 u14 u15 u16 u17 u18 u19 .db i0 u22 u23 u24) := o6
 obtain ⟨h7, a7, o7, F7, W7⟩ := vt W6 o6 rfl 8 (by omega) (v := .ptr prop 0) rfl
 have o7 : Ob h7 N 81 true .plain (nL (.ptr W 0) (i64 me) (.ptr D 0) (i64 clock) (.bool true) u5 u6 (.ptr acc 0) (.ptr prop 0) (.ptr cho 0) u10 u11 u12 u13 u14 u15 u16 u17 u18 u19 .db i0 u22 u23 u24) := o7
 have b1 := Ob.c0 o1
 have b2 := b1.old O2
 have b3 := b2.old O3
 have sN : ∀ i, same (.ptr N i) (.ptr N i) = true := fun i => bm N i
 obtain ⟨r7, rn7, e0, e1⟩ : ∃ r', Rn p (fst (bh x29)) (T11 (.ptr N 0) (.bool lost)) h1 (.nm r' h7) ∧ y0 r' = .ptr N 0 ∧ y1 r' = .bool lost :=
  ⟨_, .eH (.call (v := .ptr acc 0) (h' := h2) c2 <| .call (v := .ptr cho 0) (h' := h3) c3 <|
   .AW (v := .ptr N 0) (g' := h3) rfl (sN _) (.s rfl (.s rfl .z)) <| .AW (v := .ptr N 0) (g' := h3) rfl (sN _) (.s rfl (.s rfl .z)) <| .AW (v := .ptr N (0 + 0)) (g' := h3) rfl (sN _) (.s rfl (.s rfl .z)) <| .AW (v := .ptr W 0) (g' := h3) (az b3 0 rfl) (bm _ _) (.s (az b2 0 rfl) (.s (az b1 0 rfl) .z)) <|
   .call (v := i64 ns.length) (h' := h3) cz <|
   .AW (v := .ptr N 0) (g' := h3) rfl (sN _) (.s rfl (.s rfl (.s rfl .z))) <| .AW (v := .ptr N 0) (g' := h3) rfl (sN _) (.s rfl (.s rfl (.s rfl .z))) <| .AW (v := .ptr N (0 + 1)) (g' := h3) rfl (sN _) (.s rfl (.s rfl (.s rfl .z))) <| .AW (v := i64 me) (g' := h3) (az b3 1 rfl) (dj _ _) (.s (az b3 1 rfl) (.s (az b2 1 rfl) (.s (az b1 1 rfl) .z))) <|
   .call (v := .ptr prop 0) (h' := h4) c4 <|
   .AW (v := .ptr N 0) (g' := h4) rfl (sN _) (.s rfl (.s rfl (.s rfl (.s rfl .z)))) <| .ro (.ptr N 0) rfl <| .ro (.ptr N (0 + 7)) rfl <| .dL (v := .undef) (h' := h5) a5 <|
   .AW (v := .ptr N 0) (g' := h5) rfl (sN _) (.s rfl (.s rfl (.s rfl (.s rfl (.s rfl .z))))) <| .ro (.ptr N 0) rfl <| .ro (.ptr N (0 + 9)) rfl <| .dL (v := .undef) (h' := h6) a6 <|
   .AW (v := .ptr N 0) (g' := h6) rfl (sN _) (.s rfl (.s rfl (.s rfl (.s rfl (.s rfl (.s rfl .z)))))) <| .ro (.ptr N 0) rfl <| .ro (.ptr N (0 + 8)) rfl <| .dL (v := .undef) (h' := h7) a7 <| .nil), rfl, rfl⟩
 have F17 : cT (fun j => j = N) h1 h7 := (((cT.of O14).trans F5).trans F6).trans F7
 have gN1' : ∀ k, k = N → ∃ el l, Ob h1 k el true .plain l := fun k e => ⟨_, _, e ▸ o1⟩
 -- its fields
 obtain ⟨met, h8, m8, _, _, O8, W8⟩ := Cx W7
 obtain ⟨h9, a9, o9, F9, W9⟩ := vt W8 (o7.old O8) rfl 11 (by omega) (v := .map met) rfl
 obtain ⟨h10, a10, o10, F10, W10⟩ := vt W9 o9 rfl 17 (by omega) (v := .al) rfl
 obtain ⟨h11, a11, o11, F11, W11⟩ := vt W10 o10 rfl 18 (by omega) (v := i0) rfl
 obtain ⟨h12, a12, o12, F12, W12⟩ := vt W11 o11 rfl 6 (by omega) (v := i0) rfl
 obtain ⟨h13, a13, o13, F13, W13⟩ := vt W12 o12 rfl 10 (by omega) (v := i0) rfl
 obtain ⟨h14, a14, o14, F14, W14⟩ := vt W13 o13 rfl 12 (by omega) (v := i0) rfl
 have o14 : Ob h14 N 81 true .plain (nL (.ptr W 0) (i64 me) (.ptr D 0) (i64 clock) (.bool true) u5 i0 (.ptr acc 0) (.ptr prop 0) (.ptr cho 0) i0 (.map met) i0 u13 u14 u15 u16 .al i0 u19 .db i0 u22 u23 u24) := o14
 have s1 : ∀ c i (K : A2 → Hp → RS), k29_1 c i K r7 h7 = K (T11 (.ptr N 0) (.bool lost)) h14 := fun c i K => by
  simp only [k29_1, K2, e0, e1]
  (rw [aM m8, aA, av, Nat.zero_add, cw a9, aA, av, Nat.zero_add, cw a10, aA, av, Nat.zero_add, cw a11, aA, av, Nat.zero_add, cw a12, aA, av, Nat.zero_add, cw a13, aA, av, Nat.zero_add, cw a14]; try rfl)
 obtain ⟨h15, a15, o15, g15, n15⟩ := mz (k := 13) (m := 4) (l' := [i0, i0, .db, iS]) o14 rfl (show 13 + 4 ≤ 25 by omega)
 have o15 : Ob h15 N 81 true .plain (nL (.ptr W 0) (i64 me) (.ptr D 0) (i64 clock) (.bool true) u5 i0 (.ptr acc 0) (.ptr prop 0) (.ptr cho 0) i0 (.map met) i0 i0 i0 .db iS .al i0 u19 .db i0 u22 u23 u24) := o15
 have W15 := dZ W14 o14 g15 n15
 have s2 : ∀ c i (K : A2 → Hp → RS), k29_2 c i K (T11 (.ptr N 0) (.bool lost)) h14 = K (T11 (.ptr N 0) (.bool lost)) h15 := fun c i K => by
  simp only [k29_2, K2, iQ, iR]
  (rw [jl (v := .agg [i0, i0, .db, iS]) (h' := h14) rfl, aA, av, Nat.zero_add, uN a15]; try rfl)
 obtain ⟨h16, a16, o16, F16, W16⟩ := vt W15 o15 rfl 19 (by omega) (v := i0) rfl
 obtain ⟨h17, a17, o17, F17', W17⟩ := vt W16 o16 rfl 22 (by omega) (v := i0) rfl
 obtain ⟨h18, a18, o18, F18, W18⟩ := vt W17 o17 rfl 23 (by omega) (v := i64 clock) rfl
 obtain ⟨h19, a19, o19, F19, W19⟩ := vt W18 o18 rfl 24 (by omega) (v := .bool lost) rfl
 have o19 : Ob h19 N 81 true .plain (nL (.ptr W 0) (i64 me) (.ptr D 0) (i64 clock) (.bool true) u5 i0 (.ptr acc 0) (.ptr prop 0) (.ptr cho 0) i0 (.map met) i0 i0 i0 .db iS .al i0 i0 .db i0 i0 (i64 clock) (.bool lost)) := o19
 have s3 : ∀ c i (K : A2 → Hp → RS), k29_3 c i K (T11 (.ptr N 0) (.bool lost)) h15 = K (T14 (.ptr N 0)) h19 := fun c i K => by
  simp only [k29_3, K2, iQ, iR]
  (rw [aA, av, aC (az (Ob.c0 o15) 3 rfl), aA, av, Nat.zero_add, cw a16, aA, av, Nat.zero_add, cw a17, aA, av, Nat.zero_add, cw a18, aA, av, Nat.zero_add, cw a19]; try rfl)
 have F719 : cT (fun j => j = N) h7 h19 := ((((((((((cT.of O8).trans F9).trans F10).trans F11).trans F12).trans F13).trans F14).trans (.on g15)).trans F16).trans F17').trans F18 |>.trans F19
 have F1_19 := F17.trans F719
 have F19' : cT (fun j => j = N) h h19 := F1.trans F1_19
 have na1 : acc ≠ N := fun e => o1.ne (by rw [← e]; exact na)
 have nc1 : cho ≠ N := fun e => o1.ne (by rw [← e]; exact O2.none nc)
 have nk1 : km ≠ N := fun e => o1.ne (by rw [← e]; exact O2.none nk)
 have F2_19 : cT (fun j => j = N) h2 h19 := (((((cT.of (O3.trans O4)).trans F5).trans F6).trans F7).trans F719)
 have F3_19 : cT (fun j => j = N) h3 h19 := (((((cT.of O4).trans F5).trans F6).trans F7).trans F719)
 have oa19 := F2_19.ob oa2 na1
 have oc19 := F3_19.ob oc3 nc1
 have mk19 : ah km h19 = .map [] 0 := by rw [F3_19 km nk1 (by rw [mk3]; simp)]; exact mk3
 have w19 := w.oM F19' nND.symm gN1
 -- what the Mx has
 obtain ⟨v, r20, h20, h21, s4, k5, e20, o21, F21, W21⟩ := FJ T W19 o19 rfl rfl rfl rfl oa19 w19 ⟨by omega, by omega⟩
 have o21 : Ob h21 N 81 true .plain (nL (.ptr W 0) (i64 me) (.ptr D 0) (i64 clock) (.bool true) u5 (i64 (gS o)) (.ptr acc 0) (.ptr prop 0) (.ptr cho 0) i0 (.map met) i0 i0 i0 .db iS .al i0 i0 .db i0 i0 (i64 clock) (.bool lost)) := o21
 have oa21 := F21.ob oa19 na1
 have oc21 := F21.ob oc19 nc1
 have mk21 : ah km h21 = .map [] 0 := by rw [F21 km nk1 (by rw [mk19]; simp)]; exact mk19
 obtain ⟨h22, a22, o22, F22, W22⟩ := vt W21 o21 rfl 6 (by omega) (v := i64 (gS o + 1)) rfl
 have o22 : Ob h22 N 81 true .plain (nL (.ptr W 0) (i64 me) (.ptr D 0) (i64 clock) (.bool true) u5 (i64 (gS o + 1)) (.ptr acc 0) (.ptr prop 0) (.ptr cho 0) i0 (.map met) i0 i0 i0 .db iS .al i0 i0 .db i0 i0 (i64 clock) (.bool lost)) := o22
 have F022 := (F19'.trans F21).trans F22
 have oa22 := F22.ob oa21 na1
 have oc22 := F22.ob oc21 nc1
 have mk22 : ah km h22 = .map [] 0 := by rw [F22 km nk1 (by rw [mk21]; simp)]; exact mk21
 have I22 : AY h22 acc cho km := ⟨⟨_, oa22⟩, oc22, _, mk22⟩
 have oD22 := F022.ob oD nND.symm
 obtain ⟨h23, c23, o23, d23, F23, W23⟩ := Cw T.w W22 o22 rfl rfl rfl rfl rfl rfl I22 oD22
 have o23 : Ob h23 N 81 true .plain (nQ W D acc prop cho met me ⟨clock, true, 50, gS o + 1, 0, clock, lost⟩) := o23
 have g22 : ∀ k, (k = N ∨ k = D) → ∃ el l, Ob h22 k el true .plain l ∧ el ≠ 134 ∧ el ≠ 128 := fun k hk => by
  rcases hk with rfl | rfl
  ·exact ⟨_, _, o22, by decide, by decide⟩
  ·exact ⟨_, _, oD22, by decide, by decide⟩
 have I23 := I22.oM F23 g22
 have F023 : cT (fun j => j = N ∨ j = D) h h23 := (F022.mono fun j e => .inl e).trans F23
 have oT23 := F023.ob oT (fun e => e.elim nNt.symm nDt.symm)
 have s7 : Ev fun m => ∀ K : A2 → Hp → RS, k29_7 (aw p (exec p m)) (aF p (exec p m)) K r20 h21 = K (T14 (.ptr N 0)) h23 := c23.mono fun m u K => by
  simp only [k29_7, K1, e20]
  have d1 : ∀ K : AV → Hp → RS, Seat.D (i64 (gS o)) i1 h21 K = K (i64 (gS o + 1)) h21 := fun K => by
   show Seat.D (i64 (gS o)) (i64 1) h21 K = _
   rw [hS, gV _ (by unfold dq; omega)]
  (rw [aA, av, aC (az (Ob.c0 o21) 6 rfl), d1, aA, av, Nat.zero_add, cw a22, aD u]; try rfl)
 -- it is told
 obtain ⟨h24, c24, oT24, F24, W24⟩ := install_ok T W23 oT23 hme
 have cW23 := F023.ob cW (fun e => e.elim nNW.symm fun e => by rw [e] at cW; exact fq oD (.inl (by decide)) cW)
 have cN := Ob.c0 o23
 have s8 : Ev fun m => ∀ K : A2 → Hp → RS, k29_8 (aw p (exec p m)) (aF p (exec p m)) K (T14 (.ptr N 0)) h23 = K (T14 (.ptr N 0)) h24 := c24.mono fun m u K => by
  simp only [k29_8, K1, rK]
  have ci : aF p (exec p m) 0 (.iface 42 (.ptr t 0)) [i64 me, i0, iS] h23 = .ok aH h24 := by
   show lA 42 0 p.ms (fun f => aw p (exec p m) f [.ptr t 0, i64 me, i0, iS] h23) (.err 206) = _
   rw [T.mi]; exact u
  (rw [ai (dB N 0), ai (bG N 0 0), ai (az cN 0 rfl), ai (dB W 0), ai (bG W 0 2), ai (az (Ob.c0 cW23) 2 rfl), ai (dB N 0), ai (bG N 0 1), ai (az cN 1 rfl), ai (dB N 0), ai (bG N 0 13), ai (bG N (0 + 13) 1), ai (show lD (.ptr N (0 + 13 + 1)) h23 = .ok i0 h23 from az cN 14 rfl),
   ai (dB N 0), ai (bG N 0 13), ai (bG N (0 + 13) 3), ai (show lD (.ptr N (0 + 13 + 3)) h23 = .ok iS h23 from az cN 16 rfl), ai (show nC (.iface 42 (.ptr t 0)) h23 = .ok (.iface 42 (.ptr t 0)) h23 from rfl), kX ci]; try rfl)
 have o24 := F24.ob o23 nNt
 have I24 := I23.oM F24 fun k hk => ⟨_, _, hk ▸ oT23, by decide, by decide⟩
 have c25 := Cu T.w.r (Ob.c0 o24) I24 rfl
 have d24 := d23.oM F24 nDt fun k hk => ⟨_, _, hk ▸ oT23⟩
 refine ⟨acc, prop, cho, met, km, h24, .cS (r' := T27) (h1 := h24) T.e29 (by simp) (.eh s0 (.seq rn7 (.eh s1 (.eh s2 (.eh s3 (.to s4 (.seq k5 (.to s7 (.to s8 (.ag (c25.mono fun m u => ?_)))))))))))  rfl, o24, I24, d24, oT24, (F023.mono fun j e => e.elim .inl fun e => .inr (.inl e)).trans (F24.mono fun j e => .inr (.inr e)), W24⟩
 simp only [k29_9, K1, rK]
 (rw [aD u]; try rfl)
end
open Go.Cod
set_option maxRecDepth 20000
noncomputable section
variable {p : Pg} {h h0 h' h1 h2 h3 : Hp} {q j N D r : P4} {s t : Bs} {x y v a b d e net : AV} {L l : List AV} {A B : P4 → Prop} {n k : Nat}
def eG : Bs := le 1 (u64 7) ++ dM 0
theorem wK : eG.length = 9 := by unfold eG; rw [List.length_append, dr, bQ]
def Kr (h : Hp) (n : Nat) (L : List AV) (o : Nat) : Prop := ∃ (f t : Nat) (b : AV), L[o]? = some (i64 f) ∧ L[o + 1]? = some (i64 t) ∧ L[o + 2]? = some b ∧ f < n ∧ t < n ∧ SB h b eG
def fV (h0 h : Hp) (n : Nat) (net : AV) (k : Nat) : Prop := (net = .al ∧ k = 0) ∨ ∃ q L m, net = .cA q 0 k 3 ∧ Ob h q 86 false .plain L ∧ L.length = m * 3 ∧ k ≤ m ∧ m ≤ 4000 ∧ ah q h0 = .none ∧ ∀ i, i < k → Kr h n L (i * 3)
def M86 (h : Hp) (j : P4) : Prop := ∃ L, Ob h j 86 false .plain L
theorem Kr.vw (w : Kr h n L k) (g : ∀ b, SB h b eG → SB h' b eG) {L' : List AV} {k' : Nat} (e0 : L'[k']? = L[k]?) (e1 : L'[k' + 1]? = L[k + 1]?) (e2 : L'[k' + 2]? = L[k + 2]?) : Kr h' n L' k' := by
 obtain ⟨f, t, b, a0, a1, a2, a3, a4, a5⟩ := w
 exact ⟨f, t, b, by rw [e0, a0], by rw [e1, a1], by rw [e2, a2], a3, a4, g b a5⟩
theorem fV.up (w : fV h0 h n net k) (O : Old h h') : fV h0 h' n net k := by
 rcases w with w | ⟨q, L, m, e1, e2, e3, e4, e5, e6, e7⟩
 ·exact .inl w
 ·exact .inr ⟨q, L, m, e1, e2.old O, e3, e4, e5, e6, fun i hi => (e7 i hi).vw (fun b sb => sb.up O) rfl rfl rfl⟩
theorem fV.oM (w : fV h0 h n net k) (F : cT A h h') (g : ∀ j, A j → ∃ el l, Ob h j el true .plain l) : fV h0 h' n net k := by
 rcases w with w | ⟨q, L, m, e1, e2, e3, e4, e5, e6, e7⟩
 ·exact .inl w
 ·exact .inr ⟨q, L, m, e1, F.ob e2 fun ha => let ⟨el, l, o⟩ := g q ha; fq o (.inr (by simp)) e2, e3, e4, e5, e6, fun i hi => (e7 i hi).vw (fun b sb => sb.oM F fun k ha fl l ok => let ⟨el, l', o⟩ := g k ha; fq o (.inr (by simp)) ok) rfl rfl rfl⟩
theorem fV.len (w : fV h0 h n net k) : Am.len net h = .ok (i64 k) h := by
 rcases w with ⟨rfl, rfl⟩ | ⟨q, L, m, rfl, _⟩ <;> rfl
theorem fV.le (w : fV h0 h n net k) : k ≤ 4000 := by
 rcases w with ⟨_, rfl⟩ | ⟨q, L, m, _, _, _, e4, e5, _⟩ <;> omega
theorem fV.one (w : fV h0 h n net k) : net.one = true := by
 rcases w with ⟨rfl, _⟩ | ⟨q, L, m, rfl, _⟩ <;> rfl
theorem SB.m86 (w : SB h x s) (F : cT (M86 h) h h') : SB h' x s := w.oM F fun k ⟨L, o⟩ fl l ok => fq o (.inl (by decide)) ok
theorem Ks {new : List AV} {m k c : Nat} (o : Ob h q 86 false .plain L) (hn : new.length = m * 3) (hm : 0 < m) (hr : (k + m) * 3 ≤ L.length) : ∃ h', jC 86 3 m new (.cA q 0 k 3) h = .ok (.cA q 0 (k + m) 3) h' ∧ Ob h' q 86 false .plain (L.take (k * 3) ++ (new ++ L.drop ((k + m) * 3))) ∧ (∀ j, j ≠ q → ah j h' = ah j h) ∧ h'.next = h.next := by
 obtain ⟨m, rfl⟩ : ∃ m', m = m' + 1 := ⟨m - 1, by omega⟩
 obtain ⟨c, e1, e2, e3⟩ := o
 have hsum : (k + (m + 1)) * 3 = k * 3 + new.length := by rw [hn]; omega
 have hlen : (L.take (k * 3) ++ (new ++ L.drop ((k + (m + 1)) * 3))).length = L.length := by simp; omega
 refine ⟨cB q (.cells 86 L.length false .plain (bU new (k * 3) c)) h, ?_, ⟨bU new (k * 3) c, by rw [aG, if_pos rfl, hlen], ⟨e2.1.bU _ _, by rw [fy, hlen]; exact e2.2⟩, fun j hj => ?_⟩, fun j hj => by rw [aG, if_neg hj], rfl⟩
 ·show (@Bool.rec (fun _ => RV) (.err 81) (CQ 86 3 (m + 1) new q 0 k h) (Nat.beq 3 3)) = _
  rw [Nat.beq_refl]
  show (Obj.aN (ah q h) _ (.err 84) : RV) = _
  rw [e1]
  show (@Bool.rec (fun _ => RV) _ (.ok (.cA q 0 (k + (m + 1)) 3) (cB q (.cells 86 L.length false .plain (bU new (0 + k * 3) c)) h)) (Nat.ble (0 + (k + (m + 1)) * 3) L.length)) = _
  rw [show Nat.ble (0 + (k + (m + 1)) * 3) L.length = true from Nat.ble_eq_true_of_le (by omega), Nat.zero_add]
 ·have hj' : j < L.length := by rw [hlen] at hj; exact hj
  have hr' := e2.2
  rw [kH new (k * 3) c j (by omega) (by omega)]
  by_cases h1 : j < k * 3
  ·rw [dif_neg (by omega), List.getElem_append_left (by simp; omega), List.getElem_take, e3 j hj']
  ·by_cases h2 : j < k * 3 + new.length
   ·rw [dif_pos (by omega), List.getElem_append_right (by simp; omega), List.getElem_append_left (by simp; omega)]
    congr 1
    simp; omega
   ·rw [dif_neg (by omega), List.getElem_append_right (by simp; omega), List.getElem_append_right (by simp; omega), List.getElem_drop, e3 j hj']
    congr 1
    simp; omega
theorem yi {L new : List AV} {a b : Nat} (ha : a ≤ L.length) (hb : a + new.length = b) (hbl : b ≤ L.length) (i : Nat) : (L.take a ++ (new ++ L.drop b))[i]? = if i < a then L[i]? else if i < b then new[i - a]? else L[i]? := by
 have hl : (L.take a).length = a := by rw [List.length_take]; omega
 by_cases h1 : i < a
 ·rw [if_pos h1, List.getElem?_append_left (by omega), List.getElem?_take, if_pos h1]
 ·rw [if_neg h1, List.getElem?_append_right (by omega), hl]
  by_cases h2 : i < b
  ·rw [if_pos h2, List.getElem?_append_left (by omega)]
  ·rw [if_neg h2, List.getElem?_append_right (by omega), List.getElem?_drop]
   congr 1
   omega
theorem NT {el : Nat} {ex : Bool} {fl : Fl} (W : Wf h) (o : Ob h q el ex fl L) (g : ∀ j, j ≠ q → ah j h' = ah j h) (hn : h'.next = h.next) : Wf h' := dZ W o g hn
theorem MY (W : Wf h) (O : Old h0 h) (w : fV h0 h n net k) (hk : k < 4000) {f t : Nat} {bd : AV} (hf : f < n) (ht : t < n) (sb : SB h bd eG) : ∃ v h', jC 86 3 1 [i64 f, i64 t, bd] net h = .ok v h' ∧ fV h0 h' n v (k + 1) ∧ cT (M86 h) h h' ∧ Old h0 h' ∧ Wf h' := by
 have fresh : ∀ {v : AV} {h' : Hp}, jC 86 3 1 [i64 f, i64 t, bd] net h = .ok v h' → ∀ {L0 : List AV} {bb : P4 → Prop}, dK h' v 86 3 (L0 ++ [i64 f, i64 t, bd]) (fun j => bb j ∨ ah j h = .none) → (∀ j, bb j → ah j h0 = .none) → L0.length = k * 3 → (∀ i, i < k → Kr h n L0 (i * 3)) → cT (M86 h) h h' → Wf h' →
   fV h0 h' n v (k + 1) := fun e L0 bb o hb hl hm F W' => by
  rcases o with ⟨o, _⟩ | ⟨q, m, rfl, e2, e3, e4⟩
  ·simp at o
  ·have hm1 : m = k + 1 := by simp at e2; omega
   subst hm1
   refine .inr ⟨q, _, k + 1, rfl, e3, e2, Nat.le_refl _, by omega, e4.elim (hb q) fun g => O.none g, fun i hi => ?_⟩
   by_cases h1 : i < k
   ·refine (hm i h1).vw (fun b sb => sb.m86 F) ?_ ?_ ?_ <;> rw [List.getElem?_append_left (by omega)]
   ·have : i = k := by omega
    subst this
    exact ⟨f, t, bd, by rw [List.getElem?_append_right (by omega), hl, Nat.sub_self]; rfl, by rw [List.getElem?_append_right (by omega), hl]; simp, by rw [List.getElem?_append_right (by omega), hl]; simp, hf, ht, sb.m86 F⟩
 rcases w with ⟨rfl, rfl⟩ | ⟨q, L, m, rfl, e2, e3, e4, e5, e6, e7⟩
 ·obtain ⟨v, h', c1, c2, c3, c4⟩ := gW (el := 86) (es := 3) (m := 1) W (x := .al) (l := []) (b := fun _ => False) (.inl ⟨rfl, .inl rfl⟩) (by omega) (new := [i64 f, i64 t, bd]) rfl (by simp)
  have F : Old h h' := fun j hj => c4 j hj fun g => g
  exact ⟨v, h', c1, fresh c1 c2 (fun j g => g.elim) rfl (fun i hi => by omega) (.of F) c3, .of F, O.trans F, c3⟩
 ·by_cases hm : k < m
  ·obtain ⟨h', c1, c2, c3, c4⟩ := Ks (c := 0) (k := k) (m := 1) (new := [i64 f, i64 t, bd]) e2 rfl (by omega) (by omega)
   have F : cT (M86 h) h h' := .one c3 ⟨L, e2⟩
   have gm := yi (L := L) (new := [i64 f, i64 t, bd]) (a := k * 3) (b := (k + 1) * 3) (by omega) (by simp; omega) (by omega)
   refine ⟨_, h', c1, .inr ⟨q, _, m, rfl, c2, by simp; omega, by omega, e5, e6, fun i hi => ?_⟩, F, (cT.one (A := fun j => j = q) c3 rfl).old O fun j e => by rw [e]; exact e6, dZ W e2 c3 c4⟩
   by_cases h1 : i < k
   ·refine (e7 i h1).vw (fun b sb => sb.m86 F) ?_ ?_ ?_ <;> rw [gm, if_pos (by omega)]
   ·have : i = k := by omega
    subst this
    refine ⟨f, t, bd, ?_, ?_, ?_, hf, ht, sb.m86 F⟩
    ·rw [gm, if_neg (by omega), if_pos (by omega), Nat.sub_self]; rfl
    ·rw [gm, if_neg (by omega), if_pos (by omega), Nat.add_sub_cancel_left]; rfl
    ·rw [gm, if_neg (by omega), if_pos (by omega), Nat.add_sub_cancel_left]; rfl
  ·have hkm : m = k := by omega
   subst hkm
   obtain ⟨v, h', c1, c2, c3, c4⟩ := gW (el := 86) (es := 3) (m := 1) W (x := .cA q 0 m 3) (l := L) (b := fun j => j = q) (.inr ⟨q, m, rfl, e3, e2, rfl⟩) (by omega) (new := [i64 f, i64 t, bd]) rfl (by simp; omega)
   have F : cT (fun j => j = q) h h' := fun j hj hn => c4 j hn hj
   exact ⟨v, h', c1, fresh c1 c2 (fun j g => by rw [g]; exact e6) e3 e7 (F.mono fun j e => ⟨L, e ▸ e2⟩) c3, F.mono fun j e => ⟨L, e ▸ e2⟩, F.old O fun j e => by rw [e]; exact e6, c3⟩
structure MZ (p : Pg) : Prop where
 u : qW p
 e31 : ar 31 p.fs = f31
 e32 : ar 32 p.fs = f32
 e34 : ar 34 p.fs = f34
def bW (h : Hp) (W t : P4) (net nd : AV) : Prop := Ob h W 67 true .plain [net, nd, .iface 42 (.ptr t 0)]
theorem uM {el : Nat} {l : List AV} (o : Ob h q el true .plain l) : ¬ M86 h q := fun ⟨L, o'⟩ => fq o (.inr (by simp)) o'
theorem DP (T : MZ p) (Wf0 : Wf h) (O : Old h0 h) {W t : P4} {nd : AV} (cW : bW h W t net nd) (nW : ah W h0 = .none) (w : fV h0 h n net k) {f g : Nat} {bd : AV} (hf : f < n) (hg : g < n) (sb : SB h bd eG) :
  ∃ net' k' h', Cv p 34 [.ptr W 0, i64 f, i64 g, bd] h aH h' ∧ bW h' W t net' nd ∧ fV h0 h' n net' k' ∧ cT (fun j => j = W ∨ M86 h j) h h' ∧ Old h0 h' ∧ Wf h' := by
 obtain ⟨qb, ob, Lb, rfl, _⟩ := id sb
 have c := Ob.c0 cW
 have r0 : y0 (aR [.ptr W 0, i64 f, i64 g, .cA qb ob eG.length 1] 0 .nil) = .ptr W 0 := rfl
 have r1 : y1 (aR [.ptr W 0, i64 f, i64 g, .cA qb ob eG.length 1] 0 .nil) = i64 f := rfl
 have r2 : y2 (aR [.ptr W 0, i64 f, i64 g, .cA qb ob eG.length 1] 0 .nil) = i64 g := rfl
 have r3 : y3 (aR [.ptr W 0, i64 f, i64 g, .cA qb ob eG.length 1] 0 .nil) = .cA qb ob eG.length 1 := rfl
 by_cases hk : k < 4000
 ·obtain ⟨q, h1, b1, b2, b3, b4, b5, _⟩ := rL (el := 86) (es := 3) (n := 1) (z := [i0, i0, .al]) (ps := [.mk 0 3 (.c (.agg [i64 f, i64 g, .cA qb ob eG.length 1]))]) (l := [i64 f, i64 g, .cA qb ob eG.length 1]) Wf0 rfl rfl (by simp)
  obtain ⟨v, h2, a1, a2, a3, a4, a5⟩ := MY b5 (O.trans b4) (w.up b4) hk hf hg (sb.up b4)
  have V : eJ 86 3 net (.slice q 0 1 1) h1 = .ok v h2 := by
   rw [gA (m := 1) (q := q) (o := 0) (l := [i64 f, i64 g, .cA qb ob eG.length 1]) (.inl ⟨_, rfl⟩) (by omega) (fun _ => Ob.c0 b3) rfl (by omega)]
   exact a1
  have cW1 : bW h1 W t net nd := Ob.old cW b4
  have cW2 : bW h2 W t net nd := a3.ob cW1 (uM cW1)
  obtain ⟨h3, d1, d2, d3, d4⟩ := ff (k := 0) (v := v) cW2 (by simp) a2.one
  have d2 : bW h3 W t v nd := d2
  have F3 : cT (fun j => j = W) h2 h3 := .on d3
  refine ⟨v, k + 1, h3, .cS (r' := T27) (h1 := h3) T.e34 (by simp) (.aU fun c' i K => ?_) rfl, d2, a2.oM F3 fun j e => ⟨_, _, e ▸ cW2⟩, ?_, F3.old a4 fun j e => by rw [e]; exact nW, dZ a5 cW2 d3 d4⟩
  ·simp only [k34_0, K4, r0, r1, r2, r3]
   have y : ∀ K : AV → Hp → RS, Seat.Y (i64 k) (pi 4000) h K = K (.bool true) h := fun K => by
    show Seat.Y (i64 k) (i64 4000) h K = _
    rw [di, decide_eq_true (by omega)]
   (rw [aA, av, aC (az c 0 rfl), cU w.len, y, dY, aA, av, aC (az c 0 rfl), jl (v := .agg [i64 f, i64 g, .cA qb ob eG.length 1]) (h' := h) rfl, aM b1, aM V, aA, av, Nat.zero_add, cw d1]; try rfl)
  ·have F2 : cT (fun j => j = W ∨ M86 h j) h h2 := (a3.less b4 fun j ⟨L, o⟩ => by
    by_cases hj : ah j h = .none
    ·exact .inr hj
    ·exact .inl ⟨L, o.eq (b4 j hj).symm⟩).mono fun j g => .inr g
   exact F2.trans (F3.mono fun j e => .inl e)
 ·refine ⟨net, k, h, .cS (r' := T27) (h1 := h) T.e34 (by simp) (.aU fun c' i K => ?_) rfl, cW, w, .refl _ _, O, Wf0⟩
  simp only [k34_0, K4, r0, r1, r2, r3]
  have y : ∀ K : AV → Hp → RS, Seat.Y (i64 k) (pi 4000) h K = K (.bool false) h := fun K => by
   show Seat.Y (i64 k) (i64 4000) h K = _
   rw [di, decide_eq_false (by omega)]
  (rw [aA, av, aC (az c 0 rfl), cU w.len, y, aY]; try rfl)
theorem Qu (m : Int) : vB (i64 m) h = .ok (i64 (IntKind.i64.wrap (-m))) h := by
 show RV.ok (.int .i64 (iy .i64 (KD m))) h = _
 rw [de, sF]
theorem ya (T : MZ p) {W t : P4} {nd : AV} (cW : bW h W t net nd) (w : fV h0 h n net k) {m : Int} (hm : dq m) : ∃ r : Int, Cv p 31 [.ptr W 0, i64 m] h (i64 r) h ∧ ((k = 0 ∧ r = -1) ∨ ∃ i : Nat, r = i ∧ i < k) := by
 have c := Ob.c0 cW
 have hk := w.le
 by_cases h0' : k = 0
 ·refine ⟨-1, .of (r' := T1 (ni 0)) (h1 := h) T.e31 (by simp) (.aU fun c' i K => ?_) rfl, .inl ⟨h0', rfl⟩⟩
  simp only [k31_0, K2, bE, bF]
  have q0 : ∀ K : AV → Hp → RS, Seat.Q (i64 k) i0 h K = K (.bool true) h := fun K => by
   show Seat.Q (i64 k) (i64 0) h K = _
   rw [gU, decide_eq_true (by omega)]
  (rw [aA, av, aC (az c 0 rfl), cU w.len, q0, dY]; try rfl)
 ·have q0 : ∀ K : AV → Hp → RS, Seat.Q (i64 k) i0 h K = K (.bool false) h := fun K => by
   show Seat.Q (i64 k) (i64 0) h K = _
   rw [gU, decide_eq_false (by omega)]
  have fin : ∀ z : Int, 0 ≤ z → Rn p (.ag k31_1 .skip) (T11 (.ptr W 0) (i64 z)) h (.ret (T1 (i64 (z.tmod (k : Int)))) h) := fun z hz => .aU fun c' i K => by
   simp only [k31_1, K2, iQ, iR]
   have rm : vA (i64 z) (i64 k) h = .ok (i64 (z.tmod (k : Int))) h := by
    have e1 : Bc z (Int.ofNat k) = z.tmod (Int.ofNat k) := by cases z <;> rfl
    show FT (@Bool.rec (fun _ => AV) (.int .i64 (Bc z (Int.ofNat k))) .undef (sI (Int.ofNat k) (.ofNat 0))) h = _
    rw [hE, decide_eq_false (by intro g; exact h0' (Int.ofNat.inj g)), e1]; rfl
   (rw [aA, av, aC (az c 0 rfl), cU w.len, aM rm]; try rfl)
  have res : ∀ z : Int, 0 ≤ z → ∃ i : Nat, z.tmod (k : Int) = i ∧ i < k := fun z hz => by
   have a1 := Int.tmod_lt_of_pos z (show (0 : Int) < (k : Int) by omega)
   have a2 := Int.tmod_nonneg (k : Int) hz
   exact ⟨(z.tmod (k : Int)).toNat, by omega, by omega⟩
  by_cases hn : m < 0
  ·have hz : 0 ≤ -(m + 1) := by omega
   refine ⟨_, .of (r' := T1 (i64 ((-(m + 1)).tmod (k : Int)))) (h1 := h) T.e31 (by simp) (.eh (r' := T11 (.ptr W 0) (i64 (-(m + 1)))) (h' := h) (fun c' i K => ?_) (fin _ hz)) rfl, .inr (res _ hz)⟩
   simp only [k31_0, K2, bE, bF]
   have y : ∀ K : AV → Hp → RS, Seat.Y (i64 m) i0 h K = K (.bool true) h := fun K => by
    show Seat.Y (i64 m) (i64 0) h K = _
    rw [di, decide_eq_true hn]
   have d1 : ∀ K : AV → Hp → RS, Seat.D (i64 m) i1 h K = K (i64 (m + 1)) h := fun K => by
    show Seat.D (i64 m) (i64 1) h K = _
    rw [hS, gV _ (by unfold dq at *; omega)]
   have ng : vB (i64 (m + 1)) h = .ok (i64 (-(m + 1))) h := by rw [Qu, gV _ (by unfold dq at *; omega)]
   (rw [aA, av, aC (az c 0 rfl), cU w.len, q0, aY, y, dY, d1, aM ng]; try rfl)
  ·refine ⟨_, .of (r' := T1 (i64 (m.tmod (k : Int)))) (h1 := h) T.e31 (by simp) (.eh (r' := T11 (.ptr W 0) (i64 m)) (h' := h) (fun c' i K => ?_) (fin _ (by omega))) rfl, .inr (res _ (by omega))⟩
   simp only [k31_0, K2, bE, bF]
   (rw [aA, av, aC (az c 0 rfl), cU w.len, q0, aY, kW (by omega), aY]; try rfl)
theorem JB (T : MZ p) (Wf0 : Wf h) (O : Old h0 h) (w : fV h0 h n net k) {i : Nat} (hi : i < k) : ∃ v h', Cv p 32 [net, i64 i, i64 (i + 1 : Nat)] h v h' ∧ fV h0 h' n v (k - 1) ∧ cT (M86 h) h h' ∧ Old h0 h' ∧ Wf h' := by
 rcases w with ⟨_, rfl⟩ | ⟨q, L, m, rfl, e2, e3, e4, e5, e6, e7⟩
 ·omega
 have hb : ∀ {a : Nat}, a ≤ L.length → Nat.ble a L.length = true := fun g => Nat.ble_eq_true_of_le g
 have cutRs_at : ∀ {h : Hp} {L : List AV}, Ob h q 86 false .plain L → ∀ (a b : Nat), a ≤ b → b * 3 ≤ L.length → CI 3 q 0 a b h = .ok (.cA q (0 + a * 3) (b - a) 3) h := fun o a b hab hbl => by
  obtain ⟨c, f1, _⟩ := o
  show (@Bool.rec (fun _ => RV) (.err 42) (Obj.aN (ah q _) (fun _ k _ _ _ => @Bool.rec (fun _ => RV) (.err 45) (.ok (.cA q (0 + a * 3) (b - a) 3) _) (Nat.ble (0 + b * 3) k)) (.err 46)) (Nat.ble a b)) = _
  rw [Nat.ble_eq_true_of_le hab, f1]
  show (@Bool.rec (fun _ => RV) (.err 45) (.ok (.cA q (0 + a * 3) (b - a) 3) _) (Nat.ble (0 + b * 3) _)) = _
  rw [Nat.ble_eq_true_of_le (by omega)]
 have f1 : ∃ v, cY 3 (.c (.cA q 0 k 3)) (.some (.c (i64 i))) (.some (.c (i64 (i + 1 : Nat)))) (.some (.c (i64 k))) .nil h = .ok v h := by
  obtain ⟨c, g1, _⟩ := e2
  refine ⟨.slice q (@Bool.rec (fun _ => Nat) (0 + i * 3) 0 (Nat.beq k i)) ((i + 1) - i) (k - i), (?_ : Gj 3 q 0 i (i + 1) k h = .ok (.slice q (@Bool.rec (fun _ => Nat) (0 + i * 3) 0 (Nat.beq k i)) ((i + 1) - i) (k - i)) h)⟩
  ·show (@Bool.rec (fun _ => RV) (.err 42) (@Bool.rec (fun _ => RV) (.err 42) (Obj.aN (ah q h) (fun _ K _ _ _ => @Bool.rec (fun _ => RV) (.err 45) (.ok (.slice q (@Bool.rec (fun _ => Nat) (0 + i * 3) 0 (Nat.beq k i)) ((i + 1) - i) (k - i)) h) (Nat.ble (0 + k * 3) K)) (.err 46)) (Bool.and (Nat.ble 1 k) (Nat.ble (i + 1) k))) (Nat.ble i (i + 1))) = _
   rw [Nat.ble_eq_true_of_le (show i ≤ i + 1 by omega), Nat.ble_eq_true_of_le (show 1 ≤ k by omega), Nat.ble_eq_true_of_le (show i + 1 ≤ k by omega), g1]
   show (@Bool.rec (fun _ => RV) (.err 45) (.ok (.slice q (@Bool.rec (fun _ => Nat) (0 + i * 3) 0 (Nat.beq k i)) ((i + 1) - i) (k - i)) h) (Nat.ble (0 + k * 3) L.length)) = _
   rw [Nat.ble_eq_true_of_le (show 0 + k * 3 ≤ L.length by omega)]
 obtain ⟨vf, f1⟩ := f1
 have g1 : cY 3 (.c (.cA q 0 k 3)) .none (.some (.c (i64 i))) .none .nil h = .ok (.cA q 0 i 3) h := by
  exact cutRs_at e2 0 i (by omega) (by omega)
 have g2 : cY 3 (.c (.cA q 0 k 3)) (.some (.c (i64 (i + 1 : Nat)))) .none .none .nil h = .ok (.cA q (0 + (i + 1) * 3) (k - (i + 1)) 3) h := cutRs_at e2 (i + 1) k (by omega) (by omega)
 -- what lies behind goes forward
 have key : ∃ L' h1, eJ 86 3 (.cA q 0 i 3) (.cA q (0 + (i + 1) * 3) (k - (i + 1)) 3) h = .ok (.cA q 0 (k - 1) 3) h1 ∧ Ob h1 q 86 false .plain L' ∧ L'.length = L.length ∧ (∀ x, x < (k - 1) * 3 → L'[x]? = if x < i * 3 then L[x]? else L[x + 3]?) ∧ (∀ j, j ≠ q → ah j h1 = ah j h) ∧ h1.next = h.next := by
  have fB : ((L.drop ((i + 1) * 3)).take ((k - (i + 1)) * 3)).length = (k - (i + 1)) * 3 := by rw [List.length_take, List.length_drop]; omega
  have va : eJ 86 3 (.cA q 0 i 3) (.cA q (0 + (i + 1) * 3) (k - (i + 1)) 3) h = jC 86 3 (k - (i + 1)) ((L.drop ((i + 1) * 3)).take ((k - (i + 1)) * 3)) (.cA q 0 i 3) h :=
   gA (m := k - (i + 1)) (q := q) (o := 0 + (i + 1) * 3) (.inr (.inl rfl)) (by omega) (fun _ => e2.cs (k := 0 + (i + 1) * 3) (fun j hj => by
    rw [fB] at hj
    refine ⟨by omega, ?_⟩
    rw [List.getElem_take, List.getElem_drop]
    congr 1
    omega) (by rw [fB]; omega)) fB (by omega)
  by_cases hz : k - (i + 1) = 0
  ·refine ⟨L, h, ?_, e2, rfl, fun x hx => by rw [if_pos (by omega)], fun _ _ => rfl, rfl⟩
   rw [va, hz]
   show (@Bool.rec (fun _ => RV) (.err 81) (.ok (.cA q 0 i 3) h) (Nat.beq 3 3)) = _
   rw [Nat.beq_refl, show k - 1 = i by omega]
  ·obtain ⟨h1, c1, c2, c3, c4⟩ := Ks (c := 0) (k := i) (m := k - (i + 1)) e2 fB (by omega) (by omega)
   refine ⟨_, h1, ?_, c2, ?_, fun x hx => ?_, c3, c4⟩
   ·rw [va, c1, show i + (k - (i + 1)) = k - 1 by omega]
   ·simp only [List.length_append, List.length_take, List.length_drop]; omega
   ·rw [yi (by omega) (by rw [fB]; omega) (by omega)]
    by_cases h1 : x < i * 3
    ·rw [if_pos h1, if_pos h1]
    ·rw [if_neg h1, if_neg h1, if_pos (by omega), List.getElem?_take, if_pos (by omega), List.getElem?_drop]
     congr 1
     omega
 obtain ⟨L', h1, a1, o1, l1, p1, n1, x1⟩ := key
 have W1 := dZ Wf0 e2 n1 x1
 have g3 : cY 3 (.c (.cA q 0 (k - 1) 3)) (.some (.c (i64 (k - 1 : Nat)))) (.some (.c (i64 k))) .none .nil h1 = .ok (.cA q (0 + (k - 1) * 3) (k - (k - 1)) 3) h1 := cutRs_at o1 (k - 1) k (by omega) (by omega)
 -- the last place is cleared
 obtain ⟨h2, b1, o2, n2, x2⟩ : ∃ h2, nB [i0, i0, .al] (.c (.cA q (0 + (k - 1) * 3) (k - (k - 1)) 3)) .nil h1 = .ok aH h2 ∧ Ob h2 q 86 false .plain (L'.take ((k - 1) * 3) ++ ([i0, i0, .al] ++ L'.drop ((k - 1) * 3 + 3))) ∧ (∀ j, j ≠ q → ah j h2 = ah j h1) ∧ h2.next = h1.next := by
  obtain ⟨h2, c1, c2, c3, c4⟩ := mz (k := (k - 1) * 3) (m := 3) (l' := [i0, i0, .al]) (ex := false) o1 rfl (by omega)
  refine ⟨h2, ?_, c2, c3, c4⟩
  have hk1 : k - (k - 1) = 1 := by omega
  rw [hk1, Nat.zero_add]
  obtain ⟨c, f1, _⟩ := o1
  have c1' : (Obj.aN (ah q h1) (fun el n ex fl c => @Bool.rec (fun _ => RV) (.err 24) (@Bool.rec (fun _ => RV) (.err 25) (.ok .undef (cB q (.cells el n ex fl (bU [i0, i0, .al] ((k - 1) * 3) c)) h1)) (Nat.beq 3 3)) (Nat.ble ((k - 1) * 3 + 3) n)) (.err 27) : RV) = .ok .undef h2 := by
   rw [f1]
   rw [← c1]
   show _ = (Obj.aN (ah q h1) _ (.err 27) : RV)
   rw [f1]; rfl
  rw [f1] at c1'
  have c1'' : (@Bool.rec (fun _ => RV) (.err 24) (RV.ok .undef (cB q (.cells 86 L'.length false .plain (bU [i0, i0, .al] ((k - 1) * 3) c)) h1)) (Nat.ble ((k - 1) * 3 + 3) L'.length)) = .ok .undef h2 := c1'
  rw [Nat.ble_eq_true_of_le (show (k - 1) * 3 + 3 ≤ L'.length by omega)] at c1''
  have e := (RV.an c1'').2
  show (Obj.aN (ah q h1) (fun el n ex fl c => @Bool.rec (fun _ => RV) (.err 78) (@Bool.rec (fun _ => RV) (.err 79) (.ok aH (cB q (.cells el n ex fl (bU [i0, i0, .al] ((k - 1) * 3) c)) h1)) (Nat.ble ((k - 1) * 3 + 3) n)) (wr fl)) (.err 80) : RV) = _
  rw [f1]
  show (@Bool.rec (fun _ => RV) (.err 79) (.ok aH (cB q (.cells 86 L'.length false .plain (bU [i0, i0, .al] ((k - 1) * 3) c)) h1)) (Nat.ble ((k - 1) * 3 + 3) L'.length)) = _
  rw [Nat.ble_eq_true_of_le (show (k - 1) * 3 + 3 ≤ L'.length by omega), ← e]
 have W2 := dZ W1 o1 n2 x2
 have F : cT (fun j => j = q) h h2 := (cT.on n1).trans (.on n2)
 have F' : cT (M86 h) h h2 := F.mono fun j e => ⟨L, e ▸ e2⟩
 refine ⟨_, h2, .of (r' := T12 (.cA q 0 (k - 1) 3)) (h1 := h2) T.e32 (by simp) (.eh (r' := T35 (.cA q 0 k 3) (i64 i) (i64 (i + 1 : Nat)) (i64 k)) (h' := h) (fun c i' K => ?_) (.aU fun c i' K => ?_)) rfl,
  .inr ⟨q, _, m, rfl, o2, by simp only [List.length_append, List.length_take, List.length_drop, List.length_cons, List.length_nil]; omega, by omega, e5, e6, fun x hx => ?_⟩, F', F.old O fun j e => by rw [e]; exact e6, W2⟩
 ·simp only [k32_0, K3, ml, mq, mr]
  have lk : Am.len (.cA q 0 k 3) h = .ok (i64 k) h := rfl
  have q0 : ∀ K : AV → Hp → RS, Seat.Q (i64 i) (i64 (i + 1 : Nat)) h K = K (.bool false) h := fun K => by rw [gU, decide_eq_false (by omega)]
  (rw [cU lk, aM f1, q0, aY, cU lk]; try rfl)
 ·simp only [k32_1, K4, t35_0, t35_1, t35_2, t35_7]
  have lk : Am.len (.cA q 0 (k - 1) 3) h1 = .ok (i64 (k - 1 : Nat)) h1 := rfl
  (rw [ai g1, ai g2, kX (show RV.iU (eJ 86 3 (.cA q 0 i 3) (.cA q (0 + (i + 1) * 3) (k - (i + 1)) 3) h) = .ok (.cA q 0 (k - 1) 3) h1 by rw [a1]; rfl), cU lk, aM g3, aM b1]; try rfl)
 ·have gm := yi (L := L') (new := [i0, i0, .al]) (a := (k - 1) * 3) (b := (k - 1) * 3 + 3) (by omega) rfl (by omega)
  have at' : ∀ z, z < 3 → (L'.take ((k - 1) * 3) ++ ([i0, i0, .al] ++ L'.drop ((k - 1) * 3 + 3)))[x * 3 + z]? = if x < i then L[x * 3 + z]? else L[(x + 1) * 3 + z]? := fun z hz => by
   rw [gm, if_pos (by omega), p1 _ (by omega)]
   by_cases h1 : x < i
   ·rw [if_pos (by omega), if_pos h1]
   ·rw [if_neg (by omega), if_neg h1]
    congr 1
    omega
  by_cases h1 : x < i
  ·exact (e7 x (by omega)).vw (fun b sb => sb.m86 F') (by have := at' 0 (by omega); rw [if_pos h1] at this; exact this) (by have := at' 1 (by omega); rw [if_pos h1] at this; exact this) (by have := at' 2 (by omega); rw [if_pos h1] at this; exact this)
  ·exact (e7 (x + 1) (by omega)).vw (fun b sb => sb.m86 F') (by have := at' 0 (by omega); rw [if_neg h1] at this; exact this) (by have := at' 1 (by omega); rw [if_neg h1] at this; exact this) (by have := at' 2 (by omega); rw [if_neg h1] at this; exact this)
theorem fV.at (w : fV h0 h n net k) {i : Nat} (hi : i < k) : ∃ (q : P4) (f t : Nat) (b : AV), iX 3 net (i64 i) h = .ok (.ptr q (i * 3)) h ∧ Cs h q (i * 3) [i64 f, i64 t, b] ∧ f < n ∧ t < n ∧ SB h b eG := by
 rcases w with ⟨_, rfl⟩ | ⟨q, L, m, rfl, e2, e3, e4, e5, e6, e7⟩
 ·omega
 obtain ⟨f, t, b, a0, a1, a2, a3, a4, a5⟩ := e7 i hi
 refine ⟨q, f, t, b, by rw [wH (q := q) (o := 0) (n := k) (.inr (.inl rfl)) hi, Nat.zero_add], e2.cs (k := i * 3) (fun j hj => ?_) (by simp; omega), a3, a4, a5⟩
 have hj : j < 3 := hj
 match j, hj with
 | 0, _ => exact List.getElem?_eq_some_iff.1 a0
 | 1, _ => exact List.getElem?_eq_some_iff.1 a1
 | 2, _ => exact List.getElem?_eq_some_iff.1 a2
end
end Go.Am.Seat
namespace Go.Am
noncomputable section
variable {p : Pg} {h g : Hp} {hs : List Hp} {r : A2} {s : RS} {gs : List GI} {l : List DI} {d : aQ} {i : AI} {a b : H} {w : Bool}
theorem Os.un (hb : aq a b r = aH) (g : Os p gs (bN d aH r) h s) : Os p (.g a b w d i :: gs) r h s := g.mono fun m g => by
 show AV.bn (gb w (aq a b r)) (iz d (eR p (exec p m) gs) r h i p (exec p m) w) (.err 210) = s
 rw [hb, ← g]
 cases w <;> rfl
theorem Ds.Sy {n : Nat} (hb : aq a b r = aH) (k : Ds p l (bN d aH r) h g hs s) : Ds p (.mk (.rd n) (.g a b w d i) :: l) r h g hs s := k.mono fun m k => by
 show AV.bn (gb w (aq a b r)) (Bn (.rd n) d i (dn p (exec p m) l) r h g hs p (exec p m) w) (.err 212) = s
 rw [hb, ← k]
 cases w <;> rfl
end
end Go.Am
namespace Go.Am.Seat
open Go.Cod
set_option maxRecDepth 20000
noncomputable section
variable {p : Pg} {h h0 h' h1 h2 h3 : Hp} {q j N D r W t G : P4} {s : Bs} {x y v a b d e net nd : AV} {L l : List AV} {A B : P4 → Prop} {n k c me : Nat}
structure NR where
 N : P4
 D : P4
 s : NS
structure jS (h : Hp) (W : P4) (me c : Nat) (r : NR) : Prop where
 ob : ∃ acc prop cho met km, Ob h r.N 81 true .plain (nQ W r.D acc prop cho met me r.s) ∧ AY h acc cho km
 Mx : fT h r.D (qV r.s.bT)
 bT : 0 ≤ r.s.bT ∧ r.s.bT ≤ c
 tries : 0 ≤ r.s.tries ∧ r.s.tries ≤ c
def vu (h : Hp) (j : P4) : Prop := ∃ el ex l, Ob h j el ex .plain l ∧ (el = 81 ∨ el = 92 ∨ el = 67 ∨ el = 47 ∨ el = 86)
theorem vu.no {el : Nat} {ex : Bool} {fl : Fl} (m : vu h j) (g : el ≠ 81 ∧ el ≠ 92 ∧ el ≠ 67 ∧ el ≠ 47 ∧ el ≠ 86) : ¬ Ob h j el ex fl l := fun o => by
 obtain ⟨el', ex', l', o', e⟩ := m
 refine o.apart o' (.inl fun e' => ?_) rfl
 rw [e'] at g
 rcases e with e | e | e | e | e <;> simp [e] at g
theorem vu.Ut {l : List KV} {ck : Nat} (m : vu h j) : ah j h ≠ .map l ck := fun e => by
 obtain ⟨el', ex', l', ⟨c, e', _⟩, _⟩ := m
 rw [e] at e'
 cases e'
theorem SB.xY (w : SB h x s) (F : cT A h h') (m : ∀ j, A j → vu h j) : SB h' x s := w.oM F fun k ha fl l ok => (m k ha).no (by decide) ok
theorem en.xY {ns : List P4} (w : en h nd ns) (F : cT A h h') (m : ∀ j, A j → vu h j) : en h' nd ns := by
 rcases w with w | ⟨q, n, e1, e2, e3, e4⟩
 ·exact .inl w
 ·exact .inr ⟨q, n, e1, e2, F.ob e3 fun ha => (m q ha).no (by decide) e3, e4⟩
theorem AY.xY {acc cho km : P4} (I : AY h acc cho km) (F : cT A h h') (m : ∀ j, A j → vu h j) : AY h' acc cho km := by
 obtain ⟨⟨vm, a⟩, c, ck, mk⟩ := I
 exact ⟨⟨vm, F.ob a fun ha => (m _ ha).no (by decide) a⟩, F.ob c fun ha => (m _ ha).no (by decide) c, ck, by rw [F km (fun ha => (m km ha).Ut mk) (by rw [mk]; simp)]; exact mk⟩
theorem jS.xY {r : NR} {c' : Nat} (w : jS h W me c r) (F : cT A h h') (m : ∀ j, A j → vu h j) (hN : ¬ A r.N) (hD : ¬ A r.D) (hc : c ≤ c') : jS h' W me c' r := by
 obtain ⟨⟨acc, prop, cho, met, km, o, I⟩, ⟨b, oD, sb⟩, w3, w4⟩ := w
 exact ⟨⟨acc, prop, cho, met, km, F.ob o hN, I.xY F m⟩, ⟨b, F.ob oD hD, sb.xY F m⟩, ⟨w3.1, by omega⟩, ⟨w4.1, by omega⟩⟩
structure Idle (h0 h : Hp) (G W tt : P4) (ns : List NR) (c k : Nat) : Prop where
 old : Old h0 h
 wf : Wf h
 g : Ob h G 50 true .plain [.ptr W 0, .ptr tt 0]
 w : ∃ net nd, bW h W tt net nd ∧ en h nd (ns.map NR.N) ∧ fV h0 h ns.length net k
 t : Ob h tt 47 true .plain tL
 n : ∀ i (hi : i < ns.length), jS h W i c ns[i]
 nd : ∀ i j (hi : i < ns.length) (hj : j < ns.length), i ≠ j → ns[i].N ≠ ns[j].N ∧ ns[i].D ≠ ns[j].D
 nW : ah W h0 = .none
 nt : ah tt h0 = .none
 nn : ∀ i (hi : i < ns.length), ah ns[i].N h0 = .none ∧ ah ns[i].D h0 = .none
 len : ns.length ≤ 5
variable {ns : List NR}
theorem jS.MA {r : NR} (w : jS h W me c r) : ∃ l, Ob h r.N 81 true .plain l := let ⟨⟨_, _, _, _, _, o, _⟩, _, _, _⟩ := w; ⟨_, o⟩
theorem jS.My {r : NR} (w : jS h W me c r) : ∃ l, Ob h r.D 92 true .plain l := let ⟨_, ⟨_, o, _⟩, _, _⟩ := w; ⟨_, o⟩
theorem Idle.PT (I : Idle h0 h G W t ns c k) {i : Nat} (hi : i < ns.length) : vu h ns[i].N := let ⟨l, o⟩ := (I.n i hi).MA; ⟨_, _, l, o, .inl rfl⟩
theorem Idle.Tw (I : Idle h0 h G W t ns c k) {i : Nat} (hi : i < ns.length) : vu h ns[i].D := let ⟨l, o⟩ := (I.n i hi).My; ⟨_, _, l, o, .inr (.inl rfl)⟩
theorem Idle.Tx (I : Idle h0 h G W t ns c k) : vu h W := let ⟨_, _, o, _⟩ := I.w; ⟨_, _, _, o, .inr (.inr (.inl rfl))⟩
theorem Idle.Sj (I : Idle h0 h G W t ns c k) : vu h t := ⟨_, _, _, I.t, .inr (.inr (.inr (.inl rfl)))⟩
theorem Sz (m : M86 h j) : vu h j := let ⟨l, o⟩ := m; ⟨_, _, l, o, .inr (.inr (.inr (.inr rfl)))⟩
theorem Idle.more (I : Idle h0 h G W t ns c k) {c' : Nat} (hc : c ≤ c') : Idle h0 h G W t ns c' k :=
 { I with n := fun i hi => (I.n i hi).xY (.refl (fun _ => False) h) (fun _ g => g.elim) (fun g => g) (fun g => g) hc }
theorem Idle.up (I : Idle h0 h G W t ns c k) (O : Old h h') (W' : Wf h') : Idle h0 h' G W t ns c k := by
 obtain ⟨net, nd, w1, w2, w3⟩ := I.w
 have F : cT (fun _ => False) h h' := .of O
 exact ⟨I.old.trans O, W', I.g.old O, ⟨net, nd, Ob.old w1 O, w2.xY F fun _ g => g.elim, w3.up O⟩, I.t.old O, fun i hi => (I.n i hi).xY F (fun _ g => g.elim) (fun g => g) (fun g => g) (Nat.le_refl _), I.nd, I.nW, I.nt, I.nn, I.len⟩
theorem Idle.node (I : Idle h0 h G W t ns c k) {i : Nat} (hi : i < ns.length) (F : cT (fun j => j = ns[i].N ∨ j = ns[i].D ∨ j = t) h h') (W' : Wf h') (ot : Ob h' t 47 true .plain tL) {s' : NS} {c' : Nat} (hc : c ≤ c') (w : jS h' W i c' ⟨ns[i].N, ns[i].D, s'⟩) :
  Idle h0 h' G W t (ns.set i ⟨ns[i].N, ns[i].D, s'⟩) c' k := by
 obtain ⟨net, nd, w1, w2, w3⟩ := I.w
 obtain ⟨lN, oN⟩ := (I.n i hi).MA
 obtain ⟨lD, oD⟩ := (I.n i hi).My
 have m : ∀ j, (j = ns[i].N ∨ j = ns[i].D ∨ j = t) → vu h j := fun j g => by
  rcases g with rfl | rfl | rfl
  ·exact I.PT hi
  ·exact I.Tw hi
  ·exact I.Sj
 have hW : ¬ (W = ns[i].N ∨ W = ns[i].D ∨ W = t) := fun g => by
  rcases g with g | g | g
  ·exact Ob.apart w1 oN (.inl (by decide)) g
  ·exact Ob.apart w1 oD (.inl (by decide)) g
  ·exact Ob.apart w1 I.t (.inl (by decide)) g
 have eN : ∀ j (hj : j < ns.length), (ns.set i ⟨ns[i].N, ns[i].D, s'⟩)[j]'(by simpa using hj) = if i = j then ⟨ns[i].N, ns[i].D, s'⟩ else ns[j] := fun j hj => by rw [List.getElem_set]
 have mapN : (ns.set i ⟨ns[i].N, ns[i].D, s'⟩).map NR.N = ns.map NR.N := by
  refine List.ext_getElem (by simp) fun j h1 h2 => ?_
  rw [List.getElem_map, List.getElem_map, List.getElem_set]
  split
  ·rename_i e; subst e; rfl
  ·rfl
 refine ⟨F.old I.old fun j g => ?_, W', F.ob I.g fun g => ?_, ⟨net, nd, F.ob w1 hW, ?_, ?_⟩, ot, fun j hj => ?_, fun j1 j2 hj1 hj2 hne => ?_, I.nW, I.nt, fun j hj => ?_, by simpa using I.len⟩
 ·rcases g with rfl | rfl | rfl
  ·exact (I.nn i hi).1
  ·exact (I.nn i hi).2
  ·exact I.nt
 ·rcases g with g | g | g
  ·exact I.g.apart oN (.inl (by decide)) g
  ·exact I.g.apart oD (.inl (by decide)) g
  ·exact I.g.apart I.t (.inl (by decide)) g
 ·rw [mapN]
  exact w2.xY F m
 ·rw [List.length_set]
  exact w3.oM F fun j g => by
   rcases g with rfl | rfl | rfl
   ·exact ⟨_, _, oN⟩
   ·exact ⟨_, _, oD⟩
   ·exact ⟨_, _, I.t⟩
 ·have hj' : j < ns.length := by simpa using hj
  rw [eN j hj']
  by_cases e : i = j
  ·subst e
   rw [if_pos rfl]; exact w
  ·rw [if_neg e]
   obtain ⟨l1, o1⟩ := (I.n j hj').MA
   obtain ⟨l2, o2⟩ := (I.n j hj').My
   refine (I.n j hj').xY F m (fun g => ?_) (fun g => ?_) hc
   ·rcases g with g | g | g
    ·exact (I.nd j i hj' hi (fun g => e g.symm)).1 g
    ·exact o1.apart oD (.inl (by decide)) g
    ·exact o1.apart I.t (.inl (by decide)) g
   ·rcases g with g | g | g
    ·exact o2.apart oN (.inl (by decide)) g
    ·exact (I.nd j i hj' hi (fun g => e g.symm)).2 g
    ·exact o2.apart I.t (.inl (by decide)) g
 ·have h1 : j1 < ns.length := by simpa using hj1
  have h2 : j2 < ns.length := by simpa using hj2
  rw [eN j1 h1, eN j2 h2]
  have := I.nd j1 j2 h1 h2 hne
  by_cases e1 : i = j1
  ·subst e1
   rw [if_pos rfl, if_neg hne]; exact this
  ·rw [if_neg e1]
   by_cases e2 : i = j2
   ·subst e2
    rw [if_pos rfl]; exact this
   ·rw [if_neg e2]; exact this
 ·have hj' : j < ns.length := by simpa using hj
  rw [eN j hj']
  by_cases e : i = j
  ·subst e
   rw [if_pos rfl]; exact I.nn i hi
  ·rw [if_neg e]; exact I.nn j hj'
theorem Idle.DN (I : Idle h0 h G W t ns c k) {k' : Nat} (F : cT (fun j => j = W ∨ M86 h j) h h') (W' : Wf h') (O : Old h0 h') (w : ∀ net nd, bW h W t net nd → en h nd (ns.map NR.N) → ∃ net', bW h' W t net' nd ∧ fV h0 h' ns.length net' k') : Idle h0 h' G W t ns c k' := by
 obtain ⟨net, nd, w1, w2, w3⟩ := I.w
 obtain ⟨net', w4, w5⟩ := w net nd w1 w2
 have m : ∀ j, (j = W ∨ M86 h j) → vu h j := fun j g => by
  rcases g with rfl | g
  ·exact I.Tx
  ·exact Sz g
 have no : ∀ {j el : _} {l : List AV}, Ob h j el true .plain l → el ≠ 67 → ¬ (j = W ∨ M86 h j) := fun o hel g => by
  rcases g with g | g
  ·exact o.apart w1 (.inl hel) g
  ·exact uM o g
 refine ⟨O, W', F.ob I.g (no I.g (by decide)), ⟨net', nd, w4, w2.xY F m, w5⟩, F.ob I.t (no I.t (by decide)), fun i hi => ?_, I.nd, I.nW, I.nt, I.nn, I.len⟩
 obtain ⟨l1, o1⟩ := (I.n i hi).MA
 obtain ⟨l2, o2⟩ := (I.n i hi).My
 exact (I.n i hi).xY F m (no o1 (by decide)) (no o2 (by decide)) (Nat.le_refl _)
structure rT (p : Pg) : Prop where
 m : MZ p
 e24 : ar 24 p.fs = f24
 e33 : ar 33 p.fs = f33
 e35 : ar 35 p.fs = f35
 e36 : ar 36 p.fs = f36
 e65 : ar 65 p.fs = f65
 e68 : ar 68 p.fs = f68
 e69 : ar 69 p.fs = f69
 e70 : ar 70 p.fs = f70
 e108 : ar 108 p.fs = f108
theorem Na (T : rT p) (Wf0 : Wf h) {z : AV} (c : Cs h N 0 L) (h10 : L[10]? = some i0) (h13 : L[13]? = some i0) : ∃ h', Cv p 65 [.ptr N 0, z, i0] h aH h' ∧ Old h h' ∧ Wf h' := by
 obtain ⟨bx, h1, f1, f2, f3, f4, f5, _⟩ := JS (el := 68) (v := .ptr N 0) Wf0 rfl rfl
 have c1 := c.old f4
 have ck := AH T.m.u.w.r.e94 c1 h10 h13 0
 obtain ⟨pp, h2, g1, g2, g3, g4, g5, _⟩ := my (el := 114) (n := 1) f5 (c := .k1 (Y1 .al)) trivial (by decide)
 obtain ⟨h3, d1, d2, d3, d4⟩ := ff (k := 0) (v := .al) g3 (by rw [bO]; omega) rfl
 have d2 : Ob h3 pp 114 true .plain [.al] := d2
 have O : Old h h3 := fun j hj => by
  have e := (f4.trans g4) j hj
  rw [d3 j (fun e' => by rw [e'] at hj; exact hj (f4.none g2)), e]
 refine ⟨h3, .cS (r' := T27) (h1 := h3) T.e65 (by simp) (.to (r' := T63 z (.ptr bx 0) (.ptr pp 0)) (h' := h3) (ck.mono fun m u K => ?_) (.aU fun c' i K => ?_)) rfl, O, dZ g5 g3 d3 d4⟩
 ·simp only [k65_0, K3, ml, mq, mr]
  have y : ∀ K : AV → Hp → RS, Seat.Y i0 i0 h1 K = K (.bool false) h1 := fun K => kW (n := 0) (Int.le_refl 0)
  (rw [fU f1, aC (rf (Ob.c0 f3) rfl), aA, av, av, Nat.add_zero, aC (az c1 13 h13), y, aY, aC (rf (Ob.c0 f3) rfl), aD (show aw p (exec p m) 94 [.ptr N 0, i0] h1 = .ok .al h1 from u), rJ g1, cw d1]; try rfl)
 ·simp only [k65_1, K3, t63_1, t63_3, t63_6]
  (rw [aC (rf (Ob.c0 d2) rfl), cU (show Am.len .al h3 = .ok i0 h3 from rfl), aM (show fj i0 i0 h3 = .ok (.bool false) h3 from rfl), aY]; try rfl)
theorem Fu (T : rT p) (Wf0 : Wf h) {f g : Nat} {bd : AV} (o : Ob h N 81 true .plain L) (h10 : L[10]? = some i0) (h13 : L[13]? = some i0) (sb : SB h bd eG) : ∃ h', Cv p 33 [.ptr N 0, .agg [i64 f, i64 g, bd]] h aH h' ∧ Old h h' ∧ Wf h' := by
 obtain ⟨mj, h1, f1, f2, f3, f4, f5, _⟩ := gg (el := 86) (l := [i64 f, i64 g, bd]) Wf0 (by simp)
 have cm := Ob.c0 f3
 obtain ⟨r, h2, c49, w2, nr, O2⟩ := rh T.m.u.w.r.f.d f5 (sb.up f4).rd (by rw [wK]; omega)
 obtain ⟨h3, c54, w3, F3⟩ := uY T.m.u.w.r.f.d w2
 have gb : pY (some eG) = (7, some (dM 0)) := by
  unfold eG
  rw [show u64 7 = 7 from rfl, uW _ (by omega)]
 rw [gb] at c54 w3
 obtain ⟨jb, h4, a1, a2, a3, a4, a5, _⟩ := my (el := 108) (n := 2) w3.wf (c := .k1 (Y2 i0 i0)) trivial (by decide)
 have w4 := w3.up a4 a5
 obtain ⟨h5, c61, w5, F5⟩ := mB T.m.u.w.r.f.d w4
 have gl : dF (some (dM 0)) = (0, some []) := by
  have := iT (n := 0) [] (by omega) (by omega)
  rwa [List.append_nil] at this
 rw [gl] at c61 w5
 have O12 : Old h1 h2 := O2
 have O14 : Old h1 h4 := (Fr.old F3 O12 nr).trans a4
 have O15 : Old h1 h5 := Fr.old F5 O14 nr
 have O05 := f4.trans O15
 obtain ⟨h6, c65, O6, W6⟩ := Na (z := i64 f) T w5.wf (Ob.c0 (o.old O05)) h10 h13
 have q6 : ∀ (h : Hp) (K : AV → Hp → RS), Seat.Q (i64 ((7 : Nat) : Int)) (pi 6) h K = K (.bool false) h := fun h K => by
  show Seat.Q (i64 ((7 : Nat) : Int)) (i64 6) h K = _
  rw [gU, decide_eq_false (by omega)]
 have q7 : ∀ (h : Hp) (K : AV → Hp → RS), Seat.Q (i64 ((7 : Nat) : Int)) (pi 7) h K = K (.bool true) h := fun h K => by
  show Seat.Q (i64 ((7 : Nat) : Int)) (i64 7) h K = _
  rw [gU, decide_eq_true (by omega)]
 have cm4 := cm.old O14
 have cm5 := cm.old O15
 obtain ⟨r', rn⟩ : ∃ r', Rn p (.eH [.mk (.rd 0) (.o d85 (.op (.mv r4))), .mk .dL (.o d86 (.call 61 [r85])), .mk (.rd 1) (.o d82 (.op (.mv r0))), .mk (.rd 1) (.o d83 (.op (.ig 0 r3))), .mk (.rd 1) (.o d84 (.op (.eU r83))), .mk .dL (.o d87 (.call 65 [r82, r84, r86]))]) (T36 (.ptr N 0) (.ptr mj 0) (.ptr r 0)) h4 (.nm r' h6) :=
  ⟨_, .eH (.ro (.ptr r 0) rfl <| .call (v := i64 0) (h' := h5) c61 <| .gB (v := .ptr N 0) (g' := h5) (h1' := h4) rfl rfl (bm _ _) <| .gB (v := .ptr mj (0 + 0)) (g' := h5) (h1' := h4) rfl rfl (bm _ _) <|
   .gB (v := i64 f) (g' := h5) (h1' := h4) (az cm5 0 rfl) (az cm4 0 rfl) (dj _ _) <| .call (v := aH) (h' := h6) c65 <| .nil)⟩
 refine ⟨h6, .of (r' := r') (h1 := h6) T.e33 (by simp) (.eh (r' := T15 (.ptr N 0) (.ptr mj 0)) (h' := h1) (fun c i K => ?_) (.scope (.xF (i := 1) (r' := T36 (.ptr N 0) (.ptr mj 0) (.ptr r 0)) (h' := h4) (.ag ((c49.and c54).mono fun m u => ?_)) rfl (.sA (.seq .skip (.seq rn (.jh .ret))))))) rfl, O05.trans O6, W6⟩
 ·simp only [k33_0, K2, bE, bF]
  (rw [fU f1]; try rfl)
 ·obtain ⟨u1, u2⟩ := u
  simp only [k33_1, K2, wE, wF]
  (rw [av, aC (az cm 2 rfl), aD u1, aD u2, rJ a1, q6, aY, q7, dY]; try rfl)
theorem Qv (g : Int) {m : Nat} (hm : m ≤ 7) : ∃ z, bK .shl (i64 g) (i64 m) h = .ok (i64 z) h := by
 match m, hm with
 | 0, _ => exact ⟨_, rfl⟩
 | 1, _ => exact ⟨_, rfl⟩
 | 2, _ => exact ⟨_, rfl⟩
 | 3, _ => exact ⟨_, rfl⟩
 | 4, _ => exact ⟨_, rfl⟩
 | 5, _ => exact ⟨_, rfl⟩
 | 6, _ => exact ⟨_, rfl⟩
 | 7, _ => exact ⟨_, rfl⟩
theorem Nb (T : rT p) {m tr : Int} (c : Cs h N 0 L) (h1 : L[1]? = some (i64 m)) (h22 : L[22]? = some (i64 tr)) (ht : 0 ≤ tr) : ∃ z, Cv p 68 [.ptr N 0] h (i64 z) h := by
 obtain ⟨k, hk, hk7⟩ : ∃ k : Nat, min tr 7 = k ∧ k ≤ 7 := ⟨(min tr 7).toNat, by omega, by omega⟩
 have mu : vz (pi 150) (i64 m) h = .ok (i64 (IntKind.i64.wrap (150 * m))) h := Qc .i64 150 m
 have ad : fX (pi 300) (i64 (IntKind.i64.wrap (150 * m))) h = .ok (i64 (IntKind.i64.wrap (300 + IntKind.i64.wrap (150 * m)))) h := ye .i64 300 _
 obtain ⟨z, hz⟩ := Qv (h := h) (IntKind.i64.wrap (300 + IntKind.i64.wrap (150 * m))) hk7
 have mn : fW true [i64 tr, pi 7] h = .ok (i64 k) h := by
  show fW true [i64 tr, i64 7] h = _
  rw [Cq, hk]
 refine ⟨z, .of (r' := T29 (i64 z)) (h1 := h) T.e68 (by simp) (.aU fun c' i K => ?_) rfl⟩
 simp only [k68_0, K1, dh]
 (rw [ai (dB N 0), ai (bG N 0 1), ai (az c 1 h1), ai mu, ai ad, ai (dB N 0), ai (bG N 0 22), ai (az c 22 h22), ai mn, ai hz]; try rfl)
theorem Ku (T : rT p) (Wf0 : Wf h) (O : Old h0 h) {pb : P4} {me' : Nat} (cN : Cs h N 0 L) (l0 : L[0]? = some (.ptr W 0)) (l1 : L[1]? = some (i64 me')) (cp : Cs h pb 0 [i0]) (cW : bW h W t net nd) (nW : ah W h0 = .none) (w : fV h0 h n net k) (hm : me' < n) {to : Nat} (hto : to < n) :
  ∃ net' k' h', Cv p 108 [.ptr N 0, i64 to, pi 7, .fn 70 [.ptr pb 0]] h aH h' ∧ bW h' W t net' nd ∧ fV h0 h' n net' k' ∧ cT (fun j => j = W ∨ M86 h j) h h' ∧ Old h0 h' ∧ Wf h' := by
 obtain ⟨q, h1, c1, w1, O1⟩ := qZ T.m.u.w.r.f.w Wf0
 obtain ⟨h2, c2, w2⟩ := DU T.m.u.w.r.f.w w1 (n := 7) (by simp)
 have cp2 := cp.old w2.old
 obtain ⟨h3, c3, w3⟩ := pZ T.m.u.w.r.f.w w2 (n := 0) (by simp [dr])
 have c70 : Cv p 70 [.ptr q 0, .ptr pb 0] h2 aH h3 := .cS (r' := T27) (h1 := h3) T.e70 (by simp) (.ag (c3.mono fun m u => by
  simp only [k70_0, K2, bE, bF]
  (rw [aC (rf cp2 rfl), aD (show aw p (exec p m) 71 [.ptr q 0, i0] h2 = .ok aH h3 from u)]; try rfl))) rfl
 obtain ⟨bd, h4, c4, o4, O4, W4⟩ := yh T.m.u.w.r.f.w T.m.u.w.r.f.d.e58 w3 (by simp [dr, bQ])
 have o4 : dK h4 bd 5 1 (bc eG) (fun j => ah j h = .none) := by
  have e : ([] ++ le 1 (u64 7) ++ dM 0 : Bs) = eG := by rw [List.nil_append]; rfl
  rw [e] at o4; exact o4
 have cW4 : bW h4 W t net nd := Ob.old cW O4
 obtain ⟨net', k', h5, c5, e1, e2, F5, O5, W5⟩ := DP T.m W4 (O.trans O4) cW4 nW (w.up O4) hm hto (dK.sb o4 (gw wK (by omega)))
 have cN3 := cN.old w3.old
 have cN4 := cN.old O4
 obtain ⟨r', rn⟩ : ∃ r', Rn p (bh x108) (T69 (.ptr N 0) (i64 to) (.ptr q 0)) h3 (.nm r' h5) :=
  ⟨_, .eH (.ro (.ptr q 0) rfl <| .call (v := bd) (h' := h4) c4 <| .gB (v := .ptr N 0) (g' := h4) (h1' := h3) rfl rfl (bm _ _) <| .gB (v := .ptr N 0) (g' := h4) (h1' := h3) rfl rfl (bm _ _) <| .gB (v := .ptr N (0 + 0)) (g' := h4) (h1' := h3) rfl rfl (bm _ _) <| .gB (v := .ptr W 0) (g' := h4) (h1' := h3) (az cN4 0 l0) (az cN3 0 l0) (bm _ _) <|
   .gB (v := .ptr N 0) (g' := h4) (h1' := h3) rfl rfl (bm _ _) <| .gB (v := .ptr N 0) (g' := h4) (h1' := h3) rfl rfl (bm _ _) <| .gB (v := .ptr N (0 + 1)) (g' := h4) (h1' := h3) rfl rfl (bm _ _) <| .gB (v := i64 me') (g' := h4) (h1' := h3) (az cN4 1 l1) (az cN3 1 l1) (dj _ _) <| .gB (v := i64 to) (g' := h4) (h1' := h3) rfl rfl (dj _ _) <|
   .call (v := aH) (h' := h5) c5 <| .nil)⟩
 have r0 : y0 (aR [.ptr N 0, i64 to, pi 7, .fn 70 [.ptr pb 0]] 0 .nil) = .ptr N 0 := rfl
 have r1 : y1 (aR [.ptr N 0, i64 to, pi 7, .fn 70 [.ptr pb 0]] 0 .nil) = i64 to := rfl
 have r2 : y2 (aR [.ptr N 0, i64 to, pi 7, .fn 70 [.ptr pb 0]] 0 .nil) = pi 7 := rfl
 have r3 : y3 (aR [.ptr N 0, i64 to, pi 7, .fn 70 [.ptr pb 0]] 0 .nil) = .fn 70 [.ptr pb 0] := rfl
 refine ⟨net', k', h5, .cS (r' := r') (h1 := h5) T.e108 (by simp) (.to (r' := T69 (.ptr N 0) (i64 to) (.ptr q 0)) (h' := h3) ((c1.and (c2.and c70)).mono fun m u K => ?_) rn) rfl, e1, e2, F5.less O4 fun j g => ?_, O5, W5⟩
 ·obtain ⟨u1, u2, u3⟩ := u
  simp only [k108_0, K4, r0, r1, r2, r3]
  (rw [aD u1, aD (show aw p (exec p m) 138 [.ptr q 0, pi 7] h1 = .ok aH h2 from u2), NW (show cd (aw p (exec p m)) (.fn 70 [.ptr pb 0]) [.ptr q 0] h2 = .ok aH h3 from u3)]; try rfl)
 ·rcases g with rfl | ⟨L', o'⟩
  ·exact .inl (.inl rfl)
  ·by_cases hj : ah j h = .none
   ·exact .inr hj
   ·exact .inl (.inr ⟨L', o'.eq (O4 j hj).symm⟩)
theorem SA {h h1 h2 : Hp} (a : cT (fun j => B j ∨ M86 h j) h h1) (b : cT (fun j => B j ∨ M86 h1 j) h1 h2) : cT (fun j => B j ∨ M86 h j) h h2 := fun j hj hn => by
 have e := a j hj hn
 rw [b j (fun g => g.elim (fun g => hj (.inl g)) fun ⟨L, o⟩ => hj (.inr ⟨L, o.eq e.symm⟩)) (by rw [e]; exact hn), e]
theorem Qw (T : rT p) (Wf0 : Wf h) (O : Old h0 h) {pb : P4} {ps : List P4} {me' : Nat} (oN : Ob h N 81 true .plain L) (l0 : L[0]? = some (.ptr W 0)) (l1 : L[1]? = some (i64 me')) (op : Ob h pb 3 true .plain [i0]) (cW : bW h W t net nd) (wn : en h nd ps) (nW : ah W h0 = .none) (w : fV h0 h ps.length net k) (hm : me' < ps.length) (hl : ps.length ≤ 5) :
  ∃ net' k' h', Cv p 69 [.ptr N 0, pi 7, .fn 70 [.ptr pb 0]] h aH h' ∧ bW h' W t net' nd ∧ fV h0 h' ps.length net' k' ∧ cT (fun j => j = W ∨ M86 h j) h h' ∧ Old h0 h' ∧ Wf h' := by
 have cz := DW T.m.u (Ob.c0 cW) wn
 have key := gz (p := p) (body := .ag zO .skip) (r := T64 (.ptr N 0) (pi 7) (.fn 70 [.ptr pb 0]) (i64 ps.length) (i64 (0 : Nat))) (h := h) ps.length
  (Inv := fun i r h' => r = T64 (.ptr N 0) (pi 7) (.fn 70 [.ptr pb 0]) (i64 ps.length) (i64 i) ∧ (∃ net' k', bW h' W t net' nd ∧ fV h0 h' ps.length net' k') ∧ Ob h' N 81 true .plain L ∧ Ob h' pb 3 true .plain [i0] ∧ cT (fun j => j = W ∨ M86 h j) h h' ∧ Old h0 h' ∧ Wf h') (l := 0) (Re := T64 (.ptr N 0) (pi 7) (.fn 70 [.ptr pb 0]) (i64 ps.length) (i64 (ps.length : Nat))) (fun i r h' hi I => by
   obtain ⟨rfl, ⟨net', k', cW', w'⟩, oN', op', F', O', W'⟩ := I
   by_cases hme : i = me'
   ·refine ⟨_, h', .aU fun c' i' K => ?_, rfl, ⟨net', k', cW', w'⟩, oN', op', F', O', W'⟩
    simp only [zO, K5, t64_0, t64_1, t64_2, t64_11, t64_12]
    have ne : gF (i64 i) (i64 me') h' = .ok (.bool false) h' := by
     show gF (.int .i64 _) (.int .i64 _) h' = _
     rw [Az, hme, decide_eq_true rfl]; rfl
    (rw [di, gT, if_pos (by omega), aA, av, aC (az (Ob.c0 oN') 1 l1), aM ne, aY, eF hi (by omega)]; try rfl)
   ·obtain ⟨net2, k2, h2, c2, cW2, w2, F2, O2, W2⟩ := Ku T W' O' (Ob.c0 oN') l0 l1 (Ob.c0 op') cW' nW w' hm hi
    have nN : ¬ (N = W ∨ M86 h' N) := fun g => by
     rcases g with g | g
     ·exact oN'.apart cW' (.inl (by decide)) g
     ·exact uM oN' g
    have np : ¬ (pb = W ∨ M86 h' pb) := fun g => by
     rcases g with g | g
     ·exact op'.apart cW' (.inl (by decide)) g
     ·exact uM op' g
    refine ⟨_, h2, .ag (c2.mono fun m u => ?_), rfl, ⟨net2, k2, cW2, w2⟩, F2.ob oN' nN, F2.ob op' np, SA (B := fun j => j = W) F' F2, O2, W2⟩
    simp only [zO, K5, t64_0, t64_1, t64_2, t64_11, t64_12]
    have ne : gF (i64 i) (i64 me') h' = .ok (.bool true) h' := by
     show gF (.int .i64 _) (.int .i64 _) h' = _
     rw [Az, decide_eq_false (by omega)]; rfl
    (rw [di, gT, if_pos (by omega), aA, av, aC (az (Ob.c0 oN') 1 l1), aM ne, dY, aD u, eF hi (by omega)]; try rfl)) (fun r h' I => by
   obtain ⟨rfl, _⟩ := I
   refine .aU fun c' i' K => ?_
   simp only [zO, K5, t64_0, t64_1, t64_2, t64_11, t64_12]
   (rw [di, gT, if_neg (by omega)]; try rfl)) ⟨rfl, ⟨net, k, cW, w⟩, oN, op, .refl _ _, O, Wf0⟩
 obtain ⟨r2, h2, ⟨_, ⟨net2, k2, cW2, w2⟩, _, _, F2, O2, W2⟩, kl⟩ := key
 refine ⟨net2, k2, h2, .cS (r' := T64 (.ptr N 0) (pi 7) (.fn 70 [.ptr pb 0]) (i64 ps.length) (i64 (ps.length : Nat))) (h1 := h2) T.e69 (by simp) (.to (r' := T64 (.ptr N 0) (pi 7) (.fn 70 [.ptr pb 0]) (i64 ps.length) (i64 (0 : Nat))) (h' := h) (cz.mono fun m u K => ?_) (.bJ kl)) rfl, cW2, w2, F2, O2, W2⟩
 simp only [k69_0, K3, ml, mq, mr]
 (rw [aA, av, aC (az (Ob.c0 oN) 0 l0), aD u]; try rfl)
end
open Go.Cod
set_option maxRecDepth 20000
noncomputable section
variable {p : Pg} {h h0 h' h1 h2 h3 : Hp} {q j r W t G : P4} {s : Bs} {x y v a b d e net nd : AV} {L l : List AV} {A B : P4 → Prop} {n k c me : Nat} {ns : List NR}
theorem Idle.Ak (I : Idle h0 h G W t ns c k) {nd : AV} (w : en h nd (ns.map NR.N)) : Am.len nd h = .ok (i64 ns.length) h := by
 have := w.len
 rwa [List.length_map] at this
theorem en.node {nd : AV} (w : en h nd (ns.map NR.N)) {i : Nat} (hi : i < ns.length) : ∃ a, iX 1 nd (i64 i) h = .ok a h ∧ lD a h = .ok (.ptr ns[i].N 0) h := by
 obtain ⟨a, e1, e2⟩ := w.at (i := i) (by simpa using hi)
 exact ⟨a, e1, by rw [e2, List.getElem_map]⟩
theorem Kv (T : rT p) (I : Idle h0 h G W t ns c k) (m : Int) : Cv p 35 [.ptr W 0, i64 m] h (.bool (decide (0 ≤ m) && decide (m < ns.length))) h := by
 obtain ⟨net, nd, w1, w2, w3⟩ := I.w
 have cW := Ob.c0 w1
 have ge : bK .ge (i64 m) i0 h = .ok (.bool (decide (0 ≤ m))) h := Ag .i64 m 0
 have lt : bK .lt (i64 m) (i64 ns.length) h = .ok (.bool (decide (m < ns.length))) h := uR _ _ _
 obtain ⟨r', rn, e4⟩ : ∃ r', Os p (opsL (fst (bh x35))) (T11 (.ptr W 0) (i64 m)) h (.nm r' h) ∧ y4 r' = .bool (decide (0 ≤ m) && decide (m < ns.length)) := by
  cases hm : decide (0 ≤ m) with
  | true =>
   rw [hm] at ge
   exact ⟨_, .so (i64 m) rfl <| .step (v := .bool true) (h' := h) ge <| .so (.bool true) rfl <| .on rfl <| .so (i64 m) rfl <| .on rfl <| .so (.ptr W 0) rfl <| .on rfl <| .so (.ptr W 0) rfl <| .on rfl <| .so (.ptr W (0 + 1)) rfl <|
    .on rfl <| .step (v := nd) (h' := h) (az cW 1 rfl) <| .on rfl <| .step (v := i64 ns.length) (h' := h) (I.Ak w2) <| .on rfl <| .step (v := .bool (decide (m < ns.length))) (h' := h) lt <| .so (.bool (decide (m < ns.length))) rfl <| .so (.bool (decide (m < ns.length))) rfl <| .nil, rfl⟩
  | false =>
   rw [hm] at ge
   exact ⟨_, .so (i64 m) rfl <| .step (v := .bool false) (h' := h) ge <| .so (.bool false) rfl <| .off rfl <| .off rfl <| .off rfl <| .off rfl <| .off rfl <| .off rfl <| .off rfl <| .so (.bool false) rfl <| .so (.bool false) rfl <| .nil, rfl⟩
 refine .of (r' := r') (h1 := h) T.e35 (by simp) (.eh (r' := T11 (.ptr W 0) (i64 m)) (h' := h) (fun c i K => ?_) (.seq (.ops rn) .ret)) ?_
 ·simp only [k35_0, K2, bE, bF]
 ·show RV.ok (y4 r') h = _
  rw [e4]
theorem Cp (T : rT p) (I : Idle h0 h G W t ns c k) {i : Nat} (hi : i < ns.length) : Cv p 35 [.ptr W 0, i64 i] h (.bool true) h := by
 have := Kv T I (i : Int)
 rwa [decide_eq_true (by omega), decide_eq_true (by omega)] at this
theorem xX (T : rT p) (I : Idle h0 h G W t ns c k) {m : Int} (hm : ¬ ∃ i : Nat, m = i ∧ i < ns.length) : Cv p 35 [.ptr W 0, i64 m] h (.bool false) h := by
 have := Kv T I m
 by_cases h0 : 0 ≤ m
 ·rw [decide_eq_true h0, decide_eq_false (fun g => hm ⟨m.toNat, by omega, by omega⟩)] at this
  exact this
 ·rw [decide_eq_false h0] at this
  exact this
theorem Ah (T : rT p) (I : Idle h0 h G W t ns c k) {i : Nat} (hi : i < ns.length) : Cv p 24 [.ptr W 0, i64 i] h (.bool ns[i].s.up) h := by
 obtain ⟨net, nd, w1, w2, w3⟩ := I.w
 have cW := Ob.c0 w1
 obtain ⟨acc, prop, cho, met, km, o, _⟩ := (I.n i hi).ob
 have cN := Ob.c0 o
 obtain ⟨aa, x1, x2⟩ := w2.node hi
 have ch := Cp T I hi
 obtain ⟨r', rn, e4⟩ : ∃ r', Os p (opsL (fst (bh x24))) (T11 (.ptr W 0) (i64 i)) h (.nm r' h) ∧ y4 r' = .bool ns[i].s.up :=
  ⟨_, .so (.ptr W 0) rfl <| .so (i64 i) rfl <| .call (v := .bool true) (h' := h) ch <| .so (.bool true) rfl <| .on rfl <| .so (.ptr W 0) rfl <| .on rfl <| .so (.ptr W 0) rfl <| .on rfl <| .so (.ptr W (0 + 1)) rfl <|
   .on rfl <| .step (v := nd) (h' := h) (az cW 1 rfl) <| .on rfl <| .so (i64 i) rfl <| .on rfl <| .step (v := aa) (h' := h) x1 <| .on rfl <| .step (v := .ptr ns[i].N 0) (h' := h) x2 <| .on rfl <| .so (.ptr ns[i].N 0) rfl <| .on rfl <| .so (.ptr ns[i].N (0 + 4)) rfl <|
   .on rfl <| .step (v := .bool ns[i].s.up) (h' := h) (az cN 4 rfl) <| .so (.bool ns[i].s.up) rfl <| .so (.bool ns[i].s.up) rfl <| .nil, rfl⟩
 refine .of (r' := r') (h1 := h) T.e24 (by simp) (.eh (r' := T11 (.ptr W 0) (i64 i)) (h' := h) (fun c i K => ?_) (.seq (.ops rn) .ret)) ?_
 ·simp only [k24_0, K2, bE, bF]
 ·show RV.ok (y4 r') h = _
  rw [e4]
theorem xZ (T : rT p) (I : Idle h0 h G W t ns c k) {m : Int} (hm : ¬ ∃ i : Nat, m = i ∧ i < ns.length) : Cv p 24 [.ptr W 0, i64 m] h (.bool false) h := by
 have ch := xX T I hm
 obtain ⟨r', rn, e4⟩ : ∃ r', Os p (opsL (fst (bh x24))) (T11 (.ptr W 0) (i64 m)) h (.nm r' h) ∧ y4 r' = .bool false :=
  ⟨_, .so (.ptr W 0) rfl <| .so (i64 m) rfl <| .call (v := .bool false) (h' := h) ch <| .so (.bool false) rfl <| .off rfl <| .off rfl <| .off rfl <| .off rfl <| .off rfl <| .off rfl <| .off rfl <| .off rfl <| .off rfl <| .off rfl <| .so (.bool false) rfl <| .so (.bool false) rfl <| .nil, rfl⟩
 refine .of (r' := r') (h1 := h) T.e24 (by simp) (.eh (r' := T11 (.ptr W 0) (i64 m)) (h' := h) (fun c i K => ?_) (.seq (.ops rn) .ret)) ?_
 ·simp only [k24_0, K2, bE, bF]
 ·show RV.ok (y4 r') h = _
  rw [e4]
theorem jS.re {i : Nat} (I : Idle h0 h G W t ns c k) (hi : i < ns.length) {acc prop cho met km : P4} (Id : AY h acc cho km) (F : cT (fun j => j = ns[i].N) h h') {s' : NS} (o : Ob h' ns[i].N 81 true .plain (nQ W ns[i].D acc prop cho met i s')) (hl : s'.bT = ns[i].s.bT) {c' : Nat} (hc : c ≤ c') (ht : 0 ≤ s'.tries ∧ s'.tries ≤ c') : jS h' W i c' ⟨ns[i].N, ns[i].D, s'⟩ := by
 have w := I.n i hi
 have m : ∀ j, j = ns[i].N → vu h j := fun j g => g ▸ I.PT hi
 obtain ⟨lN, oN⟩ := w.MA
 refine ⟨⟨acc, prop, cho, met, km, o, Id.xY F m⟩, ?_, ⟨by rw [hl]; exact w.bT.1, by rw [hl]; have := w.bT.2; omega⟩, ht⟩
 show fT h' ns[i].D (qV s'.bT)
 rw [hl]
 obtain ⟨b, oD, sb⟩ := w.Mx
 exact ⟨b, F.ob oD fun e => oD.apart oN (.inl (by decide)) e, sb.xY F m⟩
theorem Idle.Ty (I : Idle h0 h G W t ns c k) {i : Nat} (hi : i < ns.length) {acc prop cho met km : P4} (Id : AY h acc cho km) (F : cT (fun j => j = ns[i].N) h h') (W' : Wf h') {s' : NS} (o : Ob h' ns[i].N 81 true .plain (nQ W ns[i].D acc prop cho met i s')) (hl : s'.bT = ns[i].s.bT) {c' : Nat} (hc : c ≤ c') (ht : 0 ≤ s'.tries ∧ s'.tries ≤ c') :
  Idle h0 h' G W t (ns.set i ⟨ns[i].N, ns[i].D, s'⟩) c' k := by
 obtain ⟨lN, oN⟩ := (I.n i hi).MA
 exact I.node hi (F.mono fun j e => .inl e) W' (F.ob I.t fun e => I.t.apart oN (.inl (by decide)) e) hc (jS.re I hi Id F o hl hc ht)
theorem Mw (T : rT p) (I : Idle h0 h G W t ns c k) {i : Nat} (hi : i < ns.length) (by' : Int) (hc : c < 4611686018427387904) :
  ∃ s' k' h', Cv p 36 [.ptr ns[i].N 0, i64 by'] h aH h' ∧ Idle h0 h' G W t (ns.set i ⟨ns[i].N, ns[i].D, s'⟩) (c + 1) k' ∧ s'.up = ns[i].s.up := by
 obtain ⟨acc, prop, cho, met, km, o, Id⟩ := (I.n i hi).ob
 have hlife := (I.n i hi).bT
 have htr := (I.n i hi).tries
 generalize hN : ns[i].N = N at *
 generalize hD : ns[i].D = D at *
 generalize hs : ns[i].s = st at *
 obtain ⟨clock, up, size, bT, tries, last, behind⟩ := st
 simp only at hlife htr
 have gN : ∀ k, k = N → ∃ el l, Ob h k el true .plain l ∧ el ≠ 134 ∧ el ≠ 128 := fun k e => ⟨_, _, e ▸ o, by decide, by decide⟩
 obtain ⟨h1, a1, o1, F1, W1⟩ := vt I.wf o rfl 3 (by omega) (v := i64 (IntKind.i64.wrap (clock + by'))) rfl
 generalize hck : IntKind.i64.wrap (clock + by') = ck at *
 have o1 : Ob h1 N 81 true .plain (nQ W D acc prop cho met i ⟨ck, up, size, bT, tries, last, behind⟩) := o1
 have Id1 := Id.oM F1 gN
 have c1 := Ob.c0 o1
 have s0 : ∀ c' i' (K : A2 → Hp → RS), k36_0 c' i' K (aR [.ptr N 0, i64 by'] 0 .nil) h = K (T14 (.ptr N 0)) h1 := fun c' i' K => by
  simp only [k36_0, K2, bE, bF]
  (rw [aA, av, aC (az (Ob.c0 o) 3 rfl), hS, hck, aA, av, Nat.zero_add, cw a1]; try rfl)
 have clk := Ao T.m.u.w.r c1 Id1 rfl rfl rfl
 have I1 : ∀ {s' : NS} {h' : Hp}, Ob h' N 81 true .plain (nQ W D acc prop cho met i s') → cT (fun j => j = N) h h' → Wf h' → s'.bT = bT → 0 ≤ s'.tries ∧ s'.tries ≤ c + 1 → Idle h0 h' G W t (ns.set i ⟨N, D, s'⟩) (c + 1) k := fun {s' h'} o' F' W' hl ht => by
  have := I.Ty (s' := s') (h' := h') hi (acc := acc) (prop := prop) (cho := cho) (met := met) (km := km) Id (by rw [hN]; exact F') W' (by rw [hN, hD]; exact o') (by rw [hs]; exact hl) (Nat.le_succ c) ht
  rwa [hN, hD] at this
 cases up with
 | false =>
  refine ⟨_, k, h1, .of (r' := T27) (h1 := h1) T.e36 (by simp) (.eh s0 ?_) rfl, I1 o1 F1 W1 rfl ⟨htr.1, by have := htr.2; dsimp only; omega⟩, rfl⟩
  refine .seq (.ops (.so (.ptr N 0) rfl <| .so (.ptr N 0) rfl <| .so (.ptr N (0 + 4)) rfl <| .step (v := .bool false) (h' := h1) (az c1 4 rfl) <| .so (.bool false) rfl <|
    .off rfl <| .off rfl <| .off rfl <| .off rfl <| .off rfl <| .off rfl <| .off rfl <| .un rfl <| .un rfl <| .off rfl <| .so (.bool false) rfl <| .so (.bool false) rfl <| .nil)) ?_
  exact .jh (.seq (.eH (.ro (.ptr N 0) rfl <| .ro (.ptr N 0) rfl <| .ro (.ptr N (0 + 4)) rfl <| .rM (v := .bool false) (g' := h1) (az c1 4 rfl) <| .ro (.bool true) rfl <| .ro (.bool true) rfl <|
    .gX rfl <| .gX rfl <| .gX rfl <| .Sy rfl <| .Sy rfl <| .Sy rfl <| .Sy rfl <| .Sy rfl <| .gX rfl <| .ro (.bool true) rfl <| .ro (.bool true) rfl <|
    .gX rfl <| .So rfl <| .gX rfl <| .gX rfl <| .gX rfl <| .gX rfl <| .gX rfl <| .gX rfl <| .gX rfl <| .gX rfl <| .gX rfl <| .gX rfl <| .ro (.bool true) rfl <| .nil)) (.aU fun _ _ _ => rfl))
 | true =>
  have gt0 : bK .gt (i64 0) i0 h1 = .ok (.bool false) h1 := rfl
  cases behind with
  | false =>
   refine ⟨_, k, h1, .of (r' := T27) (h1 := h1) T.e36 (by simp) (.eh s0 ?_) rfl, I1 o1 F1 W1 rfl ⟨htr.1, by have := htr.2; dsimp only; omega⟩, rfl⟩
   refine .seq (.ops (.so (.ptr N 0) rfl <| .so (.ptr N 0) rfl <| .so (.ptr N (0 + 4)) rfl <| .step (v := .bool true) (h' := h1) (az c1 4 rfl) <| .so (.bool true) rfl <|
    .on rfl <| .so (.ptr N 0) rfl <| .on rfl <| .so (.ptr N 0) rfl <| .on rfl <| .so (.ptr N (0 + 17)) rfl <| .on rfl <| .step (v := .al) (h' := h1) (az c1 17 rfl) <| .on rfl <| .so (i64 0) rfl <| .on rfl <| .step (v := .bool false) (h' := h1) gt0 <| .on rfl <| .so (.bool false) rfl <|
    .on rfl <| .so (.ptr N 0) rfl <| .on rfl <| .call (v := .bool false) (h' := h1) clk <| .on rfl <| .so (.bool false) rfl <| .so (.bool false) rfl <| .so (.bool false) rfl <| .nil)) ?_
   exact .jh (.seq (.eH (.ro (.ptr N 0) rfl <| .ro (.ptr N 0) rfl <| .ro (.ptr N (0 + 4)) rfl <| .rM (v := .bool true) (g' := h1) (az c1 4 rfl) <| .ro (.bool false) rfl <| .ro (.bool false) rfl <|
    .on rfl <| .ro (.bool false) rfl <| .on rfl <| .ro (.bool true) rfl <| .on rfl <| .ro (.bool true) rfl <| .on rfl <| .ro (.ptr N 0) rfl <| .on rfl <| .ro (.ptr N 0) rfl <| .on rfl <| .ro (.ptr N (0 + 24)) rfl <| .on rfl <| .rM (v := .bool false) (g' := h1) (az c1 24 rfl) <| .on rfl <| .ro (.bool true) rfl <|
    .on rfl <| .ro (.bool true) rfl <| .ro (.bool true) rfl <| .ro (.bool true) rfl <|
    .gX rfl <| .So rfl <| .gX rfl <| .gX rfl <| .gX rfl <| .gX rfl <| .gX rfl <| .gX rfl <| .gX rfl <| .gX rfl <| .gX rfl <| .gX rfl <| .ro (.bool true) rfl <| .nil)) (.aU fun _ _ _ => rfl))
  | true =>
   obtain ⟨z, cz⟩ := Nb (m := (i : Int)) (tr := tries) T c1 rfl rfl htr.1
   have sub : bK .sub (i64 ck) (i64 last) h1 = .ok (i64 (IntKind.i64.wrap (ck - last))) h1 := qY _ _ _
   have lt : bK .lt (i64 (IntKind.i64.wrap (ck - last))) (i64 z) h1 = .ok (.bool (decide (IntKind.i64.wrap (ck - last) < z))) h1 := uR _ _ _
   have sN : ∀ o, same (.ptr N o) (.ptr N o) = true := fun o => bm N o
   have head : ∀ {bb : Bool} {st : RS}, decide (IntKind.i64.wrap (ck - last) < z) = bb → (bb = true → st = .ret T27 h1) → (bb = false → Rn p (bh (bh (bh x36))) (T33 (.ptr N 0) (.bool false)) h1 st) → Rn p (bh x36) (T14 (.ptr N 0)) h1 st := fun {bb st} hbb ht hf => by
    rw [hbb] at lt
    refine .seq (.ops (.so (.ptr N 0) rfl <| .so (.ptr N 0) rfl <| .so (.ptr N (0 + 4)) rfl <| .step (v := .bool true) (h' := h1) (az c1 4 rfl) <| .so (.bool true) rfl <|
     .on rfl <| .so (.ptr N 0) rfl <| .on rfl <| .so (.ptr N 0) rfl <| .on rfl <| .so (.ptr N (0 + 17)) rfl <| .on rfl <| .step (v := .al) (h' := h1) (az c1 17 rfl) <| .on rfl <| .so (i64 0) rfl <| .on rfl <| .step (v := .bool false) (h' := h1) gt0 <| .on rfl <| .so (.bool false) rfl <|
     .on rfl <| .so (.ptr N 0) rfl <| .on rfl <| .call (v := .bool false) (h' := h1) clk <| .on rfl <| .so (.bool false) rfl <| .so (.bool false) rfl <| .so (.bool false) rfl <| .nil)) ?_
    cases bb with
    | true =>
     rw [ht rfl]
     exact .jh (.seq (.eH (.ro (.ptr N 0) rfl <| .ro (.ptr N 0) rfl <| .ro (.ptr N (0 + 4)) rfl <| .rM (v := .bool true) (g' := h1) (az c1 4 rfl) <| .ro (.bool false) rfl <| .ro (.bool false) rfl <|
      .on rfl <| .ro (.bool false) rfl <| .on rfl <| .ro (.bool true) rfl <| .on rfl <| .ro (.bool true) rfl <| .on rfl <| .ro (.ptr N 0) rfl <| .on rfl <| .ro (.ptr N 0) rfl <| .on rfl <| .ro (.ptr N (0 + 24)) rfl <| .on rfl <| .rM (v := .bool true) (g' := h1) (az c1 24 rfl) <| .on rfl <| .ro (.bool false) rfl <|
      .on rfl <| .ro (.bool false) rfl <| .ro (.bool false) rfl <| .ro (.bool false) rfl <|
      .on rfl <| .ro (.ptr N 0) rfl <| .on rfl <| .call (v := i64 z) (h' := h1) cz <| .on rfl <| .gB (v := .ptr N 0) (g' := h1) (h1' := h1) rfl rfl (sN _) <| .on rfl <| .gB (v := .ptr N 0) (g' := h1) (h1' := h1) rfl rfl (sN _) <| .on rfl <| .gB (v := .ptr N (0 + 3)) (g' := h1) (h1' := h1) rfl rfl (sN _) <| .on rfl <| .gB (v := i64 ck) (g' := h1) (h1' := h1) (az c1 3 rfl) (az c1 3 rfl) (dj _ _) <|
      .on rfl <| .gB (v := .ptr N 0) (g' := h1) (h1' := h1) rfl rfl (sN _) <| .on rfl <| .gB (v := .ptr N 0) (g' := h1) (h1' := h1) rfl rfl (sN _) <| .on rfl <| .gB (v := .ptr N (0 + 23)) (g' := h1) (h1' := h1) rfl rfl (sN _) <| .on rfl <| .gB (v := i64 last) (g' := h1) (h1' := h1) (az c1 23 rfl) (az c1 23 rfl) (dj _ _) <| .on rfl <| .gB (v := i64 (IntKind.i64.wrap (ck - last))) (g' := h1) (h1' := h1) sub sub (dj _ _) <|
      .on rfl <| .rM (v := .bool true) (g' := h1) lt <| .ro (.bool true) rfl <| .nil)) (.aU fun _ _ _ => rfl))
    | false =>
     exact .seq (.seq (.eH (.ro (.ptr N 0) rfl <| .ro (.ptr N 0) rfl <| .ro (.ptr N (0 + 4)) rfl <| .rM (v := .bool true) (g' := h1) (az c1 4 rfl) <| .ro (.bool false) rfl <| .ro (.bool false) rfl <|
      .on rfl <| .ro (.bool false) rfl <| .on rfl <| .ro (.bool true) rfl <| .on rfl <| .ro (.bool true) rfl <| .on rfl <| .ro (.ptr N 0) rfl <| .on rfl <| .ro (.ptr N 0) rfl <| .on rfl <| .ro (.ptr N (0 + 24)) rfl <| .on rfl <| .rM (v := .bool true) (g' := h1) (az c1 24 rfl) <| .on rfl <| .ro (.bool false) rfl <|
      .on rfl <| .ro (.bool false) rfl <| .ro (.bool false) rfl <| .ro (.bool false) rfl <|
      .on rfl <| .ro (.ptr N 0) rfl <| .on rfl <| .call (v := i64 z) (h' := h1) cz <| .on rfl <| .gB (v := .ptr N 0) (g' := h1) (h1' := h1) rfl rfl (sN _) <| .on rfl <| .gB (v := .ptr N 0) (g' := h1) (h1' := h1) rfl rfl (sN _) <| .on rfl <| .gB (v := .ptr N (0 + 3)) (g' := h1) (h1' := h1) rfl rfl (sN _) <| .on rfl <| .gB (v := i64 ck) (g' := h1) (h1' := h1) (az c1 3 rfl) (az c1 3 rfl) (dj _ _) <|
      .on rfl <| .gB (v := .ptr N 0) (g' := h1) (h1' := h1) rfl rfl (sN _) <| .on rfl <| .gB (v := .ptr N 0) (g' := h1) (h1' := h1) rfl rfl (sN _) <| .on rfl <| .gB (v := .ptr N (0 + 23)) (g' := h1) (h1' := h1) rfl rfl (sN _) <| .on rfl <| .gB (v := i64 last) (g' := h1) (h1' := h1) (az c1 23 rfl) (az c1 23 rfl) (dj _ _) <| .on rfl <| .gB (v := i64 (IntKind.i64.wrap (ck - last))) (g' := h1) (h1' := h1) sub sub (dj _ _) <|
      .on rfl <| .rM (v := .bool false) (g' := h1) lt <| .ro (.bool false) rfl <| .nil)) (.aU (s := .nm (T33 (.ptr N 0) (.bool false)) h1) fun _ _ _ => rfl)) (hf rfl)
   cases hbb : decide (IntKind.i64.wrap (ck - last) < z) with
   | true => exact ⟨_, k, h1, .of (r' := T27) (h1 := h1) T.e36 (by simp) (.eh s0 (head hbb (fun _ => rfl) fun g => by cases g)) rfl, I1 o1 F1 W1 rfl ⟨htr.1, by have := htr.2; dsimp only; omega⟩, rfl⟩
   | false =>
    obtain ⟨h2, a2, o2, F2, W2⟩ := vt W1 o1 rfl 23 (by omega) (v := i64 ck) rfl
    obtain ⟨h3, a3, o3, F3, W3⟩ := vt W2 o2 rfl 22 (by omega) (v := i64 (tries + 1)) rfl
    obtain ⟨h4, a4, o4, F4, W4⟩ := vt W3 o3 rfl 24 (by omega) (v := .bool false) rfl
    have o3' : Ob h3 N 81 true .plain (nQ W D acc prop cho met i ⟨ck, true, size, bT, tries + 1, ck, true⟩) := o3
    have o4 : Ob h4 N 81 true .plain (nQ W D acc prop cho met i ⟨ck, true, size, bT, tries + 1, ck, false⟩) := o4
    have F04 : cT (fun j => j = N) h h4 := ((F1.trans F2).trans F3).trans F4
    have J4 := I1 o4 F04 W4 rfl ⟨by dsimp only; omega, by dsimp only; omega⟩
    have Id4 := Id.oM F04 gN
    obtain ⟨ckm, hkm⟩ := Id4.km
    have cn := mP T.m.u.w.r.e39 (Ob.c0 Id4.cho) hkm
    obtain ⟨pb, h5, b1, b2, b3, b4, b5, _⟩ := my (el := 3) (n := 1) W4 (c := .k1 (Y1 i0)) trivial (by decide)
    obtain ⟨h6, d1, d2, d3, d4⟩ := ff (k := 0) (v := i0) b3 (by rw [bO]; omega) rfl
    have d2 : Ob h6 pb 3 true .plain [i0] := d2
    have O46 : Old h4 h6 := fun j hj => by rw [d3 j (fun e => by rw [e] at hj; exact hj b2), b4 j hj]
    have W6 := dZ b5 b3 d3 d4
    have J6 := J4.up O46 W6
    have hi' : i < (ns.set i (⟨N, D, ⟨ck, true, size, bT, tries + 1, ck, false⟩⟩ : NR)).length := by simpa using hi
    obtain ⟨net, nd, w1, w2, w3⟩ := J6.w
    obtain ⟨net2, k2, h7, c7, w4, w5, F7, O7, W7⟩ := Qw T W6 J6.old (o4.old O46) rfl rfl d2 w1 w2 J6.nW (by rw [List.length_map]; exact w3) (by rw [List.length_map]; exact hi') (by rw [List.length_map]; exact J6.len)
    have J7 := J6.DN F7 W7 O7 (k' := k2) fun net' nd' g1 g2 => by
     have e : nd' = nd := by
      obtain ⟨c1, e1, _, e2⟩ := g1
      obtain ⟨c2, f1, _, f2⟩ := w1
      rw [e1] at f1
      obtain ⟨_, _, _, _, hc⟩ := Obj.cells.inj f1
      have a1 := e2 1 (by simp)
      have a2 := f2 1 (by simp)
      rw [hc] at a1
      exact a1.symm.trans a2
     subst e
     exact ⟨net2, w4, by rw [List.length_map] at w5; exact w5⟩
    refine ⟨_, k2, h7, .cS (r' := T44 (.ptr N 0) (.bool true)) (h1 := h7) T.e36 (by simp) (.eh s0 (head hbb (fun g => by cases g) fun _ => .eh (r' := T33 (.ptr N 0) (.bool false)) (h' := h3) (fun c' i' K => ?_) (.to (r' := T33 (.ptr N 0) (.bool false)) (h' := h7) ((cn.and c7).mono fun m u K => ?_) (.block (.eh (r' := T44 (.ptr N 0) (.bool true)) (h' := h7) (fun c' i' K => ?_) (.xG rfl .skip)))))) rfl, J7, rfl⟩
    ·simp only [k36_2, K2, Aw, Ax]
     have dd : ∀ K : AV → Hp → RS, Seat.D (i64 tries) i1 h2 K = K (i64 (tries + 1)) h2 := fun K => by
      show Seat.D (i64 tries) (i64 1) h2 K = _
      rw [hS, gV _ (by unfold dq; omega)]
     (rw [aA, av, aC (az c1 3 rfl), aA, av, Nat.zero_add, cw a2, aA, av, aC (az (Ob.c0 o2) 22 rfl), dd, aA, av, Nat.zero_add, cw a3]; try rfl)
    ·obtain ⟨u1, u2⟩ := u
     simp only [k36_3, K2, Aw, Ax]
     (rw [aA, av, aC (az (Ob.c0 o3') 24 rfl), dY, aA, av, Nat.zero_add, cw a4, aA, av, aC (az (Ob.c0 o4) 9 rfl), aD u1, rJ b1, cw d1, aD u2]; try rfl)
    ·simp only [k36_4, K2, Aw, Ax]
     (rw [kP, bS]; try rfl)
end
end Go.Am.Seat
