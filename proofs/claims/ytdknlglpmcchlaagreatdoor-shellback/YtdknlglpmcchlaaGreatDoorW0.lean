/- The walk: what each function of the program does at arguments that are not known; and what the law comes to. Conditions: the table of functions holds these functions. -/
import Derived.Test.YtdknlglpmcchlaaGreatDoorH
import Derived.Test.YtdknlglpmcchlaaGreatDoorG
import Derived.Test.YtdknlglpmcchlaaGreatDoorFast0
set_option linter.all false
namespace Go.Am.Seat
section
variable {a b d e f g j k l m n o p q s t v w : AV}
theorem zx : y0 (T2 a) = a := rfl
theorem t3_0 : y0 (T3 a b d e) = a := rfl
theorem t3_15 : y15 (T3 a b d e) = b := rfl
theorem t3_16 : y16 (T3 a b d e) = d := rfl
theorem t3_17 : y17 (T3 a b d e) = e := rfl
theorem t4_0 : y0 (T4 a b) = a := rfl
theorem t4_6 : y6 (T4 a b) = b := rfl
theorem t5_6 : y6 (T5 a b d e) = a := rfl
theorem t5_26 : y26 (T5 a b d e) = b := rfl
theorem t5_27 : y27 (T5 a b d e) = d := rfl
theorem t5_28 : y28 (T5 a b d e) = e := rfl
theorem t6_6 : y6 (T6 a) = a := rfl
theorem t7_6 : y6 (T7 a b d e f) = a := rfl
theorem t7_8 : y8 (T7 a b d e f) = b := rfl
theorem t7_26 : y26 (T7 a b d e f) = d := rfl
theorem t7_27 : y27 (T7 a b d e f) = e := rfl
theorem t7_28 : y28 (T7 a b d e f) = f := rfl
theorem t8_6 : y6 (T8 a b d e f g j k) = a := rfl
theorem t8_8 : y8 (T8 a b d e f g j k) = b := rfl
theorem t8_26 : y26 (T8 a b d e f g j k) = d := rfl
theorem t8_27 : y27 (T8 a b d e f g j k) = e := rfl
theorem t8_28 : y28 (T8 a b d e f g j k) = f := rfl
theorem t8_36 : y36 (T8 a b d e f g j k) = g := rfl
theorem t8_37 : y37 (T8 a b d e f g j k) = j := rfl
theorem t8_38 : y38 (T8 a b d e f g j k) = k := rfl
theorem t9_1 : y1 (T9 a b) = a := rfl
theorem t9_2 : y2 (T9 a b) = b := rfl
theorem t10_1 : y1 (T10 a b d) = a := rfl
theorem t10_2 : y2 (T10 a b d) = b := rfl
theorem t10_3 : y3 (T10 a b d) = d := rfl
theorem t11_1 : y1 (T11 a b d e) = a := rfl
theorem t11_2 : y2 (T11 a b d e) = b := rfl
theorem t11_3 : y3 (T11 a b d e) = d := rfl
theorem t11_4 : y4 (T11 a b d e) = e := rfl
theorem t12_1 : y1 (T12 a) = a := rfl
theorem t13_1 : y1 (T13 a b d e) = a := rfl
theorem t13_5 : y5 (T13 a b d e) = b := rfl
theorem t13_6 : y6 (T13 a b d e) = d := rfl
theorem t13_7 : y7 (T13 a b d e) = e := rfl
theorem t16_1 : y1 (T16 a b) = a := rfl
theorem t16_3 : y3 (T16 a b) = b := rfl
theorem t17_1 : y1 (T17 a b d e f) = a := rfl
theorem t17_3 : y3 (T17 a b d e f) = b := rfl
theorem t17_41 : y41 (T17 a b d e f) = d := rfl
theorem t17_42 : y42 (T17 a b d e f) = e := rfl
theorem t17_43 : y43 (T17 a b d e f) = f := rfl
theorem t18_3 : y3 (T18 a b d e) = a := rfl
theorem t18_62 : y62 (T18 a b d e) = b := rfl
theorem t18_63 : y63 (T18 a b d e) = d := rfl
theorem t18_64 : y64 (T18 a b d e) = e := rfl
theorem t19_3 : y3 (T19 a) = a := rfl
theorem t20_3 : y3 (T20 a b d e f) = a := rfl
theorem t20_7 : y7 (T20 a b d e f) = b := rfl
theorem t20_62 : y62 (T20 a b d e f) = d := rfl
theorem t20_63 : y63 (T20 a b d e f) = e := rfl
theorem t20_64 : y64 (T20 a b d e f) = f := rfl
theorem t21_3 : y3 (T21 a b d e f g j k) = a := rfl
theorem t21_7 : y7 (T21 a b d e f g j k) = b := rfl
theorem t21_62 : y62 (T21 a b d e f g j k) = d := rfl
theorem t21_63 : y63 (T21 a b d e f g j k) = e := rfl
theorem t21_64 : y64 (T21 a b d e f g j k) = f := rfl
theorem t21_78 : y78 (T21 a b d e f g j k) = g := rfl
theorem t21_79 : y79 (T21 a b d e f g j k) = j := rfl
theorem t21_80 : y80 (T21 a b d e f g j k) = k := rfl
theorem iB : y0 (T22 a b d) = a := rfl
theorem iD : y1 (T22 a b d) = b := rfl
theorem iE : y5 (T22 a b d) = d := rfl
theorem vK : y0 (T23 a b d e) = a := rfl
theorem vL : y1 (T23 a b d e) = b := rfl
theorem uf : y5 (T23 a b d e) = d := rfl
theorem vM : y6 (T23 a b d e) = e := rfl
theorem t24_0 : y0 (T24 a b d e f) = a := rfl
theorem t24_1 : y1 (T24 a b d e f) = b := rfl
theorem t24_5 : y5 (T24 a b d e f) = d := rfl
theorem t24_6 : y6 (T24 a b d e f) = e := rfl
theorem t24_7 : y7 (T24 a b d e f) = f := rfl
theorem t25_0 : y0 (T25 a b d e f g) = a := rfl
theorem t25_1 : y1 (T25 a b d e f g) = b := rfl
theorem t25_5 : y5 (T25 a b d e f g) = d := rfl
theorem t25_6 : y6 (T25 a b d e f g) = e := rfl
theorem t25_7 : y7 (T25 a b d e f g) = f := rfl
theorem t25_8 : y8 (T25 a b d e f g) = g := rfl
theorem vN : y0 (T26 a b d e f g j) = a := rfl
theorem vO : y1 (T26 a b d e f g j) = b := rfl
theorem vP : y5 (T26 a b d e f g j) = d := rfl
theorem vQ : y6 (T26 a b d e f g j) = e := rfl
theorem vR : y7 (T26 a b d e f g j) = f := rfl
theorem vS : y8 (T26 a b d e f g j) = g := rfl
theorem vT : y9 (T26 a b d e f g j) = j := rfl
theorem t28_1 : y1 (T28 a b d e) = a := rfl
theorem t28_38 : y38 (T28 a b d e) = b := rfl
theorem t28_39 : y39 (T28 a b d e) = d := rfl
theorem t28_40 : y40 (T28 a b d e) = e := rfl
theorem t30_58 : y58 (T30 a b d) = a := rfl
theorem t30_59 : y59 (T30 a b d) = b := rfl
theorem t30_60 : y60 (T30 a b d) = d := rfl
theorem t32_0 : y0 (T32 a b d) = a := rfl
theorem t32_1 : y1 (T32 a b d) = b := rfl
theorem t32_6 : y6 (T32 a b d) = d := rfl
theorem py : y5 (T33 a b d) = a := rfl
theorem pz : y6 (T33 a b d) = b := rfl
theorem pA : y7 (T33 a b d) = d := rfl
theorem t34_8 : y8 (T34 a b d) = a := rfl
theorem t34_9 : y9 (T34 a b d) = b := rfl
theorem t34_10 : y10 (T34 a b d) = d := rfl
theorem t36_1 : y1 (T36 a b) = a := rfl
theorem t36_5 : y5 (T36 a b) = b := rfl
theorem t39_3 : y3 (T39 a b d) = a := rfl
theorem t39_4 : y4 (T39 a b d) = b := rfl
theorem t39_5 : y5 (T39 a b d) = d := rfl
theorem jS : y0 (T40 a b) = a := rfl
theorem jT : y1 (T40 a b) = b := rfl
theorem zy : y0 (T41 a b d e f) = a := rfl
theorem zz : y1 (T41 a b d e f) = b := rfl
theorem ug : y11 (T41 a b d e f) = d := rfl
theorem uh : y12 (T41 a b d e f) = e := rfl
theorem ui : y13 (T41 a b d e f) = f := rfl
theorem t42_0 : y0 (T42 a b) = a := rfl
theorem t42_9 : y9 (T42 a b) = b := rfl
theorem t43_0 : y0 (T43 a b d e) = a := rfl
theorem t43_2 : y2 (T43 a b d e) = b := rfl
theorem t43_4 : y4 (T43 a b d e) = d := rfl
theorem t43_5 : y5 (T43 a b d e) = e := rfl
theorem t44_0 : y0 (T44 a b d e f) = a := rfl
theorem t44_2 : y2 (T44 a b d e f) = b := rfl
theorem t44_4 : y4 (T44 a b d e f) = d := rfl
theorem t44_5 : y5 (T44 a b d e f) = e := rfl
theorem t44_6 : y6 (T44 a b d e f) = f := rfl
theorem t45_0 : y0 (T45 a b d e f) = a := rfl
theorem t45_2 : y2 (T45 a b d e f) = b := rfl
theorem t45_4 : y4 (T45 a b d e f) = d := rfl
theorem t45_5 : y5 (T45 a b d e f) = e := rfl
theorem t45_8 : y8 (T45 a b d e f) = f := rfl
theorem t47_2 : y2 (T47 a b) = a := rfl
theorem t47_5 : y5 (T47 a b) = b := rfl
theorem t49_0 : y0 (T49 a b d) = a := rfl
theorem t49_2 : y2 (T49 a b d) = b := rfl
theorem t49_3 : y3 (T49 a b d) = d := rfl
theorem t50_0 : y0 (T50 a b d e) = a := rfl
theorem t50_2 : y2 (T50 a b d e) = b := rfl
theorem t50_3 : y3 (T50 a b d e) = d := rfl
theorem t50_4 : y4 (T50 a b d e) = e := rfl
end
end Go.Am.Seat
namespace Go.Am
noncomputable section
section
variable {h h' : Hp} {v x y : AV} {k : AV → Hp → RS} {q : P4} {o n m es el : Nat} {l : List AV}
theorem cq : Seat.tR (.ok v h) k = k v h := rfl
theorem aE {e : RV} (g : e = .ok v h') : Seat.tR e k = k v h' := by rw [g]; rfl
theorem aC {e : RV} {k : AV → RS} (g : e = .ok v h') : Seat.tQ e k = k v := by rw [g]; rfl
theorem Ok {e : RT} (g : e = .ok v h') : Seat.tX e k = k v h' := by rw [g]; rfl
theorem aF {c : Cf} {f : Nat} {l : List AV} (g : c f l h = .ok v h') : Seat.C c f l h k = k v h' := by
 show RT.elim k _ _ (c f l h) = _
 rw [g]; rfl
theorem aD {d : Nat} : Seat.A d (.ptr q o) h k = k (.ptr q (o + d)) h := rfl
theorem dE : Seat.J (.ptr q o) h k = k (.ptr q o) h := rfl
theorem aM {a : AV} (g : Seat.lD a h = .ok v h') : Seat.L a h k = k v h' := by
 show (@RV.rec (fun _ => RS) k (fun n => .err n) (Seat.lD a h)) = _
 rw [g]
theorem fO {a : AV} (g : Seat.pY m a h = .ok v h') : Seat.M m a h k = k v h' := by
 show (@RV.rec (fun _ => RS) k (fun n => .err n) (Seat.pY m a h)) = _
 rw [g]
theorem dN {a b : AV} (g : Seat.sT a b h = .ok v h') : Seat.W a b h k = k v h' := by
 show (@RV.rec (fun _ => RS) k (fun n => .err n) (Seat.sT a b h)) = _
 rw [g]
theorem jl {a b : AV} (g : Seat.KA m a b h = .ok v h') : Seat.S m a b h k = k v h' := by
 show (@RV.rec (fun _ => RS) k (fun n => .err n) (Seat.KA m a b h)) = _
 rw [g]
theorem jU {a : AV} (g : Seat.bx m a h = .ok v h') : Seat.B m a h k = k v h' := by
 show (@RV.rec (fun _ => RS) k (fun n => .err n) (Seat.bx m a h)) = _
 rw [g]
theorem lx {c : Cl} (g : Seat.Ri m n c h = .ok v h') : Seat.O m n c h k = k v h' := by
 show (@RV.rec (fun _ => RS) k (fun n => .err n) (Seat.Ri m n c h)) = _
 rw [g]
theorem rq {z : List AV} {ps : List Part} (g : Seat.bl z ps h = .ok v h') : Seat.U z ps h k = k v h' := by
 show (@RV.rec (fun _ => RS) k (fun n => .err n) (Seat.bl z ps h)) = _
 rw [g]
theorem ru {a : AV} (g : Seat.ext m a h = .ok v h') : Seat.E m a h k = k v h' := by
 show (@RV.rec (fun _ => RS) k (fun n => .err n) (Seat.ext m a h)) = _
 rw [g]
theorem bL {a : AV} (g : Am.len a h = .ok v h') : Seat.G a h k = k v h' := by
 show (@RV.rec (fun _ => RS) k (fun n => .err n) (Am.len a h)) = _
 rw [g]
theorem fD {a b : AV} (g : Seat.iX m a b h = .ok v h') : Seat.X m a b h k = k v h' := by
 show (@RV.rec (fun _ => RS) k (fun n => .err n) (Seat.iX m a b h)) = _
 rw [g]
theorem fZ {a b : RS} : Seat.I (.bool true) a b = a := rfl
theorem fK {a b : RS} : Seat.I (.bool false) a b = b := rfl
theorem bJ {a b : RS} {c : Prop} [Decidable c] : Seat.I (.bool (decide c)) a b = if c then a else b := by
 by_cases hc : c
 ·rw [if_pos hc, decide_eq_true hc]; rfl
 ·rw [if_neg hc, decide_eq_false hc]; rfl
theorem Sj {a b : RS} {c : Bool} : Seat.I (.bool c) a b = if c = true then a else b := by cases c <;> rfl
theorem IE (k : IntKind) : ng k k = true := by cases k <;> rfl
theorem mi {f : IntKind → Int → Int → AV} (k : IntKind) (a b : Int) : Bg f (.int k a) (.int k b) h = .ok (f k a b) h := by
 show (@Bool.rec (fun _ => RV) (.err 4) (.ok (f k a b) h) (ng k k)) = _
 rw [IE]
theorem ry (k : IntKind) (a b : Int) : wR (.int k a) (.int k b) h = .ok (.bool (decide (a < b))) h := (mi k a b).trans (by rw [qi])
theorem fP (k : IntKind) (a b : Int) : dj (.int k a) (.int k b) h = .ok (.bool (decide (b < a))) h := (mi k a b).trans (by rw [qi])
theorem Dm (k : IntKind) (a b : Int) : Bh (.int k a) (.int k b) h = .ok (.bool (decide (a ≤ b))) h := (mi k a b).trans (by rw [wZ])
theorem Sk (k : IntKind) (a b : Int) : Lw (.int k a) (.int k b) h = .ok (.bool (decide (b ≤ a))) h := (mi k a b).trans (by rw [wZ])
theorem IG (k : IntKind) (a b : Int) : Ei (.int k a) (.int k b) h = .ok (.bool (decide (a = b))) h := (mi k a b).trans (by rw [ir])
theorem Ol (k : IntKind) (a b : Int) : kF (.int k a) (.int k b) h = .ok (.bool (!decide (a = b))) h := (mi k a b).trans (by rw [ir])
theorem LV (k : IntKind) (a b : Int) : yj (.int k a) (.int k b) h = .ok (.int k (k.wrap (a + b))) h := (mi k a b).trans (by rw [dM, rV])
theorem IH (k : IntKind) (a b : Int) : ny (.int k a) (.int k b) h = .ok (.int k (k.wrap (a - b))) h := (mi k a b).trans (by rw [dM, rV, wY, Int.sub_eq_add_neg])
theorem kQ (k k' : IntKind) (a : Int) : cK (.toInt k) (.int k' a) h = .ok (.int k (k.wrap a)) h := by
 show RV.ok (.int k (jd k a)) h = _
 rw [dM]
theorem eY (b : Bool) : lW (.bool b) h = .ok (.bool (!b)) h := by cases b <;> rfl
theorem bu (k' : IntKind) (a b : Int) : Seat.Y (.int k' a) (.int k' b) h k = k (.bool (decide (a < b))) h := by
 show (@RV.rec (fun _ => RS) k (fun n => .err n) (wR _ _ _)) = _
 rw [ry]
theorem zA (k' : IntKind) (a b : Int) : Seat.Q (.int k' a) (.int k' b) h k = k (.bool (decide (a = b))) h := by
 show (@RV.rec (fun _ => RS) k (fun n => .err n) (Ei _ _ _)) = _
 rw [IG]
theorem nJ (k' : IntKind) (a b : Int) : Seat.D (.int k' a) (.int k' b) h k = k (.int k' (k'.wrap (a + b))) h := by
 show (@RV.rec (fun _ => RS) k (fun n => .err n) (yj _ _ _)) = _
 rw [LV]
theorem Dn (k' : IntKind) (a b : Int) : Seat.Z (.int k' a) (.int k' b) h k = k (.int k' (k'.wrap (a - b))) h := by
 show (@RV.rec (fun _ => RS) k (fun n => .err n) (ny _ _ _)) = _
 rw [IH]
theorem Dp (s : List Nat) : kr (.str s) h = .ok (.int .i64 (s.length : Int)) h := rfl
theorem II (s t : List Nat) : yr (.str s) (.str t) h = .ok (.bool (decide (s = t))) h := by
 show RV.ok (.bool (jg s t)) h = _
 rw [jI]
theorem PR (s t : List Nat) : yt (.str s) (.str t) h = .ok (.bool (!decide (s = t))) h := by
 show RV.ok (.bool (Bool.not (jg s t))) h = _
 rw [jI]
theorem IJ (c : Cs h q o l) (j : Nat) (hj : j < l.length) : Seat.lD (.ptr q (o + j)) h = .ok l[j] h := by
 obtain ⟨el, n, ex, fl, c, e, r1, r2⟩ := c
 show (Obj.aR (ag q h) (fun _ n _ _ c => @Bool.rec (fun _ => RV) (.err 13) (.ok (eV (o + j) c) h) (Gf (o + j) n)) (.err 14) : RV) = _
 rw [e]
 show (@Bool.rec (fun _ => RV) (.err 13) (.ok (eV (o + j) c) h) (Nat.ble (Nat.succ (o + j)) n)) = _
 rw [Nat.ble_eq_true_of_le (by omega), r2 j hj]
theorem BD (c : Cs h q o l) (hj : 0 < l.length) : Seat.lD (.ptr q o) h = .ok l[0] h := IJ c 0 hj
theorem uj {c : Cl} : ∀ {l : List AV} {o : Nat}, (∀ k (hk : k < l.length), eV (o + k) c = l[k]) → bG l.length c o = l
 | [], _, _ => rfl
 | a :: l, o, g => by
  have h0 := g 0 (by simp)
  have : bG l.length c (o + 1) = l := uj fun k hk => by
   have := g (k + 1) (by simp; omega)
   rw [show o + 1 + k = o + (k + 1) by omega, this]; rfl
  show eV o c :: bG l.length c (o + 1) = a :: l
  rw [this]
  simp at h0
  rw [h0]
theorem bD (c : Cs h q o l) (hm : l.length = m) : Seat.pY m (.ptr q o) h = .ok (.agg l) h := by
 obtain ⟨el, n, ex, fl, c, e, r1, r2⟩ := c
 show (Obj.aR (ag q h) (fun _ n _ _ c => @Bool.rec (fun _ => RV) (.err 16) (.ok (.agg (bG m c o)) h) (Nat.ble (Nat.add o m) n)) (.err 17) : RV) = _
 rw [e]
 show (@Bool.rec (fun _ => RV) (.err 16) (.ok (.agg (bG m c o)) h) (Nat.ble (o + m) n)) = _
 rw [Nat.ble_eq_true_of_le (by omega), ← hm, uj r2]
def zB (x : AV) (es n : Nat) (q : P4) (o : Nat) : Prop := (∃ cap, x = .slice q o n cap) ∨ x = .eR q o n es ∨ (x = .ai ∧ n = 0)
theorem gN (s : zB x es n q o) : Am.len x h = .ok (.int .i64 (n : Int)) h := by
 rcases s with ⟨cap, rfl⟩ | rfl | ⟨rfl, rfl⟩ <;> rfl
theorem cG (s : zB x es n q o) {i : Nat} (hi : i < n) : Seat.iX es x (.int .i64 (i : Int)) h = .ok (.ptr q (o + i * es)) h := by
 rcases s with ⟨cap, rfl⟩ | rfl | ⟨rfl, rfl⟩
 ·show (@Bool.rec (fun _ => RV) (.err 54) (.ok (.ptr q (o + i * es)) h) (Nat.ble (Nat.succ i) n)) = _
  rw [Nat.ble_eq_true_of_le hi]
 ·show (@Bool.rec (fun _ => RV) (.err 54) (.ok (.ptr q (o + i * es)) h) (Nat.ble (Nat.succ i) n)) = _
  rw [Nat.ble_eq_true_of_le hi]
 ·omega
theorem zD (s : zB x es n q o) (hes : 0 < es) (c : n ≠ 0 → Cs h q o l) (hl : l.length = n * es) (k : List AV → RV) (e : RV) : elems es x h k e = k l := by
 have key : ji es q o n h k e = k l := by
  cases n with
  | zero =>
   have : l = [] := List.length_eq_zero_iff.1 (by rw [hl, Nat.zero_mul])
   rw [this]; rfl
  | succ n =>
   obtain ⟨el, m, ex, fl, cl, g, r1, r2⟩ := c (by omega)
   show (Obj.aR (ag q h) (fun _ m _ _ c => @Bool.rec (fun _ => RV) e (k (bG (Nat.mul (Nat.succ n) es) c o)) (Nat.ble (Nat.add o (Nat.mul (Nat.succ n) es)) m)) e : RV) = _
   rw [g]
   show (@Bool.rec (fun _ => RV) e (k (bG ((n + 1) * es) cl o)) (Nat.ble (o + (n + 1) * es) m)) = _
   rw [Nat.ble_eq_true_of_le (by omega), ← hl, uj r2]
 rcases s with ⟨cap, rfl⟩ | rfl | ⟨rfl, rfl⟩
 ·exact key
 ·show (@Bool.rec (fun _ => RV) e (ji es q o n h k e) (Nat.beq es es)) = _
  rw [Nat.beq_refl]; exact key
 ·have : l = [] := List.length_eq_zero_iff.1 (by rw [hl, Nat.zero_mul])
  rw [this]; rfl
def dA (h : Hp) (x : AV) (el es : Nat) (l : List AV) (b : P4 → Prop) : Prop := (l = [] ∧ (x = .ai ∨ ∃ q, x = .slice q 0 0 0)) ∨ ∃ q n, x = .eR q 0 n es ∧ l.length = n * es ∧ Ob h q el false .plain l ∧ b q
theorem dA.sl {b : P4 → Prop} (w : dA h x el es l b) (hes : 0 < es) : ∃ q n, zB x es n q 0 ∧ l.length = n * es ∧ (n ≠ 0 → Cs h q 0 l) := by
 rcases w with ⟨rfl, rfl | ⟨q, rfl⟩⟩ | ⟨q, n, rfl, hl, ob, _⟩
 ·exact ⟨.eI 0 0, 0, .inr (.inr ⟨rfl, rfl⟩), by simp, fun h => absurd rfl h⟩
 ·exact ⟨q, 0, .inl ⟨0, rfl⟩, by simp, fun h => absurd rfl h⟩
 ·exact ⟨q, n, .inr (.inl rfl), hl, fun _ => ob.cs (k := 0) (fun j hj => ⟨by omega, by simp⟩) (by omega)⟩
theorem Ob.Om (W : Wf h) {ex : Bool} {fl : Fl} {c : Cl} (hn : Gd c ∧ l.length ≤ bA c) (hg : ∀ k (hk : k < l.length), eV k c = l[k]) : Ob (yg h (.cells el l.length ex fl c)) h.next el ex fl l :=
 ⟨c, by rw [jC, if_pos rfl], hn, hg⟩
theorem iG (W : Wf h) {b : P4 → Prop} (w : dA h x el es l b) (hes : 0 < es) {new : List AV} (hnew' : new.length = m * es) (hsz : l.length + new.length ≤ 16777216) :
  ∃ x' h', lB el es m new x h = .ok x' h' ∧ dA h' x' el es (l ++ new) (fun q => b q ∨ ag q h = .none) ∧ Wf h' ∧ ∀ q, ag q h ≠ .none → ¬ b q → ag q h' = ag q h := by
 have hnl : new = [] → l ++ new = l := by rintro rfl; simp
 rcases w with ⟨rfl, hx⟩ | ⟨q, n, rfl, hl, ob, hb⟩
 ·cases m with
  | zero =>
   have : new = [] := List.length_eq_zero_iff.1 (by rw [hnew', Nat.zero_mul])
   subst this
   refine ⟨x, h, ?_, .inl ⟨rfl, hx⟩, W, fun _ _ _ => rfl⟩
   rcases hx with rfl | ⟨q, rfl⟩ <;> rfl
  | succ m =>
   have e : lB el es (m + 1) new x h = ik el false .plain new.length (nQ new) h (fun i h => .ok (.eR i 0 (m + 1) es) h) := by
    have g : qt el es 0 (m + 1) .nil new h = ik el false .plain new.length (nQ new) h (fun i h => .ok (.eR i 0 (m + 1) es) h) := by
     unfold qt mP
     rw [show Nat.add 0 (m + 1) = m + 1 from Nat.zero_add _]
     rfl
    rcases hx with rfl | ⟨q, rfl⟩
    ·exact g
    ·have e2 : lB el es (m + 1) new (.slice q 0 0 0) h = (@Bool.rec (fun _ => RV) (qt el es 0 (m + 1) .nil new h) (kH q (Nat.add 0 (Nat.mul 0 es)) new h (fun h => .ok (.slice q 0 (Nat.add 0 (Nat.succ m)) 0) h)) (Nat.ble (0 + (m + 1)) 0)) := rfl
     have : Nat.ble (0 + (m + 1)) 0 = false := by rw [Nat.zero_add]; rfl
     rw [e2, this]
     exact g
   rw [e, wO W (by rw [(Gd.of new (by simpa using hsz)).1.max]; exact (Gd.of new (by simpa using hsz)).2)]
   refine ⟨_, _, rfl, .inr ⟨h.next, m + 1, rfl, by simpa using hnew', ?_, .inr W.fresh⟩, W.yg _, fun q hq _ => Old.yg W _ q hq⟩
   exact Ob.Om W (Gd.of new (by simpa using hsz)) (fun k hk => mH new (by simpa using hsz) k hk)
 ·cases m with
  | zero =>
   have : new = [] := List.length_eq_zero_iff.1 (by rw [hnew', Nat.zero_mul])
   subst this
   refine ⟨.eR q 0 n es, h, ?_, .inr ⟨q, n, rfl, by simpa using hl, by simpa using ob, .inl hb⟩, W, fun _ _ _ => rfl⟩
   show (@Bool.rec (fun _ => RV) (.err 81) (.ok (.eR q 0 n es) h) (Nat.beq es es)) = _
   rw [Nat.beq_refl]
  | succ m =>
   obtain ⟨c, e1, e2, e3⟩ := ob
   have hne : ag q h ≠ .none := by rw [e1]; simp
   have hsum : (n + (m + 1)) * es = l.length + new.length := by rw [Nat.add_mul, ← hl, ← hnew']
   have hpos : 0 < new.length := by rw [hnew']; exact Nat.mul_pos (by omega) hes
   have W2 : Wf (cU q .dead h) := W.cU hne
   have hnx : (cU q .dead h).next = h.next := rfl
   have hcf : Gd (cZ new l.length (kj ((n + (m + 1)) * es) c)) ∧ l.length + new.length ≤ bA (cZ new l.length (kj ((n + (m + 1)) * es) c)) := by
    rw [gv, hsum]
    obtain ⟨a1, a2⟩ := e2.1.fit (l.length + new.length) hsz
    exact ⟨a1.cZ _ _, a2⟩
   have e : lB el es (m + 1) new (.eR q 0 n es) h = ik el false .plain (l ++ new).length (cZ new l.length (kj ((n + (m + 1)) * es) c)) (cU q .dead h) (fun j h => .ok (.eR j 0 (n + (m + 1)) es) h) := by
    show (@Bool.rec (fun _ => RV) (.err 81) (Hg el es (m + 1) new q 0 n h) (Nat.beq es es)) = _
    rw [Nat.beq_refl]
    show (Obj.aR (ag q h) _ (.err 84) : RV) = _
    rw [e1]
    show (@Bool.rec (fun _ => RV) (@Bool.rec (fun _ => RV) (.err 83) (@Bool.rec (fun _ => RV) (@Bool.rec (fun _ => RV) (lZ q el ((n + (m + 1)) * es) .plain (nQ (List.append (bG (n * es) c 0) new)) (n + (m + 1)) es h)
     (lZ q el ((n + (m + 1)) * es) .plain (cZ new l.length (kj ((n + (m + 1)) * es) c)) (n + (m + 1)) es h) (Bool.and (Nat.beq 0 0) (Nat.beq (n * es) l.length))) (.err 81) (Bool.or false (Bool.not (Nat.beq el el)))) (Nat.ble (0 + n * es) l.length)) _ (Nat.ble (0 + (n + (m + 1)) * es) l.length)) = _
    have b1 : Nat.ble (0 + (n + (m + 1)) * es) l.length = false := by
     rw [← Bool.not_eq_true]
     intro g
     have := Nat.le_of_ble_eq_true g
     omega
    have b2 : Nat.ble (0 + n * es) l.length = true := Nat.ble_eq_true_of_le (by omega)
    have b3 : Nat.beq (n * es) l.length = true := by rw [hl]; exact Nat.beq_refl _
    have b4 : Nat.beq el el = true := Nat.beq_refl _
    rw [b1, b2, b3, b4]
    show lZ q el ((n + (m + 1)) * es) .plain _ (n + (m + 1)) es h = _
    unfold lZ
    rw [List.length_append, hsum]
   rw [e, wO W2 (by rw [hcf.1.max, List.length_append]; exact hcf.2)]
   refine ⟨_, _, rfl, .inr ⟨h.next, n + (m + 1), rfl, by rw [List.length_append, hsum], ?_, .inr W.fresh⟩, W2.yg _, fun j hj hbj => ?_⟩
   ·refine Ob.Om W2 ⟨hcf.1, by rw [List.length_append]; exact hcf.2⟩ (fun k hk => ?_)
    rw [hsum]
    refine yC l new ?_ e2.2 e3 k hk
    rw [hsum] at hcf
    exact hcf.2
   ·rw [jC, hnx, if_neg (fun g => by rw [g] at hj; exact hj W.fresh), aI, if_neg (fun g => by rw [g] at hbj; exact hbj hb)]
end
end
noncomputable section
section
variable {h h' : Hp} {v x y : AV} {q : P4} {o n m es el k : Nat} {l l' : List AV} {ex : Bool}
theorem dY (b : Ob h q el ex .plain l) (hk : k < l.length) (hv : v.one = true) : ∃ h', Seat.sT (.ptr q k) v h = .ok .undef h' ∧ Ob h' q el ex .plain (l.set k v) ∧ (∀ j, j ≠ q → ag j h' = ag j h) ∧ h'.next = h.next := by
 obtain ⟨c, e1, e2, e3⟩ := b
 refine ⟨cU q (.cells el l.length ex .plain (lJ k v c)) h, ?_, ⟨lJ k v c, by rw [aI, if_pos rfl, List.length_set], ⟨e2.1.lJ _ _, by rw [il, List.length_set]; exact e2.2⟩, fun j hj => ?_⟩, fun j hj => by rw [aI, if_neg hj], rfl⟩
 ·show (Obj.aR (ag q h) _ (.err 21) : RV) = _
  rw [e1]
  show (@Bool.rec (fun _ => RV) (.err 20) (.ok .undef (cU q (.cells el l.length ex .plain (lJ k v c)) h)) (Bool.and (Nat.ble (k + 1) l.length) v.one)) = _
  rw [Nat.ble_eq_true_of_le hk, hv]
  rfl
 ·have hj' : j < l.length := by simpa using hj
  rw [qh c (by have := e2.2; omega) (by have := e2.2; omega), List.getElem_set]
  by_cases h1 : j = k
  ·rw [if_pos h1, if_pos h1.symm]
  ·rw [if_neg h1, if_neg (fun g => h1 g.symm)]
   exact e3 j hj'
theorem fE (b : Ob h q el ex .plain l) (hm : l'.length = m) (hk : k + m ≤ l.length) : ∃ h', Seat.KA m (.ptr q k) (.agg l') h = .ok .undef h' ∧ Ob h' q el ex .plain (l.take k ++ (l' ++ l.drop (k + m))) ∧ (∀ j, j ≠ q → ag j h' = ag j h) ∧ h'.next = h.next := by
 obtain ⟨c, e1, e2, e3⟩ := b
 have hlen : (l.take k ++ (l' ++ l.drop (k + m))).length = l.length := by simp; omega
 refine ⟨cU q (.cells el l.length ex .plain (cZ l' k c)) h, ?_, ⟨cZ l' k c, by rw [aI, if_pos rfl, hlen], ⟨e2.1.cZ _ _, by rw [gv, hlen]; exact e2.2⟩, fun j hj => ?_⟩, fun j hj => by rw [aI, if_neg hj], rfl⟩
 ·show (Obj.aR (ag q h) _ (.err 27) : RV) = _
  rw [e1]
  show (@Bool.rec (fun _ => RV) (.err 24) (@Bool.rec (fun _ => RV) (.err 25) (.ok .undef (cU q (.cells el l.length ex .plain (cZ l' k c)) h)) (Nat.beq l'.length m)) (Nat.ble (Nat.add k m) l.length)) = _
  rw [Nat.ble_eq_true_of_le (show Nat.add k m ≤ l.length from hk), hm, Nat.beq_refl]
 ·have hj' : j < l.length := by rw [hlen] at hj; exact hj
  have hr := e2.2
  rw [nV l' k c j (by omega) (by omega)]
  by_cases h1 : j < k
  ·rw [dif_neg (by omega), List.getElem_append_left (by simp; omega), List.getElem_take, e3 j hj']
  ·by_cases h2 : j < k + m
   ·rw [dif_pos (by omega), List.getElem_append_right (by simp; omega), List.getElem_append_left (by simp; omega)]
    congr 1
    simp; omega
   ·rw [dif_neg (by omega), List.getElem_append_right (by simp; omega), List.getElem_append_right (by simp; omega), List.getElem_drop, e3 j hj']
    congr 1
    simp; omega
theorem iH (W : Wf h) {c : Cl} (g : Gd c) (hn : n ≤ bA c) : ∃ q h', Seat.Ri el n c h = .ok (.ptr q 0) h' ∧ ag q h = .none ∧ Ob h' q el true .plain (bG n c 0) ∧ Old h h' ∧ Wf h' ∧ ∀ j, j ≠ q → ag j h' = ag j h := by
 have hl : (bG n c 0).length = n := bM n c 0
 have e : Seat.Ri el n c h = ik el true .plain (bG n c 0).length c h qb := by rw [hl]; rfl
 obtain ⟨q, h', e1, e2, e3, e4, e5, e6⟩ := wP (el := el) (ex := true) (fl := .plain) W (bG n c 0) (c := c) ⟨g, by rw [hl]; exact hn⟩ (fun k hk => by rw [nB, Nat.zero_add]) qb
 exact ⟨q, h', by rw [e, e1]; rfl, e2, e3, e4, e5, e6⟩
theorem mj (W : Wf h) (hl : l.length ≤ 16777216) : ∃ q h', Seat.bx el (.agg l) h = .ok (.ptr q 0) h' ∧ ag q h = .none ∧ Ob h' q el true .plain l ∧ Old h h' ∧ Wf h' ∧ ∀ j, j ≠ q → ag j h' = ag j h := by
 have e : Seat.bx el (.agg l) h = ik el true .plain l.length (nQ l) h qb := rfl
 obtain ⟨q, h', e1, r⟩ := wP (el := el) (ex := true) (fl := .plain) W l (c := nQ l) (Gd.of l hl) (fun k hk => mH l hl k hk) qb
 exact ⟨q, h', by rw [e, e1]; rfl, r⟩
theorem gE (W : Wf h) {z : List AV} {ps : List Part} (hf : fits ps .nil = true) (hl : fill ps .nil z = l) (hn : l.length ≤ 16777216) : ∃ q h', Seat.bs el es n z ps h = .ok (.slice q 0 n n) h' ∧ ag q h = .none ∧ Ob h' q el true .plain l ∧ Old h h' ∧ Wf h' ∧ ∀ j, j ≠ q → ag j h' = ag j h := by
 have e : Seat.bs el es n z ps h = ik el true .plain l.length (nQ l) h (fun i h => .ok (.slice i 0 n n) h) := by
  show (@Bool.rec (fun _ => RV) (.err 133) (CY el n (fill ps .nil z) h) (fits ps .nil)) = _
  rw [hf, hl]; rfl
 obtain ⟨q, h', e1, r⟩ := wP (el := el) (ex := true) (fl := .plain) W l (c := nQ l) (Gd.of l hn) (fun k hk => mH l hn k hk) (fun i h => .ok (.slice i 0 n n) h)
 exact ⟨q, h', by rw [e, e1], r⟩
theorem eT (s : zB y es m q o) (hes : 0 < es) (c : m ≠ 0 → Cs h q o l) (hl : l.length = m * es) (hm : m * es ≤ 4294967296) : eF el es x y h = lB el es m l x h := by
 have key : (@Bool.rec (fun _ => RV) (.err 86) (elems es y h (fun new => lB el es m new x h) (.err 87)) (Nat.ble (Nat.mul m es) 4294967296)) = lB el es m l x h := by
  rw [Nat.ble_eq_true_of_le (show Nat.mul m es ≤ 4294967296 from hm)]
  exact zD s hes c hl _ _
 rcases s with ⟨cap, rfl⟩ | rfl | ⟨rfl, rfl⟩ <;> exact key
theorem pB (s : List Nat) : byteCells s = s.map fun b : Nat => AV.int .u8 (b : Int) := by
 induction s with
 | nil => rfl
 | cons b s ih => exact congrArg (AV.int .u8 (b : Int) :: ·) ih
theorem LW (s : List Nat) : ma el (.c x) (.c (.str s)) .nil h = lB el 1 s.length (s.map fun b : Nat => AV.int .u8 (b : Int)) x h := by
 show lB el 1 s.length (byteCells s) x h = _
 rw [pB]
theorem dA.mono {b b' : P4 → Prop} (w : dA h x el es l b) (g : ∀ q, b q → b' q) : dA h x el es l b' := by
 rcases w with w | ⟨q, n, e1, e2, e3, e4⟩
 ·exact .inl w
 ·exact .inr ⟨q, n, e1, e2, e3, g q e4⟩
theorem dA.old {b : P4 → Prop} (w : dA h x el es l b) (O : ∀ q, b q → ag q h ≠ .none → ag q h' = ag q h) : dA h' x el es l b := by
 rcases w with w | ⟨q, n, e1, e2, e3, e4⟩
 ·exact .inl w
 ·exact .inr ⟨q, n, e1, e2, e3.eq (O q e4 e3.ne), e4⟩
theorem Old.none {h0 : Hp} (O : Old h0 h) (hq : ag q h = .none) : ag q h0 = .none := by
 cases g : ag q h0 with
 | none => rfl
 | _ =>
  have := O q (by rw [g]; simp)
  rw [hq, g] at this
  cases this
theorem Wf.of (W : Wf h) (hn : h'.next = h.next) (g : ∀ j, ag j h = .none → ag j h' = .none) : Wf h' := by
 obtain ⟨N, e, f⟩ := W
 exact ⟨N, by rw [hn, e], fun m hm => g _ (f m hm)⟩
end
end
noncomputable section
def KD (f : Nat → Nat → Obj) (g : Nat → Obj) (n : Nat) : T4 := Nat.rec (.mk .nil f) (fun j t => de (P4.of j) (g j) t) n
theorem nK (f : Nat → Nat → Obj) (g : Nat → Obj) (b o : Nat) : ∀ n, cD (.eI b o) (KD f g n) = f b o
 | 0 => rfl
 | n + 1 => by
  have e : cD (.eI b o) (KD f g (n + 1)) = if P4.eI b o = P4.of n then g n else cD (.eI b o) (KD f g n) := df (.eI b o) (P4.of n) (g n) (KD f g n)
  rw [e, if_neg (by intro e; cases e), nK f g b o n]
theorem vU (f : Nat → Nat → Obj) (g : Nat → Obj) (a b c d : H) : ∀ n, n ≤ 65536 → cD (.mk a b c d) (KD f g n) = if oE (.mk a b c d) < n then g (oE (.mk a b c d)) else .none
 | 0, _ => by
  rw [if_neg (by omega)]
  show O1.get d (O2.get c (O3.get b (O4.get a .nil))) = _
  rw [O4.get_nil, O3.get_nil, O2.get_nil, O1.get_nil]
 | m + 1, hm => by
  have e : cD (.mk a b c d) (KD f g (m + 1)) = if P4.mk a b c d = P4.of m then g m else cD (.mk a b c d) (KD f g m) := df (.mk a b c d) (P4.of m) (g m) (KD f g m)
  rw [e, vU f g a b c d m (by omega)]
  by_cases h : P4.mk a b c d = P4.of m
  ·rw [if_pos h, h, wL (by omega), if_pos (by omega)]
  ·rw [if_neg h]
   have h1 : oE (.mk a b c d) ≠ m := fun e => h (by rw [← e, AK])
   by_cases h2 : oE (.mk a b c d) < m
   ·rw [if_pos h2, if_pos (by omega)]
   ·rw [if_neg h2, if_neg (by omega)]
theorem PS (a b c d : H) : oE (.mk a b c d) < 65536 := by
 have ha := a.fi
 have hb := b.fi
 have hc := c.fi
 have hd := d.fi
 show a.nat * 4096 + b.nat * 256 + c.nat * 16 + d.nat < 65536
 omega
theorem Dq (g : P4 → Obj) : ∃ h : Hp, ∀ q, ag q h = g q := by
 obtain ⟨n, hn⟩ : ∃ n, n = 65536 := ⟨_, rfl⟩
 refine ⟨.mk (KD (fun b o => g (.eI b o)) (fun j => g (P4.of j)) n) (.eI 0 0), fun q => ?_⟩
 cases q with
 | eI b o => exact nK _ _ b o n
 | mk a b c d =>
  have e : ag (.mk a b c d) (.mk (KD (fun b o => g (.eI b o)) (fun j => g (P4.of j)) n) (.eI 0 0)) = _ := vU (fun b o => g (.eI b o)) (fun j => g (P4.of j)) a b c d n (by omega)
  rw [e, if_pos (by rw [hn]; exact PS a b c d), AK]
variable {p : Pg} {h h' h1 : Hp} {r r' : A2} {v x y : AV} {q : P4} {o n m es el : Nat} {l : List AV} {s : RS} {k : AV → Hp → RS}
theorem EW {f : (AV → Hp → RS) → RS} : Seat.gD (.bool true) true f h k = f k := rfl
theorem LX {f : (AV → Hp → RS) → RS} : Seat.gD (.bool false) false f h k = f k := rfl
theorem Dr {f : (AV → Hp → RS) → RS} : Seat.gD (.bool false) true f h k = k cm h := rfl
theorem Dt {f : (AV → Hp → RS) → RS} : Seat.gD (.bool true) false f h k = k cm h := rfl
theorem uk {a b : AV} : ei (.c (.bool true)) (.c a) (.c b) .nil h = .ok a h := rfl
theorem xG {a b : AV} : ei (.c (.bool false)) (.c a) (.c b) .nil h = .ok b h := rfl
theorem LY (s : List Nat) (n : Nat) (hn : n ≤ s.length) : fw (.c (.str s)) .none (.some (.c (Seat.pi n))) .nil h = .ok (.str (s.take n)) h := by
 show (@Bool.rec (fun _ => RV) (.err 49) (@Bool.rec (fun _ => RV) (.err 49) (.ok (.str (List.take (Nat.sub n 0) (List.drop 0 s))) h) (Nat.ble n s.length)) (Nat.ble 0 n)) = _
 rw [Nat.ble_eq_true_of_le hn, Nat.ble_eq_true_of_le (Nat.zero_le n)]
 rfl
theorem vV (W : Wf h) (sl : zB x es n q o) {i : Nat} (hi : i < n) (c : Cs h q (o + i * es) l) (hl : l.length = es) {c0 : Cl} (hc : Gd c0) (hr : es ≤ bA c0) :
  ∃ j h', (∀ K : AV → Hp → RS, Seat.X es x (.int .i64 (i : Int)) h (fun g h => Seat.M es g h fun k h => Seat.O el es c0 h fun l h => Seat.S es l k h fun _ h => K l h) = K (.ptr j 0) h') ∧ ag j h = .none ∧ Ob h' j el true .plain l ∧ Old h h' ∧ Wf h' ∧ ∀ k, k ≠ j → ag k h' = ag k h := by
 obtain ⟨j, h1, e1, e2, e3, e4, e5, e6⟩ := iH (el := el) W hc hr
 have hg : (bG es c0 0).length = es := bM es c0 0
 obtain ⟨h2, f1, f2, f3, f4⟩ := fE (k := 0) (m := es) (l' := l) e3 hl (by omega)
 refine ⟨j, h2, fun K => ?_, e2, ?_, fun k hk => ?_, e5.of f4 fun k hk => ?_, fun k hk => ?_⟩
 ·rw [fD (cG sl hi), fO (bD c hl), lx e1, jl f1]
 ·have : (bG es c0 0).take 0 ++ (l ++ (bG es c0 0).drop (0 + es)) = l := by
   rw [List.drop_of_length_le (by omega)]; simp
  rw [this] at f2; exact f2
 ·have : k ≠ j := fun g => by rw [g] at hk; exact hk e2
  rw [f3 k this, e4 k hk]
 ·by_cases g : k = j
  ·rw [g] at hk; exact absurd hk e3.ne
  ·rw [f3 k g]; exact hk
 ·rw [f3 k hk, e6 k hk]
def Os (p : Pg) (l : List GI) (r : A2) (h : Hp) (s : RS) : Prop := Ev fun m => eX p (exec p m) l r h = s
theorem Rn.ops {l : List GI} (e : Os p l r h s) : Rn p (.ops l) r h s := Ev.succ e
theorem Os.nil : Os p [] r h (.nm r h) := .all fun _ => rfl
variable {gs : List GI} {d : bV} {aop : oG} {f : Nat} {xs : List AO} {a b : H} {w : Bool} {i : AI}
theorem Os.step (e : aop.run r h = .ok v h') (g : Os p gs (da d v r) h' s) : Os p (.o d (.op aop) :: gs) r h s := g.mono fun m g => by
 show Cy d (eX p (exec p m) gs) r (aop.run r h) = s
 rw [e]; exact g
theorem Os.call (e : Cv p f (fL xs r) h v h') (g : Os p gs (da d v r) h' s) : Os p (.o d (.call f xs) :: gs) r h s := e.Ee g fun m e g => by
 show stepT d (eX p (exec p m) gs) r (aw p (exec p m) f (fL xs r) h) = s
 rw [e]; exact g
theorem Os.on (hb : az a b r = .bool w) (g : Os p (.o d i :: gs) r h s) : Os p (.g a b w d i :: gs) r h s := g.mono fun m g => by
 show AV.bB (gb w (az a b r)) (jA d (eX p (exec p m) gs) r h i p (exec p m) w) (.err 210) = s
 rw [hb, ← g]
 cases w <;> rfl
theorem Os.off (hb : az a b r = .bool (!w)) (g : Os p gs (da d cm r) h s) : Os p (.g a b w d i :: gs) r h s := g.mono fun m g => by
 show AV.bB (gb w (az a b r)) (jA d (eX p (exec p m) gs) r h i p (exec p m) w) (.err 210) = s
 rw [hb, ← g]
 cases w <;> rfl
end
noncomputable section
variable {p : Pg} {h h' : Hp} {r r' : A2} {s : RS} {body x : AC}
theorem Rn.to {k : Cf → Iv → (A2 → Hp → RS) → A2 → Hp → RS} (e : Ev fun m => ∀ K : A2 → Hp → RS, k (aw p (exec p m)) (aG p (exec p m)) K r h = K r' h') (g : Rn p x r' h' s) : Rn p (.ah k x) r h s :=
 .ah (e.Ee g fun _ e g => (e _).trans g)
theorem Rn.dP {k : Cf → Iv → (A2 → Hp → RS) → A2 → Hp → RS} (e : ∀ c i (K : A2 → Hp → RS), k c i K r h = K r' h') (g : Rn p x r' h' s) : Rn p (.ah k x) r h s := .to (.all fun _ K => e _ _ K) g
theorem Rn.aV {k : Cf → Iv → (A2 → Hp → RS) → A2 → Hp → RS} (e : ∀ c i (K : A2 → Hp → RS), k c i K r h = s) : Rn p (.ah k x) r h s := .ah (.all fun _ => e _ _ _)
theorem eU (n : Nat) {Inv : Nat → A2 → Hp → Prop} {S : RS → Prop} (step : ∀ i r h, i < n → Inv i r h → (∃ r' h', Rn p body r h (.nm r' h') ∧ Inv (i + 1) r' h') ∨ ∃ s, S s ∧ Rn p (.loop body) r h s)
  (fin : ∀ r h, Inv n r h → ∃ s, S s ∧ Rn p (.loop body) r h s) : ∀ k i r h, i + k = n → Inv i r h → ∃ s, S s ∧ Rn p (.loop body) r h s
 | 0, i, r, h, e, I => by
  rw [show i = n by omega] at I
  exact fin r h I
 | k + 1, i, r, h, e, I => by
  rcases step i r h (by omega) I with ⟨r', h', g, I⟩ | g
  ·obtain ⟨s, hs, g'⟩ := eU n step fin k (i + 1) r' h' (by omega) I
   exact ⟨s, hs, .loop g g'⟩
  ·exact g
theorem IK (n : Nat) {Inv : Nat → A2 → Hp → Prop} {l : Nat} (step : ∀ i r h, i < n → Inv i r h → ∃ r' h', Rn p body r h (.nm r' h') ∧ Inv (i + 1) r' h')
  (fin : ∀ r h, Inv n r h → Rn p body r h (.ex l r h)) (I : Inv 0 r h) : ∃ r' h', Inv n r' h' ∧ Rn p (.loop body) r h (.ex l r' h') := by
 obtain ⟨s, ⟨r', h', e, I⟩, g⟩ := eU (p := p) (body := body) n (Inv := Inv) (S := fun s => ∃ r' h', s = .ex l r' h' ∧ Inv n r' h') (fun i r h hi I => .inl (step i r h hi I)) (fun r h I => ⟨_, ⟨r, h, rfl, I⟩, .dU (fin r h I)⟩) n 0 r h (by omega) I
 exact ⟨r', h', I, e ▸ g⟩
theorem gW (n : Nat) {Inv : Nat → A2 → Hp → Prop} {l : Nat} {Re : A2} (step : ∀ i r h, i < n → Inv i r h → ∃ r' h', Rn p body r h (.nm r' h') ∧ Inv (i + 1) r' h')
  (fin : ∀ r h, Inv n r h → Rn p body r h (.ex l Re h)) (I : Inv 0 r h) : ∃ r' h', Inv n r' h' ∧ Rn p (.loop body) r h (.ex l Re h') := by
 obtain ⟨s, ⟨r', h', e, I⟩, g⟩ := eU (p := p) (body := body) n (Inv := Inv) (S := fun s => ∃ r' h', s = .ex l Re h' ∧ Inv n r' h') (fun i r h hi I => .inl (step i r h hi I)) (fun r h I => ⟨_, ⟨r, h, rfl, I⟩, .dU (fin r h I)⟩) n 0 r h (by omega) I
 exact ⟨r', h', I, e ▸ g⟩
end
noncomputable section
variable {p : Pg} {h h' h1 h1' h2 h2' g g' : Hp} {r r' : A2} {s : RS} {v v' x : AV} {hs : List Hp}
def Ds (p : Pg) (l : List DI) (r : A2) (h g : Hp) (hs : List Hp) (s : RS) : Prop := Ev fun m => eG p (exec p m) l r h g hs = s
theorem Rn.rS {l : List DI} (e : Ds p l r h h [] s) : Rn p (.rS l) r h s := Ev.succ e
theorem Ds.nil : Ds p [] r h g hs (.nm r h) := .all fun _ => rfl
variable {l : List DI} {d : bV} {aop : oG} {f : Nat} {xs : List AO} {a b : H} {w : Bool} {i : AI} {bk : Bk}
theorem Du : ∀ hs : List Hp, gM aop r v hs 0 = true
 | [] => rfl
 | _ :: _ => rfl
theorem Ds.dF (e : aop.run r g = .ok v g') (k : Ds p l (da d v r) h g hs s) : Ds p (.mk (.rd 0) (.o d (.op aop)) :: l) r h g hs s := k.mono fun m k => by
 show AY d aop 0 (eG p (exec p m) l) r h g hs (aop.run r g) = s
 rw [e]
 show (@Bool.rec (fun _ => RS) (.err 211) (eG p (exec p m) l (da d v r) h g hs) (gM aop r v hs 0)) = s
 rw [Du]; exact k
theorem Ds.Uk (e : aop.run r g = .ok v g') (e1 : aop.run r h1 = .ok v h1') (e2 : aop.run r h2 = .ok v h2') (sv : same v v = true) (k : Ds p l (da d v r) h g (h1 :: h2 :: hs) s) : Ds p (.mk (.rd 2) (.o d (.op aop)) :: l) r h g (h1 :: h2 :: hs) s := k.mono fun m k => by
 show AY d aop 2 (eG p (exec p m) l) r h g (h1 :: h2 :: hs) (aop.run r g) = s
 rw [e]
 show (@Bool.rec (fun _ => RS) (.err 211) (eG p (exec p m) l (da d v r) h g (h1 :: h2 :: hs)) (@RV.rec (fun _ => Bool) (fun v' _ => @Bool.rec (fun _ => Bool) false (@RV.rec (fun _ => Bool) (fun v' _ => @Bool.rec (fun _ => Bool) false (gM aop r v hs 0) (same v v')) (fun _ => false) (aop.run r h2)) (same v v')) (fun _ => false) (aop.run r h1))) = s
 rw [e1, e2]
 show (@Bool.rec (fun _ => RS) (.err 211) (eG p (exec p m) l (da d v r) h g (h1 :: h2 :: hs)) (@Bool.rec (fun _ => Bool) false (@Bool.rec (fun _ => Bool) false (gM aop r v hs 0) (same v v)) (same v v))) = s
 rw [sv, Du]; exact k
theorem Ds.call (e : Cv p f (fL xs r) h v h') (k : Ds p l (da d v r) h' h' (g :: hs) s) : Ds p (.mk .ef (.o d (.call f xs)) :: l) r h g hs s := e.Ee k fun m e k => by
 show nd d (eG p (exec p m) l) r g hs (aw p (exec p m) f (fL xs r) h) = s
 rw [e]; exact k
theorem Ds.on (hb : az a b r = .bool w) (k : Ds p (.mk bk (.o d i) :: l) r h g hs s) : Ds p (.mk bk (.g a b w d i) :: l) r h g hs s := k.mono fun m k => by
 show AV.bB (gb w (az a b r)) (ES bk d i (eG p (exec p m) l) r h g hs p (exec p m) w) (.err 212) = s
 rw [hb, ← k]
 cases w <;> rfl
theorem Ds.eH {n : Nat} (hb : az a b r = .bool (!w)) (k : Ds p l (da d cm r) h g hs s) : Ds p (.mk (.rd n) (.g a b w d i) :: l) r h g hs s := k.mono fun m k => by
 show AV.bB (gb w (az a b r)) (ES (.rd n) d i (eG p (exec p m) l) r h g hs p (exec p m) w) (.err 212) = s
 rw [hb, ← k]
 cases w <;> rfl
theorem Ds.Sl (hb : az a b r = .bool (!w)) (k : Ds p l (da d cm r) h h (g :: hs) s) : Ds p (.mk .ef (.g a b w d i) :: l) r h g hs s := k.mono fun m k => by
 show AV.bB (gb w (az a b r)) (ES .ef d i (eG p (exec p m) l) r h g hs p (exec p m) w) (.err 212) = s
 rw [hb, ← k]
 cases w <;> rfl
theorem um (q : P4) : qc q q = true := jh.2 rfl
theorem EX (q : P4) (o : Nat) : tY (.ptr q o) (.ptr q o) = true := by
 show (Bool.and (qc q q) (Nat.beq o o)) = true
 rw [Nat.beq_refl, um]; rfl
theorem zE {es n : Nat} {q : P4} {o : Nat} (sl : zB x es n q o) : tY x x = true := by
 rcases sl with ⟨cap, rfl⟩ | rfl | ⟨rfl, _⟩
 ·show (Bool.and (qc q q) (Bool.and (Nat.beq o o) (Bool.and (Nat.beq n n) (Nat.beq cap cap)))) = true
  simp only [Nat.beq_refl, um]; rfl
 ·show (Bool.and (qc q q) (Bool.and (Nat.beq o o) (Bool.and (Nat.beq n n) (Nat.beq es es)))) = true
  simp only [Nat.beq_refl, um]; rfl
 ·rfl
theorem IL (q : P4) (o : Nat) : same (.ptr q o) (.ptr q o) = true := EX q o
end
end Go.Am
namespace Go.Cod
abbrev Bs := List UInt8
def le : Nat → Nat → Bs
 | 0, _ => []
 | k + 1, n => UInt8.ofNat n :: le k (n / 256)
def un : Bs → Nat
 | [] => 0
 | b :: l => b.toNat + 256 * un l
theorem bm : ∀ k n, (le k n).length = k
 | 0, _ => rfl
 | k + 1, n => by simp [le, bm k]
theorem Oo : ∀ k n, un (le k n) = n % 256 ^ k
 | 0, n => by simp [le, un, Nat.mod_one]
 | k + 1, n => by
  have h : (UInt8.ofNat n).toNat = n % 256 := by simp
  rw [le, un, Oo k, h, Nat.pow_succ, Nat.mul_comm (256 ^ k) 256, Nat.mod_mul]
theorem IM : ∀ l, un l < 256 ^ l.length
 | [] => by simp [un]
 | b :: l => by
  have h := IM l
  have hb := b.toNat_lt
  simp only [un, List.length_cons, Nat.pow_succ]
  omega
def u64 (n : Int) : Nat := (n % 18446744073709551616).toNat
def s64 (n : Nat) : Int := if n < 9223372036854775808 then n else (n : Int) - 18446744073709551616
theorem LZ {n : Int} (h0 : -9223372036854775808 ≤ n) (h1 : n ≤ 9223372036854775807) : s64 (u64 n) = n := by
 unfold s64 u64
 split <;> omega
def gF (n : Int) : Bs := le 8 (u64 n)
def text (s : Bs) : Bs := le 2 s.length ++ s
abbrev Rd := Option Bs
def take (k : Nat) : Rd → Bs × Rd
 | none => ([], none)
 | some l => if l.length < k then ([], none) else (l.take k, some (l.drop k))
def get (k : Nat) (r : Rd) : Nat × Rd := (un (take k r).1, (take k r).2)
def au (r : Rd) : Int × Rd := (s64 (get 8 r).1, (get 8 r).2)
def bQ (r : Rd) : Nat × Rd := get 1 r
def aJ (most : Nat) (r : Rd) : Bs × Rd :=
 let (n, r) := get 2 r
 match r with
 | none => ([], none)
 | some l => if n > most then ([], none) else take n (some l)
theorem zF {a l : Bs} : take a.length (some (a ++ l)) = (a, some l) := by
 unfold take
 simp
theorem EY {a l : Bs} {k : Nat} (h : a.length = k) : take k (some (a ++ l)) = (a, some l) := h ▸ zF
theorem BE (k n : Nat) (l : Bs) (h : n < 256 ^ k) : get k (some (le k n ++ l)) = (n, some l) := by
 unfold get
 rw [EY (bm k n)]
 simp only [Oo, Nat.mod_eq_of_lt h]
theorem dJ {n : Int} (l : Bs) (h0 : -9223372036854775808 ≤ n) (h1 : n ≤ 9223372036854775807) : au (some (gF n ++ l)) = (n, some l) := by
 unfold au gF
 have hu : u64 n < 256 ^ 8 := by unfold u64; omega
 rw [BE 8 _ l hu]
 simp only [LZ h0 h1]
theorem mq {n : Nat} (l : Bs) (h : n ≤ 255) : bQ (some (le 1 n ++ l)) = (n, some l) := BE 1 n l (by omega)
theorem eZ {s : Bs} {most : Nat} (l : Bs) (h : s.length ≤ most) (hm : s.length ≤ 65535) : aJ most (some (text s ++ l)) = (s, some l) := by
 unfold aJ text
 rw [List.append_assoc, BE 2 _ _ (by omega)]
 simp only
 rw [if_neg (by omega), zF]
structure mr where
 kind : Int
 n : Int
 s : Bs
deriving DecidableEq
structure oH where
 table : Bs
 row : List mr
 remove : Bool
deriving DecidableEq
structure oI where
 aA : Int
 seq : Int
 kind : Int
 name : Bs
 text : Bs
 bU : List (Bs × Int)
 changes : List oH
deriving DecidableEq
def small (n : Int) : Bool := decide (-2147483648 ≤ n) && decide (n ≤ 2147483647)
def short (s : Bs) : Bool := decide (s.length ≤ 65535)
def dx (n : Int) : Prop := -9223372036854775808 ≤ n ∧ n ≤ 9223372036854775807
def gh (v : mr) : Bool := small v.kind && short v.s
def kR (c : oH) : Bool := short c.table && decide (c.row.length ≤ 255) && c.row.all gh
def takes (e : oI) : Bool := small e.aA && small e.seq && small e.kind && short e.name && short e.text && decide (e.bU.length ≤ 255) && decide (e.changes.length ≤ 255) &&
 e.bU.all (fun c => short c.1 && small c.2) && e.changes.all kR
def mu (v : mr) : Bs := gF v.kind ++ gF v.n ++ Cod.text v.s
def mw (c : oH) : Bs := Cod.text c.table ++ le 1 c.row.length ++ c.row.flatMap mu ++ le 1 (if c.remove then 1 else 0)
def my (c : Bs × Int) : Bs := Cod.text c.1 ++ gF c.2
def enc (e : oI) : Bs := gF e.aA ++ gF e.seq ++ gF e.kind ++ Cod.text e.name ++ Cod.text e.text ++ le 1 e.bU.length ++ e.bU.flatMap my ++ le 1 e.changes.length ++ e.changes.flatMap mw
def many {α : Type} (f : Rd → α × Rd) : Nat → Rd → List α × Rd
 | 0, r => ([], r)
 | k + 1, r => let (a, r1) := f r; let (l, r2) := many f k r1; (a :: l, r2)
def kS (r : Rd) : mr × Rd :=
 let (k, r) := au r; let (n, r) := au r; let (s, r) := aJ 65535 r
 (⟨k, n, s⟩, r)
def mz (r : Rd) : oH × Rd :=
 let (t, r) := aJ 65535 r; let (k, r) := bQ r; let (row, r) := many kS k r; let (b, r) := bQ r
 (⟨t, row, decide (0 < b)⟩, r)
def uo (r : Rd) : (Bs × Int) × Rd := let (t, r) := aJ 65535 r; let (k, r) := au r; ((t, k), r)
def BF (r : Rd) : oI × Rd :=
 let (c, r) := au r; let (s, r) := au r; let (k, r) := au r; let (n, r) := aJ 65535 r; let (t, r) := aJ 65535 r
 let (a, r) := bQ r; let (bU, r) := many uo a r; let (b, r) := bQ r; let (ch, r) := many mz b r
 (⟨c, s, k, n, t, bU, ch⟩, r)
def dec (b : Bs) : Option oI :=
 let (e, r) := BF (some b)
 if r = some [] ∧ takes e = true ∧ enc e = b then some e else none
theorem mQ {α : Type} {f : Rd → α × Rd} {g : α → Bs} : ∀ (l : List α) (r : Bs), (∀ a, a ∈ l → ∀ r, f (some (g a ++ r)) = (a, some r)) → many f l.length (some (l.flatMap g ++ r)) = (l, some r)
 | [], r, _ => rfl
 | a :: l, r, h => by
  have e : (a :: l).flatMap g ++ r = g a ++ (l.flatMap g ++ r) := by simp
  rw [e]
  show (let (a, r1) := f _; let (l, r2) := many f l.length r1; (a :: l, r2)) = _
  rw [h a (by simp)]
  simp only
  rw [mQ l r fun b hb => h b (by simp [hb])]
theorem fF {n : Int} (h : small n = true) : -9223372036854775808 ≤ n ∧ n ≤ 9223372036854775807 := by
 unfold small at h
 simp only [Bool.and_eq_true, decide_eq_true_eq] at h
 omega
def fits (e : oI) : Prop := ∀ c, c ∈ e.changes → ∀ v, v ∈ c.row → dx v.n
theorem IP {v : mr} (h : gh v = true) (hn : dx v.n) (r : Bs) : kS (some (mu v ++ r)) = (v, some r) := by
 unfold gh short at h
 simp only [Bool.and_eq_true, decide_eq_true_eq] at h
 have hk := fF h.1
 unfold kS mu
 simp only [List.append_assoc]
 rw [dJ _ hk.1 hk.2]
 simp only
 rw [dJ _ hn.1 hn.2]
 simp only
 rw [eZ _ h.2 h.2]
theorem IQ {c : oH} (h : kR c = true) (hn : ∀ v, v ∈ c.row → dx v.n) (r : Bs) : mz (some (mw c ++ r)) = (c, some r) := by
 unfold kR short at h
 simp only [Bool.and_eq_true, decide_eq_true_eq, List.all_eq_true] at h
 obtain ⟨⟨h1, h2⟩, h3⟩ := h
 unfold mz mw
 simp only [List.append_assoc]
 rw [eZ _ h1 h1]
 simp only
 rw [mq _ h2]
 simp only
 rw [mQ c.row _ fun v hv r => IP (h3 v hv) (hn v hv) r]
 simp only
 cases hc : c.remove
 ·rw [if_neg (by simp), mq _ (by omega)]
  cases c; simp_all
 ·rw [if_pos rfl, mq _ (by omega)]
  cases c; simp_all
theorem IU {c : Bs × Int} (h : short c.1 = true) (hk : small c.2 = true) (r : Bs) : uo (some (my c ++ r)) = (c, some r) := by
 unfold short at h
 simp only [decide_eq_true_eq] at h
 have hk := fF hk
 unfold uo my
 simp only [List.append_assoc]
 rw [eZ _ h h]
 simp only
 rw [dJ _ hk.1 hk.2]
theorem IV {e : oI} (h : takes e = true) (hf : fits e) (r : Bs) : BF (some (enc e ++ r)) = (e, some r) := by
 unfold takes short at h
 simp only [Bool.and_eq_true, decide_eq_true_eq, List.all_eq_true] at h
 obtain ⟨⟨⟨⟨⟨⟨⟨⟨h1, h2⟩, h3⟩, h4⟩, h5⟩, h6⟩, h7⟩, h8⟩, h9⟩ := h
 have h1 := fF h1
 have h2 := fF h2
 have h3 := fF h3
 unfold BF enc
 simp only [List.append_assoc]
 rw [dJ _ h1.1 h1.2]
 simp only
 rw [dJ _ h2.1 h2.2]
 simp only
 rw [dJ _ h3.1 h3.2]
 simp only
 rw [eZ _ h4 h4]
 simp only
 rw [eZ _ h5 h5]
 simp only
 rw [mq _ h6]
 simp only
 rw [mQ e.bU _ fun c hc r => IU (by unfold short; simpa using (h8 c hc).1) (h8 c hc).2 r]
 simp only
 rw [mq _ h7]
 simp only
 rw [mQ e.changes _ fun c hc r => IQ (h9 c hc) (hf c hc) r]
theorem Ma {e : oI} (h : takes e = true) (hf : fits e) : dec (enc e) = some e := by
 unfold dec
 have := IV h hf []
 rw [List.append_nil] at this
 rw [this]
 simp [h]
end Go.Cod
namespace Go.Cod
structure pC where
 kind : Nat
 aA : Int
 node : Int
 n : Int
 name : Bs
 entry : oI
deriving DecidableEq
def iV (s : pC) : Bs := le 1 s.kind ++ gF s.aA ++ gF s.node ++ gF s.n ++ Cod.text s.name ++ Cod.text (enc s.entry)
def kT (s : pC) : Bool := decide (1 ≤ s.kind) && decide (s.kind ≤ 9) && small s.aA && small s.node && small s.n && decide (s.name.length ≤ 255) && takes s.entry && short (enc s.entry)
def lE (k : Nat) (r : Rd) : Option (pC × Bs) :=
 let (c, r) := au r; let (n, r) := au r; let (m, r) := au r; let (name, r) := aJ 255 r; let (t, r) := aJ 65535 r
 match dec t, r with
 | some e, some l => if small c && small n && small m then some (⟨k, c, n, m, name, e⟩, l) else none
 | _, _ => none
def more (g : Option (pC × Bs)) (k : Bs → List pC) : List pC := match g with
 | none => []
 | some (s, l') => s :: k l'
theorem vW (k : Bs → List pC) : more none k = [] := rfl
theorem mR (s : pC) (l : Bs) (k : Bs → List pC) : more (some (s, l)) k = s :: k l := rfl
def items : Nat → Nat → Bs → List pC
 | 0, _, _ => []
 | f + 1, room, l => match l with
  | [] => []
  | b :: l => if room = 0 then [] else if b.toNat < 1 ∨ 9 < b.toNat then items f room l else more (lE b.toNat (some l)) (items f (room - 1))
theorem mS (f room : Nat) : items f room [] = [] := by cases f <;> rfl
theorem iI (f room : Nat) (b : UInt8) (l : Bs) : items (f + 1) room (b :: l) = if room = 0 then [] else if b.toNat < 1 ∨ 9 < b.toNat then items f room l else more (lE b.toNat (some l)) (items f (room - 1)) := rfl
theorem zG {s : pC} (h : kT s = true) (hf : fits s.entry) (r : Bs) : ∃ l, iV s = UInt8.ofNat s.kind :: l ∧ lE s.kind (some (l ++ r)) = some (s, r) := by
 unfold kT short at h
 simp only [Bool.and_eq_true, decide_eq_true_eq] at h
 obtain ⟨⟨⟨⟨⟨⟨⟨h1, h2⟩, h3⟩, h4⟩, h5⟩, h6⟩, h7⟩, h8⟩ := h
 have k3 := fF h3
 have k4 := fF h4
 have k5 := fF h5
 refine ⟨gF s.aA ++ gF s.node ++ gF s.n ++ Cod.text s.name ++ Cod.text (enc s.entry), by simp [iV, le], ?_⟩
 unfold lE
 simp only [List.append_assoc]
 rw [dJ _ k3.1 k3.2]
 simp only
 rw [dJ _ k4.1 k4.2]
 simp only
 rw [dJ _ k5.1 k5.2]
 simp only
 rw [eZ _ h6 (by omega)]
 simp only
 rw [eZ _ h8 h8]
 simp only [Ma h7 hf, h3, h4, h5, Bool.and_self, if_true]
theorem uq {k : Nat} (h : k ≤ 9) : (UInt8.ofNat k).toNat = k := by
 simp
 omega
theorem qM : ∀ (l : List pC) (f room : Nat) (r : Bs), (∀ s, s ∈ l → kT s = true ∧ fits s.entry) → l.length ≤ room → l.length ≤ f → items f room (l.flatMap iV ++ r) = l ++ items (f - l.length) (room - l.length) r
 | [], _, _, _, _, _, _ => by simp
 | s :: l, f, room, r, h, hr, hf => by
  simp only [List.length_cons] at hr hf
  obtain ⟨f, rfl⟩ : ∃ g, f = g + 1 := ⟨f - 1, by omega⟩
  obtain ⟨h1, h2⟩ := h s (by simp)
  have hk : 1 ≤ s.kind ∧ s.kind ≤ 9 := by
   unfold kT at h1
   simp only [Bool.and_eq_true, decide_eq_true_eq] at h1
   exact ⟨h1.1.1.1.1.1.1.1, h1.1.1.1.1.1.1.2⟩
  obtain ⟨a, e1, e2⟩ := zG h1 h2 (l.flatMap iV ++ r)
  have e : (s :: l).flatMap iV ++ r = UInt8.ofNat s.kind :: (a ++ (l.flatMap iV ++ r)) := by
   simp [e1]
  rw [e, iI, if_neg (by omega), uq hk.2, if_neg (by omega), e2, mR]
  rw [qM l f (room - 1) r (fun s hs => h s (by simp [hs])) (by omega) (by omega)]
  simp only [List.length_cons, List.cons_append]
  rw [show f + 1 - (l.length + 1) = f - l.length by omega, show room - 1 - l.length = room - (l.length + 1) by omega]
theorem zH {k : Nat} {l r a m : Bs} (h : take k (some l) = (a, some r)) : take k (some (l ++ m)) = (a, some (r ++ m)) := by
 unfold take at h ⊢
 simp only at h ⊢
 split at h
 ·cases h
 ·rename_i hk
  cases h
  rw [if_neg (by simp; omega), List.take_append_of_le_length (by omega), List.drop_append_of_le_length (by omega)]
theorem Dv {k n : Nat} {l r m : Bs} (h : get k (some l) = (n, some r)) : get k (some (l ++ m)) = (n, some (r ++ m)) := by
 unfold get at h ⊢
 obtain ⟨h1, h2⟩ := Prod.mk.inj h
 have := zH (k := k) (l := l) (r := r) (a := (take k (some l)).1) (m := m) (by rw [← h2])
 rw [this, ← h1]
theorem qN {n : Int} {l r m : Bs} (h : au (some l) = (n, some r)) : au (some (l ++ m)) = (n, some (r ++ m)) := by
 unfold au at h ⊢
 obtain ⟨h1, h2⟩ := Prod.mk.inj h
 have := Dv (k := 8) (l := l) (r := r) (n := (get 8 (some l)).1) (m := m) (by rw [← h2])
 rw [this, ← h1]
theorem vX {most : Nat} {s l r m : Bs} (h : aJ most (some l) = (s, some r)) : aJ most (some (l ++ m)) = (s, some (r ++ m)) := by
 unfold aJ at h ⊢
 cases hg : get 2 (some l) with
 | mk n q =>
  rw [hg] at h
  cases q with
  | none => cases h
  | some q =>
   rw [Dv hg]
   simp only at h ⊢
   split at h
   ·cases h
   ·rename_i hk
    rw [if_neg hk, zH h]
theorem get_none (k : Nat) : get k none = (0, none) := rfl
theorem ur : au none = (0, none) := by unfold au; rw [get_none]; simp [s64]
theorem kU (k : Nat) : aJ k none = ([], none) := by unfold aJ; rw [get_none]
theorem IW {k : Nat} {s : pC} {l r m : Bs} (h : lE k (some l) = some (s, r)) : lE k (some (l ++ m)) = some (s, r ++ m) := by
 unfold lE at h ⊢
 simp only at h ⊢
 cases h1 : au (some l) with
 | mk c r1 =>
 rw [h1] at h
 cases r1 with
 | none => simp [ur, kU] at h
 | some r1 =>
 simp only at h
 rw [qN h1]
 simp only
 cases h2 : au (some r1) with
 | mk n r2 =>
 rw [h2] at h
 cases r2 with
 | none => simp [ur, kU] at h
 | some r2 =>
 simp only at h
 rw [qN h2]
 simp only
 cases h3 : au (some r2) with
 | mk o r3 =>
 rw [h3] at h
 cases r3 with
 | none => simp [kU] at h
 | some r3 =>
 simp only at h
 rw [qN h3]
 simp only
 cases h4 : aJ 255 (some r3) with
 | mk nm r4 =>
 rw [h4] at h
 cases r4 with
 | none => simp [kU] at h
 | some r4 =>
 simp only at h
 rw [vX h4]
 simp only
 cases h5 : aJ 65535 (some r4) with
 | mk t r5 =>
 rw [h5] at h
 cases r5 with
 | none => simp only at h; revert h; cases dec t <;> simp
 | some r5 =>
 simp only at h
 rw [vX h5]
 simp only
 cases hd : dec t with
 | none => rw [hd] at h; simp at h
 | some e =>
  rw [hd] at h
  simp only at h ⊢
  split at h
  ·rename_i hc
   rw [if_pos hc]
   obtain ⟨h6, h7⟩ := Prod.mk.inj (Option.some.inj h)
   rw [h6, h7]
  ·cases h
theorem vY : ∀ (l : List pC) (f room c : Nat), (∀ s, s ∈ l → kT s = true ∧ fits s.entry) → l.length ≤ room → l.length < f → ∃ k, k ≤ l.length ∧ items f room ((l.flatMap iV).take c) = l.take k
 | [], f, room, c, _, _, hf => ⟨0, by simp, by
  obtain ⟨f, rfl⟩ : ∃ g, f = g + 1 := ⟨f - 1, by simp at hf; omega⟩
  simp [mS]⟩
 | s :: l, f, room, c, h, hr, hf => by
  simp only [List.length_cons] at hr hf
  obtain ⟨f, rfl⟩ : ∃ g, f = g + 1 := ⟨f - 1, by omega⟩
  obtain ⟨h1, h2⟩ := h s (by simp)
  have hk : 1 ≤ s.kind ∧ s.kind ≤ 9 := by
   unfold kT at h1
   simp only [Bool.and_eq_true, decide_eq_true_eq] at h1
   exact ⟨h1.1.1.1.1.1.1.1, h1.1.1.1.1.1.1.2⟩
  by_cases hc : (iV s).length ≤ c
  ·obtain ⟨k, g1, g2⟩ := vY l f (room - 1) (c - (iV s).length) (fun s hs => h s (by simp [hs])) (by omega) (by omega)
   refine ⟨k + 1, by simp; omega, ?_⟩
   have e : ((s :: l).flatMap iV).take c = [s].flatMap iV ++ (l.flatMap iV).take (c - (iV s).length) := by
    simp [List.take_append, List.take_of_length_le hc]
   rw [e, qM [s] (f + 1) room _ (fun t ht => by simp at ht; rw [ht]; exact ⟨h1, h2⟩) (by simp; omega) (by simp)]
   simp only [List.length_singleton, Nat.add_sub_cancel, g2]
   rfl
  ·refine ⟨0, by omega, ?_⟩
   have e : ((s :: l).flatMap iV).take c = (iV s).take c := by
    simp [List.take_append_of_le_length (show c ≤ (iV s).length by omega)]
   rw [e]
   obtain ⟨a, e1, e2⟩ := zG h1 h2 []
   rw [List.append_nil] at e2
   rw [e1] at hc ⊢
   cases c with
   | zero => simp [mS]
   | succ c =>
    rw [List.take_succ_cons, iI, if_neg (by omega), uq hk.2, if_neg (by omega)]
    cases hg : lE s.kind (some (a.take c)) with
    | none => rw [vW]; simp
    | some q =>
     obtain ⟨s', r⟩ := q
     have := IW (m := a.drop c) hg
     rw [List.take_append_drop, e2] at this
     have h3 := (Prod.mk.inj (Option.some.inj this)).2
     have h4 : (r ++ a.drop c).length = 0 := by rw [← h3]; rfl
     simp only [List.length_append, List.length_drop, List.length_cons] at h4 hc
     omega
end Go.Cod
namespace Go.Cod
structure lF where
 kind : Int
 aA : Int
 node : Int
 n : Int
 name : Bs
 entry : oI
deriving DecidableEq
def gX (k : Int) : Int := if k < -1000 ∨ 1000 < k then 0 else k
def uY (v : mr) : mr := ⟨gX v.kind, v.n, v.s.take 41⟩
def oy (c : oH) : oH := ⟨c.table.take 20, (c.row.take 7).map uY, c.remove⟩
def bW (e : oI) : oI := ⟨e.aA, e.seq, e.kind, e.name.take 20, e.text.take 700, ((e.bU.take 8).takeWhile fun c => decide (c.1.length ≤ 20)).map fun c => (c.1, gX c.2), (e.changes.take 9).map oy⟩
def en (s : lF) : lF := { s with entry := bW s.entry }
def eo (s : lF) : Bool := small s.aA && small s.node && small s.n && (decide (1 ≤ s.kind) && decide (s.kind ≤ 9) && decide (s.name.length ≤ 255) && takes s.entry)
def gO (s : lF) : Bs := le 1 (u64 s.kind) ++ (gF s.aA ++ (gF s.node ++ (gF s.n ++ (Cod.text s.name ++ Cod.text (enc s.entry)))))
theorem BG (k : Int) : small (gX k) = true := by
 unfold gX small
 split <;> simp <;> omega
theorem nL {α : Type} {p : α → Bool} : ∀ {l : List α} {a : α}, a ∈ l.takeWhile p → p a = true
 | [], _, h => by simp at h
 | b :: l, a, h => by
  rw [List.takeWhile_cons] at h
  split at h
  ·rename_i hb
   rcases List.mem_cons.1 h with rfl | h
   ·exact hb
   ·exact nL h
  ·simp at h
theorem aK (n : Int) : (gF n).length = 8 := bm 8 _
theorem aL (s : Bs) : (Cod.text s).length = 2 + s.length := by unfold Cod.text; simp [bm]
theorem uu {α : Type} {f : α → Bs} {k : Nat} : ∀ {l : List α}, (∀ a, a ∈ l → (f a).length ≤ k) → (l.flatMap f).length ≤ l.length * k
 | [], _ => by simp
 | a :: l, h => by
  have h1 := h a (by simp)
  have h2 := uu (l := l) fun b hb => h b (by simp [hb])
  simp only [List.flatMap_cons, List.length_append, List.length_cons, Nat.add_mul]
  omega
theorem EZ (e : oI) : (enc (bW e)).length ≤ 65535 := by
 have h5 : (bW e).bU.length ≤ 8 := by
  unfold bW
  simp only [List.length_map]
  exact Nat.le_trans (List.takeWhile_sublist _).length_le (by simp; omega)
 have h6 : (bW e).changes.length ≤ 9 := by
  unfold bW
  simp only [List.length_map, List.length_take]
  omega
 have h7 : (bW e).name.length ≤ 20 ∧ (bW e).text.length ≤ 700 := by
  unfold bW
  simp only [List.length_take]
  omega
 have c1 : ((bW e).bU.flatMap my).length ≤ (bW e).bU.length * 30 := uu fun c hc => by
  unfold bW at hc
  simp only [List.mem_map] at hc
  obtain ⟨x, hx, rfl⟩ := hc
  have := nL hx
  simp only [decide_eq_true_eq] at this
  unfold my
  simp only [List.length_append, aL, aK]
  omega
 have c2 : ((bW e).changes.flatMap mw).length ≤ (bW e).changes.length * 500 := uu fun c hc => by
  unfold bW at hc
  simp only [List.mem_map] at hc
  obtain ⟨x, _, rfl⟩ := hc
  have h1 : ((oy x).row.flatMap mu).length ≤ (oy x).row.length * 59 := uu fun v hv => by
   unfold oy at hv
   simp only [List.mem_map] at hv
   obtain ⟨y, _, rfl⟩ := hv
   unfold mu uY
   simp only [List.length_append, aL, aK, List.length_take]
   omega
  have h2 : (oy x).row.length ≤ 7 := by unfold oy; simp; omega
  have h3 : (oy x).table.length ≤ 20 := by unfold oy; simp; omega
  unfold mw
  simp only [List.length_append, aL, bm]
  omega
 unfold enc
 simp only [List.length_append, aL, aK, bm]
 omega
end Go.Cod
namespace Go.Cod
def FQ {α : Type} (f : Rd → α × Rd) (g : α → Nat) : Prop := ∀ r a l', f r = (a, some l') → ∃ l, r = some l ∧ g a + l'.length = l.length
theorem FQ.at {α : Type} {f : Rd → α × Rd} {g : α → Nat} (c : FQ f g) {r : Rd} {l' : Bs} (h : (f r).2 = some l') : ∃ l, r = some l ∧ g (f r).1 + l'.length = l.length := c r (f r).1 l' (Prod.ext rfl h)
theorem zI (k : Nat) (r : Rd) (a : Bs) (l' : Bs) (h : take k r = (a, some l')) : ∃ l, r = some l ∧ a.length = k ∧ k + l'.length = l.length := by
 unfold take at h
 cases r with
 | none => cases h
 | some l =>
  simp only at h
  split at h
  ·cases h
  ·rename_i hk
   cases h
   exact ⟨l, rfl, by simp; omega, by simp; omega⟩
theorem xH (k : Nat) : FQ (get k) fun _ => k := fun r a l' h => by
 have h : ((un (take k r).1, (take k r).2) : Nat × Rd) = (a, some l') := h
 obtain ⟨l, e, _, n⟩ := zI k r (take k r).1 l' (Prod.ext rfl (show (take k r).2 = some l' from congrArg Prod.snd h))
 exact ⟨l, e, n⟩
theorem fG : FQ au fun _ => 8 := fun r a l' h => xH 8 r (get 8 r).1 l' (Prod.ext rfl (show (get 8 r).2 = some l' from congrArg Prod.snd h))
theorem pD : FQ bQ fun _ => 1 := xH 1
theorem iJ (most : Nat) : FQ (aJ most) fun s => 2 + s.length := fun r a l' h => by
 unfold aJ at h
 cases hg : get 2 r with
 | mk n r1 =>
  rw [hg] at h
  cases r1 with
  | none => cases h
  | some l1 =>
   simp only at h
   split at h
   ·cases h
   ·obtain ⟨l2, e2, n1, n2⟩ := zI n _ _ _ h
    cases e2
    obtain ⟨l, e, n3⟩ := xH 2 r n l1 hg
    exact ⟨l, e, by simp only at n3 ⊢; omega⟩
theorem pE {α : Type} {f : Rd → α × Rd} {g : α → Bs} (c : FQ f fun a => (g a).length) : ∀ k, FQ (many f k) fun l => (l.flatMap g).length
 | 0, r, a, l', h => by cases h; exact ⟨l', rfl, by simp⟩
 | k + 1, r, a, l', h => by
  have h2 : (many f k (f r).2).2 = some l' := congrArg Prod.snd h
  have h1 : a = (f r).1 :: (many f k (f r).2).1 := (congrArg Prod.fst h).symm
  obtain ⟨l1, e1, n1⟩ := (pE c k).at h2
  obtain ⟨l, e, n⟩ := c.at e1
  refine ⟨l, e, ?_⟩
  subst h1
  simp only [List.flatMap_cons, List.length_append] at n1 n ⊢
  omega
theorem Mb : FQ kS fun v => (mu v).length := fun r v l' h => by
 have h2 : (aJ 65535 (au (au r).2).2).2 = some l' := congrArg Prod.snd h
 have h1 : v = ⟨(au r).1, (au (au r).2).1, (aJ 65535 (au (au r).2).2).1⟩ := (congrArg Prod.fst h).symm
 obtain ⟨l3, e3, n3⟩ := (iJ 65535).at h2
 obtain ⟨l2, e2, n2⟩ := fG.at e3
 obtain ⟨l1, e1, n1⟩ := fG.at e2
 refine ⟨l1, e1, ?_⟩
 subst h1
 unfold mu
 simp only at *
 simp only [List.length_append, aK, aL]
 omega
theorem Mc : FQ uo fun c => (my c).length := fun r c l' h => by
 have h2 : (au (aJ 65535 r).2).2 = some l' := congrArg Prod.snd h
 have h1 : c = ((aJ 65535 r).1, (au (aJ 65535 r).2).1) := (congrArg Prod.fst h).symm
 obtain ⟨l2, e2, n2⟩ := fG.at h2
 obtain ⟨l1, e1, n1⟩ := (iJ 65535).at e2
 refine ⟨l1, e1, ?_⟩
 subst h1
 unfold my
 simp only at *
 simp only [List.length_append, aK, aL]
 omega
theorem Md : FQ mz fun c => (mw c).length := fun r c l' h => by
 have h2 : (bQ (many kS (bQ (aJ 65535 r).2).1 (bQ (aJ 65535 r).2).2).2).2 = some l' := congrArg Prod.snd h
 have h1 : c = ⟨(aJ 65535 r).1, (many kS (bQ (aJ 65535 r).2).1 (bQ (aJ 65535 r).2).2).1, decide (0 < (bQ (many kS (bQ (aJ 65535 r).2).1 (bQ (aJ 65535 r).2).2).2).1)⟩ := (congrArg Prod.fst h).symm
 obtain ⟨l4, e4, n4⟩ := pD.at h2
 obtain ⟨l3, e3, n3⟩ := (pE Mb _).at e4
 obtain ⟨l2, e2, n2⟩ := pD.at e3
 obtain ⟨l1, e1, n1⟩ := (iJ 65535).at e2
 refine ⟨l1, e1, ?_⟩
 subst h1
 unfold mw
 simp only at *
 simp only [List.length_append, aL, bm]
 omega
theorem xI (r : Rd) : BF r = let r1 := au r; let r2 := au r1.2; let r3 := au r2.2; let r4 := aJ 65535 r3.2; let r5 := aJ 65535 r4.2; let r6 := bQ r5.2; let r7 := many uo r6.1 r6.2; let r8 := bQ r7.2; let r9 := many mz r8.1 r8.2
  (⟨r1.1, r2.1, r3.1, r4.1, r5.1, r7.1, r9.1⟩, r9.2) := rfl
theorem Me : FQ BF fun e => (enc e).length := fun r e l' h => by
 rw [xI] at h
 have h1 := (congrArg Prod.fst h).symm
 have h2 := congrArg Prod.snd h
 simp only at h1 h2
 obtain ⟨l9, e9, n9⟩ := (pE Md _).at h2
 obtain ⟨l8, e8, n8⟩ := pD.at e9
 obtain ⟨l7, e7, n7⟩ := (pE Mc _).at e8
 obtain ⟨l6, e6, n6⟩ := pD.at e7
 obtain ⟨l5, e5, n5⟩ := (iJ 65535).at e6
 obtain ⟨l4, e4, n4⟩ := (iJ 65535).at e5
 obtain ⟨l3, e3, n3⟩ := fG.at e4
 obtain ⟨l2, e2, n2⟩ := fG.at e3
 obtain ⟨l1, e1, n1⟩ := fG.at e2
 refine ⟨l1, e1, ?_⟩
 subst h1
 unfold enc
 simp only [List.length_append, aK, aL, bm]
 omega
theorem PT {n : Nat} (h : n < 18446744073709551616) : dx (s64 n) := by
 unfold s64 dx
 split <;> omega
theorem uv (k : Nat) (r : Rd) : (take k r).1.length ≤ k := by
 unfold take
 cases r with
 | none => simp
 | some l =>
  simp only
  split
  ·simp
  ·simp; omega
theorem gP (k : Nat) (r : Rd) : (get k r).1 < 256 ^ k := by
 unfold get
 exact Nat.lt_of_lt_of_le (IM _) (Nat.pow_le_pow_right (by omega) (uv k r))
theorem mT (r : Rd) : dx (au r).1 := PT (gP 8 r)
theorem mU (most : Nat) (r : Rd) : (aJ most r).1.length ≤ 65535 := by
 unfold aJ
 have hl := gP 2 r
 cases hg : get 2 r with
 | mk n r1 =>
  rw [hg] at hl
  cases r1 with
  | none => simp
  | some l =>
   simp only
   split
   ·simp
   ·have := uv n (some l)
    simp only at hl
    omega
theorem pF {α : Type} {f : Rd → α × Rd} {P : α → Prop} (g : ∀ r, P (f r).1) : ∀ (k : Nat) (r : Rd) (a : α), a ∈ (many f k r).1 → P a
 | 0, _, _, h => by cases h
 | k + 1, r, a, h => by
  have h : a ∈ (f r).1 :: (many f k (f r).2).1 := h
  rcases List.mem_cons.1 h with rfl | h
  ·exact g r
  ·exact pF g k _ a h
theorem iK {α : Type} {f : Rd → α × Rd} : ∀ (i : Nat) (r : Rd), (many f i r).1.length = i
 | 0, _ => rfl
 | i + 1, r => by
  show (many f i (f r).2).1.length + 1 = _
  rw [iK i]
theorem pG {α : Type} {f : Rd → α × Rd} : ∀ (i : Nat) (r : Rd), many f (i + 1) r = ((many f i r).1 ++ [(f (many f i r).2).1], (f (many f i r).2).2)
 | 0, r => rfl
 | i + 1, r => by
  have e := pG (f := f) i (f r).2
  show ((f r).1 :: (many f (i + 1) (f r).2).1, (many f (i + 1) (f r).2).2) = _
  rw [e]; rfl
theorem zJ {k : Nat} {r : Rd} {st : pC} {l2 : Bs} (h : lE k r = some (st, l2)) : ∃ l, r = some l ∧ l2.length ≤ l.length := by
 have h : (match dec (aJ 65535 (aJ 255 (au (au (au r).2).2).2).2).1, (aJ 65535 (aJ 255 (au (au (au r).2).2).2).2).2 with
  | some e, some l => if small (au r).1 && small (au (au r).2).1 && small (au (au (au r).2).2).1 then some ((⟨k, (au r).1, (au (au r).2).1, (au (au (au r).2).2).1, (aJ 255 (au (au (au r).2).2).2).1, e⟩ : pC), l) else none
  | _, _ => none) = some (st, l2) := h
 cases hd : dec (aJ 65535 (aJ 255 (au (au (au r).2).2).2).2).1 with
 | none => rw [hd] at h; cases h
 | some e =>
  cases hr : (aJ 65535 (aJ 255 (au (au (au r).2).2).2).2).2 with
  | none => rw [hd, hr] at h; cases h
  | some l5 =>
   rw [hd, hr] at h
   simp only at h
   split at h
   ·have e2 : l5 = l2 := (Prod.mk.inj (Option.some.inj h)).2
    subst e2
    obtain ⟨l4, e4, n4⟩ := (iJ 65535).at hr
    obtain ⟨l3, e3, n3⟩ := (iJ 255).at e4
    obtain ⟨l2, e2, n2⟩ := fG.at e3
    obtain ⟨l1, e1, n1⟩ := fG.at e2
    obtain ⟨l0, e0, n0⟩ := fG.at e1
    exact ⟨l0, e0, by omega⟩
   ·cases h
theorem oz : ∀ (f f' room : Nat) (l : Bs), l.length < f → l.length < f' → items f room l = items f' room l
 | 0, _, _, _, h, _ => by omega
 | _ + 1, 0, _, _, _, h => by omega
 | f + 1, f' + 1, room, [], _, _ => rfl
 | f + 1, f' + 1, room, b :: l, h, h' => by
  simp only [List.length_cons] at h h'
  rw [iI, iI]
  split
  ·rfl
  ·split
   ·exact oz f f' room l (by omega) (by omega)
   ·cases hg : lE b.toNat (some l) with
    | none => rfl
    | some z =>
     obtain ⟨st, l2⟩ := z
     obtain ⟨l0, e0, e1⟩ := zJ hg
     cases e0
     rw [mR, mR, oz f f' (room - 1) l2 (by omega) (by omega)]
def Fa (s : lF) : pC := ⟨s.kind.toNat, s.aA, s.node, s.n, s.name, s.entry⟩
theorem qO {s : lF} (h : eo s = true) : 1 ≤ s.kind ∧ s.kind ≤ 9 := by
 unfold eo at h
 simp only [Bool.and_eq_true, decide_eq_true_eq] at h
 exact ⟨h.2.1.1.1, h.2.1.1.2⟩
theorem Mf {s : lF} (h : eo s = true) : iV (Fa s) = gO s := by
 have hk := qO h
 have e : u64 s.kind = s.kind.toNat := by unfold u64; omega
 unfold iV gO Fa
 simp only [e, List.append_assoc]
theorem Fb {s : lF} (h : eo s = true) (he : (enc s.entry).length ≤ 65535) : kT (Fa s) = true := by
 have hk := qO h
 unfold eo at h
 simp only [Bool.and_eq_true, decide_eq_true_eq] at h
 unfold kT Fa short
 simp only [Bool.and_eq_true, decide_eq_true_eq]
 refine ⟨⟨⟨⟨⟨⟨⟨by omega, by omega⟩, h.1.1.1⟩, h.1.1.2⟩, h.1.2⟩, h.2.1.2⟩, h.2.2⟩, he⟩
theorem pH : ∀ {l : List lF}, (∀ s, s ∈ l → eo s = true) → (l.map Fa).flatMap iV = l.flatMap gO
 | [], _ => rfl
 | a :: l, h => by
  simp only [List.map_cons, List.flatMap_cons]
  rw [Mf (h a (by simp)), pH fun s hs => h s (by simp [hs])]
end Go.Cod
namespace Go.Am
open Go.Cod
noncomputable section
def cY {α : Type} (h : Hp) (es : Nat) (f : List AV → α → Prop) (x : AV) (xs : List α) : Prop :=
 ∃ q o, ((∃ cap, xs.length ≤ cap ∧ x = .slice q o xs.length cap) ∨ x = .eR q o xs.length es ∨ (x = .ai ∧ xs = [])) ∧ ∀ i (hi : i < xs.length), ∃ l, l.length = es ∧ Cs h q (o + i * es) l ∧ f l xs[i]
abbrev bz (s : Bs) : AV := .str (s.map UInt8.toNat)
abbrev i64 (n : Int) : AV := .int .i64 n
def iW (v : mr) : List AV := [i64 v.kind, i64 v.n, bz v.s]
def dQ (h : Hp) (x : AV) (r : List mr) : Prop := cY h 3 (fun l v => l = iW v) x r
def uZ (x : AV) (c : oH) : List AV := [bz c.table, x, .bool c.remove]
def gG (h : Hp) (l : List AV) (c : oH) : Prop := ∃ x, l = uZ x c ∧ dQ h x c.row
def bE (h : Hp) (x : AV) (l : List oH) : Prop := cY h 3 (gG h) x l
def aQ (h : Hp) (x : AV) (l : List (Bs × Int)) : Prop := cY h 2 (fun l c => l = [bz c.1, i64 c.2]) x l
def cX (x y : AV) (e : oI) : List AV := [i64 e.aA, i64 e.seq, i64 e.kind, bz e.name, bz e.text, x, y]
def vZ (h : Hp) (l : List AV) (e : oI) : Prop := ∃ x y, l = cX x y e ∧ aQ h x e.bU ∧ bE h y e.changes
def fQ (x y : AV) (s : lF) : List AV := [i64 s.kind, i64 s.aA, i64 s.node, i64 s.n, bz s.name] ++ cX x y s.entry
def dy (h : Hp) (l : List AV) (s : lF) : Prop := ∃ x y, l = fQ x y s ∧ aQ h x s.entry.bU ∧ bE h y s.entry.changes
def bX (h : Hp) (x : AV) (l : List lF) : Prop := cY h 12 (dy h) x l
def eu (P : Program) (t : TypeId) : Option (List TypeId) := match P.underlying t with
 | some (.struct fs) => some (fs.toList.map (·.type))
 | _ => none
def ig (P : Program) (t : TypeId) : Option (TypeId × Nat) := match P.underlying t with
 | some (.slice e) => some (e, P.cellsOf e)
 | _ => none
section
variable {H : Type} {P : Program} {h : Hp} {rec : TypeId → List AV → DataW H → Prop} {t : TypeId} {cs : List AV} {d : DataW H}
inductive FR (rec : TypeId → List AV → DataW H → Prop) : List TypeId → List (List AV) → List (DataW H) → Prop
 | nil : FR rec [] [] []
 | cons (t : TypeId) (l : List AV) (p : DataW H) (ts : List TypeId) (ls : List (List AV)) (ps : List (DataW H)) : rec t l p → FR rec ts ls ps → FR rec (t :: ts) (l :: ls) (p :: ps)
theorem FR.of : ∀ {ts : List TypeId} {ls : List (List AV)} {ps : List (DataW H)}, ls.length = ts.length → ps.length = ts.length → (∀ (i : Nat) (t : TypeId), ts[i]? = some t → ∃ l p, ls[i]? = some l ∧ ps[i]? = some p ∧ rec t l p) → FR rec ts ls ps
 | [], [], [], _, _, _ => .nil
 | t :: ts, l :: ls, p :: ps, h1, h2, g => by
  obtain ⟨l', p', e1, e2, e3⟩ := g 0 t rfl
  simp at e1 e2
  subst e1 e2
  exact .cons t l p ts ls ps e3 (FR.of (by simpa using h1) (by simpa using h2) fun i u hu => by simpa using g (i + 1) u (by simpa using hu))
 | [], _ :: _, _, h1, _, _ => by simp at h1
 | [], [], _ :: _, _, h2, _ => by simp at h2
 | _ :: _, [], _, h1, _, _ => by simp at h1
 | _ :: _, _ :: _, [], _, h2, _ => by simp at h2
theorem FR.inv {ts : List TypeId} {ls : List (List AV)} {ps : List (DataW H)} (a : FR rec (t :: ts) ls ps) : ∃ l ls' p ps', ls = l :: ls' ∧ ps = p :: ps' ∧ rec t l p ∧ FR rec ts ls' ps' := by
 cases a with | cons _ l p _ ls ps h1 h2 => exact ⟨l, ls, p, ps, rfl, rfl, h1, h2⟩
theorem FR.none {ls : List (List AV)} {ps : List (DataW H)} (a : FR rec [] ls ps) : ls = [] ∧ ps = [] := by cases a; exact ⟨rfl, rfl⟩
theorem fV.struct {ts : List TypeId} (hs : eu P t = some ts) (r : fV P h rec t cs d) : ∃ ls ps, cs = ls.flatten ∧ d = .agg ps ∧ FR rec ts ls ps := by
 unfold eu at hs
 unfold fV at r
 split at hs
 ·rename_i fs hu
  rw [hu] at r
  obtain ⟨ps, ls, e1, e2, e3, e4, g⟩ := r
  cases hs
  refine ⟨ls, ps, e1, e2, .of (by simp [e4]) (by simp [e3]) fun i t ht => ?_⟩
  simp only [List.getElem?_map, Option.map_eq_some_iff] at ht
  obtain ⟨f, hf, rfl⟩ := ht
  obtain ⟨l, p, a, b, _, c⟩ := g i f (by simpa using hf)
  exact ⟨l, p, a, b, c⟩
 ·cases hs
theorem fV.int {k : IntKind} (hu : P.underlying t = some (.int k)) (r : fV P h rec t cs d) : ∃ z, cs = [.int k z] ∧ d = .lit (.int k z) ∧ (Lit.int k z).wf = true := by
 unfold fV at r
 rw [hu] at r
 exact r
theorem fV.str (hu : P.underlying t = some .string) (r : fV P h rec t cs d) : ∃ s : List UInt8, cs = [bz s] ∧ d = .lit (.string s) := by
 unfold fV at r
 rw [hu] at r
 exact r
theorem fV.bool (hu : P.underlying t = some .bool) (r : fV P h rec t cs d) : ∃ b, cs = [.bool b] ∧ d = .lit (.bool b) := by
 unfold fV at r
 rw [hu] at r
 exact r
structure nk (bk : DataW H → Nat) (bkA : List (DataW H) → Nat) : Prop where
 str : ∀ b, bk (.lit (.string b)) = b.length + 1
 slice : ∀ e s, bk (.slice e s) = bkA e + bkA s + 1
 agg : ∀ p, bk (.agg p) = bkA p + 1
 nil : bkA [] = 0
 cons : ∀ d r, bkA (d :: r) = bk d + bkA r
 pos : ∀ d, 1 ≤ bk d
variable {bk : DataW H → Nat} {bkA : List (DataW H) → Nat}
theorem nk.len (K : nk bk bkA) : ∀ l : List (DataW H), l.length ≤ bkA l
 | [] => by simp
 | d :: l => by
  have := K.len l
  have := K.pos d
  rw [K.cons]
  simp
  omega
theorem nk.mem (K : nk bk bkA) {d : DataW H} : ∀ {l : List (DataW H)}, d ∈ l → bk d ≤ bkA l
 | e :: l, hm => by
  rw [K.cons]
  rcases List.mem_cons.1 hm with rfl | hm
  ·omega
  ·have := K.mem hm
   omega
theorem fV.slice (K : nk bk bkA) {α : Type} {f : List AV → α → Prop} {Q : α → Prop} {e : TypeId} {es B : Nat} (hs : ig P t = some (e, es)) (r : fV P h rec t cs d) (hB : bk d ≤ B)
  (g : ∀ l d, rec e l d → bk d ≤ B → ∃ a, f l a ∧ Q a) : ∃ x xs, cs = [x] ∧ cY h es f x xs ∧ xs.length ≤ B ∧ ∀ a, a ∈ xs → Q a := by
 unfold ig at hs
 unfold fV at r
 split at hs
 ·rename_i e' hu
  rw [hu] at r
  cases hs
  rcases r with ⟨rfl, rfl⟩ | ⟨p, cap, elems, rest, ls, rfl, hcap, rfl, hl, hr⟩
  ·exact ⟨.ai, [], rfl, ⟨.eI 0 0, 0, .inr (.inr ⟨rfl, rfl⟩), fun i hi => by simp at hi⟩, by simp, fun a ha => by simp at ha⟩
  ·have hel := K.len elems
   rw [K.slice] at hB
   have mk : ∀ (k : Nat), k ≤ elems.length → ∃ xs : List α, xs.length = k ∧ (∀ i (hi : i < xs.length), ∃ l, l.length = P.cellsOf e ∧ Cs h p (i * P.cellsOf e) l ∧ f l xs[i]) ∧ ∀ a, a ∈ xs → Q a := by
    intro k
    induction k with
    | zero => exact fun _ => ⟨[], rfl, fun i hi => by simp at hi, fun a ha => by simp at ha⟩
    | succ k ih =>
     intro hk
     obtain ⟨xs, e1, e2, e3⟩ := ih (by omega)
     obtain ⟨c1, c2, c3⟩ := hr k (by omega) (by omega)
     have hm := K.mem (List.getElem_mem (show k < elems.length by omega))
     obtain ⟨a, ha, hq⟩ := g _ _ c3 (by omega)
     refine ⟨xs ++ [a], by simp [e1], fun i hi => ?_, fun b hb => ?_⟩
     ·by_cases hik : i < xs.length
      ·obtain ⟨l, l1, l2, l3⟩ := e2 i hik
       exact ⟨l, l1, l2, by rw [List.getElem_append_left hik]; exact l3⟩
      ·have : i = k := by simp [e1] at hi; omega
       subst this
       refine ⟨_, c2, c1, ?_⟩
       rw [List.getElem_append_right (by omega)]
       simp only [e1, Nat.sub_self, List.getElem_cons_zero]
       exact ha
     ·rcases List.mem_append.1 hb with hb | hb
      ·exact e3 b hb
      ·simp at hb
       rw [hb]; exact hq
   obtain ⟨xs, e1, e2, e3⟩ := mk elems.length (Nat.le_refl _)
   refine ⟨_, xs, rfl, ⟨p, 0, .inl ⟨cap, by omega, by rw [e1]⟩, fun i hi => ?_⟩, by omega, e3⟩
   obtain ⟨l, l1, l2, l3⟩ := e2 i hi
   exact ⟨l, l1, by rw [Nat.zero_add]; exact l2, l3⟩
 ·cases hs
theorem mA {z : Int} (h : (Lit.int .i64 z).wf = true) : dx z := by
 simp only [Lit.wf, Bool.and_eq_true, decide_eq_true_eq] at h
 exact ⟨h.1, h.2⟩
structure ff (P : Program) (tI tN tT tB tV tR tG tGs tC tCs tE tS tL : TypeId) : Prop where
 i : P.underlying tI = some (.int .i64)
 n : P.underlying tN = some (.int .i64)
 t : P.underlying tT = some .string
 b : P.underlying tB = some .bool
 v : eu P tV = some [tI, tN, tT]
 r : ig P tR = some (tV, 3)
 g : eu P tG = some [tT, tR, tB]
 gs : ig P tGs = some (tG, 3)
 c : eu P tC = some [tT, tI]
 cs : ig P tCs = some (tC, 2)
 e : eu P tE = some [tI, tI, tI, tT, tT, tCs, tGs]
 s : eu P tS = some [tI, tI, tI, tI, tT, tE]
 l : ig P tL = some (tS, 12)
def Sm (B : Nat) (v : mr) : Prop := dx v.kind ∧ dx v.n ∧ v.s.length ≤ B
def SZ (B : Nat) (c : oH) : Prop := c.table.length ≤ B ∧ c.row.length ≤ B ∧ ∀ v, v ∈ c.row → Sm B v
def uw (B : Nat) (e : oI) : Prop := dx e.aA ∧ dx e.seq ∧ dx e.kind ∧ e.name.length ≤ B ∧ e.text.length ≤ B ∧ e.bU.length ≤ B ∧ (∀ c, c ∈ e.bU → c.1.length ≤ B ∧ dx c.2) ∧ e.changes.length ≤ B ∧ ∀ c, c ∈ e.changes → SZ B c
def PU (B : Nat) (s : lF) : Prop := dx s.kind ∧ dx s.aA ∧ dx s.node ∧ dx s.n ∧ s.name.length ≤ B ∧ uw B s.entry
variable {tI tN tT tB tV tR tG tGs tC tCs tE tS tL : TypeId} {B n : Nat}
theorem rd_val (T : ff P tI tN tT tB tV tR tG tGs tC tCs tE tS tL) (K : nk bk bkA) {l : List AV} (r : rO P h (n + 2) tV l d) (hB : bk d ≤ B) : ∃ v, l = iW v ∧ Sm B v := by
 obtain ⟨ls, ps, rfl, rfl, a⟩ := fV.struct T.v r
 obtain ⟨_, _, _, _, rfl, rfl, a0, a⟩ := a.inv; obtain ⟨_, _, _, _, rfl, rfl, a1, a⟩ := a.inv; obtain ⟨_, _, _, _, rfl, rfl, a2, a⟩ := a.inv; obtain ⟨rfl, rfl⟩ := a.none
 obtain ⟨z0, rfl, rfl, w0⟩ := fV.int T.i a0
 obtain ⟨z1, rfl, rfl, w1⟩ := fV.int T.n a1
 obtain ⟨s, rfl, rfl⟩ := fV.str T.t a2
 rw [K.agg] at hB
 have := K.mem (l := [DataW.lit (.int .i64 z0), .lit (.int .i64 z1), .lit (.string s)]) (d := .lit (.string s)) (by simp)
 rw [K.str] at this
 exact ⟨⟨z0, z1, s⟩, rfl, mA w0, mA w1, by simp only; omega⟩
theorem PV (T : ff P tI tN tT tB tV tR tG tGs tC tCs tE tS tL) (K : nk bk bkA) {l : List AV} (r : rO P h (n + 3) tR l d) (hB : bk d ≤ B) : ∃ x row, l = [x] ∧ dQ h x row ∧ row.length ≤ B ∧ ∀ v, v ∈ row → Sm B v :=
 fV.slice K T.r r hB fun _ _ r hb => rd_val T K r hb
theorem PW (T : ff P tI tN tT tB tV tR tG tGs tC tCs tE tS tL) (K : nk bk bkA) {l : List AV} (r : rO P h (n + 4) tG l d) (hB : bk d ≤ B) : ∃ c, gG h l c ∧ SZ B c := by
 obtain ⟨ls, ps, rfl, rfl, a⟩ := fV.struct T.g r
 obtain ⟨_, _, p0, _, rfl, rfl, a0, a⟩ := a.inv; obtain ⟨_, _, p1, _, rfl, rfl, a1, a⟩ := a.inv; obtain ⟨_, _, p2, _, rfl, rfl, a2, a⟩ := a.inv; obtain ⟨rfl, rfl⟩ := a.none
 rw [K.agg] at hB
 have h0 := K.mem (l := [p0, p1, p2]) (d := p0) (by simp)
 have h1 := K.mem (l := [p0, p1, p2]) (d := p1) (by simp)
 obtain ⟨s, rfl, rfl⟩ := fV.str T.t a0
 obtain ⟨x, row, rfl, hr, hl, hv⟩ := PV T K a1 (B := B) (by omega)
 obtain ⟨b, rfl, rfl⟩ := fV.bool T.b a2
 rw [K.str] at h0
 exact ⟨⟨s, row, b⟩, ⟨x, rfl, hr⟩, by simp only; omega, hl, hv⟩
theorem PX (T : ff P tI tN tT tB tV tR tG tGs tC tCs tE tS tL) (K : nk bk bkA) {l : List AV} (r : rO P h (n + 2) tC l d) (hB : bk d ≤ B) : ∃ c : Bs × Int, l = [bz c.1, i64 c.2] ∧ c.1.length ≤ B ∧ dx c.2 := by
 obtain ⟨ls, ps, rfl, rfl, a⟩ := fV.struct T.c r
 obtain ⟨_, _, p0, _, rfl, rfl, a0, a⟩ := a.inv; obtain ⟨_, _, p1, _, rfl, rfl, a1, a⟩ := a.inv; obtain ⟨rfl, rfl⟩ := a.none
 rw [K.agg] at hB
 have h0 := K.mem (l := [p0, p1]) (d := p0) (by simp)
 obtain ⟨s, rfl, rfl⟩ := fV.str T.t a0
 obtain ⟨z, rfl, rfl, w⟩ := fV.int T.i a1
 rw [K.str] at h0
 exact ⟨(s, z), rfl, by simp only; omega, mA w⟩
theorem PY (T : ff P tI tN tT tB tV tR tG tGs tC tCs tE tS tL) (K : nk bk bkA) {l : List AV} (r : rO P h (n + 6) tE l d) (hB : bk d ≤ B) : ∃ e, vZ h l e ∧ uw B e := by
 obtain ⟨ls, ps, rfl, rfl, a⟩ := fV.struct T.e r
 obtain ⟨_, _, p0, _, rfl, rfl, a0, a⟩ := a.inv; obtain ⟨_, _, p1, _, rfl, rfl, a1, a⟩ := a.inv; obtain ⟨_, _, p2, _, rfl, rfl, a2, a⟩ := a.inv; obtain ⟨_, _, p3, _, rfl, rfl, a3, a⟩ := a.inv; obtain ⟨_, _, p4, _, rfl, rfl, a4, a⟩ := a.inv; obtain ⟨_, _, p5, _, rfl, rfl, a5, a⟩ := a.inv; obtain ⟨_, _, p6, _, rfl, rfl, a6, a⟩ := a.inv; obtain ⟨rfl, rfl⟩ := a.none
 rw [K.agg] at hB
 have h3 := K.mem (l := [p0, p1, p2, p3, p4, p5, p6]) (d := p3) (by simp)
 have h4 := K.mem (l := [p0, p1, p2, p3, p4, p5, p6]) (d := p4) (by simp)
 have h5 := K.mem (l := [p0, p1, p2, p3, p4, p5, p6]) (d := p5) (by simp)
 have h6 := K.mem (l := [p0, p1, p2, p3, p4, p5, p6]) (d := p6) (by simp)
 obtain ⟨z0, rfl, rfl, w0⟩ := fV.int T.i a0
 obtain ⟨z1, rfl, rfl, w1⟩ := fV.int T.i a1
 obtain ⟨z2, rfl, rfl, w2⟩ := fV.int T.i a2
 obtain ⟨s, rfl, rfl⟩ := fV.str T.t a3
 obtain ⟨s', rfl, rfl⟩ := fV.str T.t a4
 obtain ⟨x, bU, rfl, hx, hl, hc⟩ := fV.slice (f := fun l (c : Bs × Int) => l = [bz c.1, i64 c.2]) (Q := fun c : Bs × Int => c.1.length ≤ B ∧ dx c.2) K T.cs a5 (B := B) (by omega) fun _ _ r hb => PX (n := n + 2) T K r hb
 obtain ⟨y, chs, rfl, hy, hm, hg⟩ := fV.slice K T.gs a6 (B := B) (by omega) fun _ _ r hb => PW T K r hb
 rw [K.str] at h3 h4
 exact ⟨⟨z0, z1, z2, s, s', bU, chs⟩, ⟨x, y, rfl, hx, hy⟩, mA w0, mA w1, mA w2, by simp only; omega, by simp only; omega, hl, hc, hm, hg⟩
theorem PZ (T : ff P tI tN tT tB tV tR tG tGs tC tCs tE tS tL) (K : nk bk bkA) {l : List AV} (r : rO P h (n + 7) tS l d) (hB : bk d ≤ B) : ∃ s, dy h l s ∧ PU B s := by
 obtain ⟨ls, ps, rfl, rfl, a⟩ := fV.struct T.s r
 obtain ⟨_, _, p0, _, rfl, rfl, a0, a⟩ := a.inv; obtain ⟨_, _, p1, _, rfl, rfl, a1, a⟩ := a.inv; obtain ⟨_, _, p2, _, rfl, rfl, a2, a⟩ := a.inv; obtain ⟨_, _, p3, _, rfl, rfl, a3, a⟩ := a.inv; obtain ⟨_, _, p4, _, rfl, rfl, a4, a⟩ := a.inv; obtain ⟨_, _, p5, _, rfl, rfl, a5, a⟩ := a.inv; obtain ⟨rfl, rfl⟩ := a.none
 rw [K.agg] at hB
 have h4 := K.mem (l := [p0, p1, p2, p3, p4, p5]) (d := p4) (by simp)
 have h5 := K.mem (l := [p0, p1, p2, p3, p4, p5]) (d := p5) (by simp)
 obtain ⟨z0, rfl, rfl, w0⟩ := fV.int T.i a0
 obtain ⟨z1, rfl, rfl, w1⟩ := fV.int T.i a1
 obtain ⟨z2, rfl, rfl, w2⟩ := fV.int T.i a2
 obtain ⟨z3, rfl, rfl, w3⟩ := fV.int T.i a3
 obtain ⟨s, rfl, rfl⟩ := fV.str T.t a4
 obtain ⟨e, ⟨x, y, rfl, hx, hy⟩, he⟩ := PY T K a5 (B := B) (by omega)
 rw [K.str] at h4
 exact ⟨⟨z0, z1, z2, z3, s, e⟩, ⟨x, y, by simp [fQ, cX, i64], hx, hy⟩, mA w0, mA w1, mA w2, mA w3, by simp only; omega, he⟩
theorem Mg (T : ff P tI tN tT tB tV tR tG tGs tC tCs tE tS tL) (K : nk bk bkA) {l : List AV} (r : rO P h (n + 8) tL l d) (hB : bk d ≤ B) : ∃ x xs, l = [x] ∧ bX h x xs ∧ xs.length ≤ B ∧ ∀ s, s ∈ xs → PU B s :=
 fV.slice K T.l r hB fun _ _ r hb => PZ T K r hb
end
end
end Go.Am
namespace Go.Am.Seat
open Go.Cod
noncomputable section
structure Dw (p : Pg) : Prop where
 e12 : ar 12 p.fs = f12
 e13 : ar 13 p.fs = f13
 e15 : ar 15 p.fs = f15
 e16 : ar 16 p.fs = f16
 e18 : ar 18 p.fs = f18
 e27 : ar 29 p.fs = f29
 e28 : ar 30 p.fs = f30
 e29 : ar 31 p.fs = f31
def bc (s : Bs) : List AV := s.map fun b => AV.int .u8 (b.toNat : Int)
theorem cA (s : Bs) : (bc s).length = s.length := by simp [bc]
theorem IX (s t : Bs) : bc (s ++ t) = bc s ++ bc t := by simp [bc]
structure Wr (h0 h : Hp) (q : P4) (s : Bs) : Prop where
 old : Old h0 h
 wf : Wf h
 new : ag q h0 = .none
 ob : ∃ sv, sv.one = true ∧ Ob h q 75 true .plain [sv] ∧ dA h sv 5 1 (bc s) fun j => ag j h0 = .none ∧ j ≠ q
variable {p : Pg} {h0 h h' : Hp} {q : P4} {s : Bs}
theorem mV {x : AV} {el es : Nat} {l : List AV} {b : P4 → Prop} (w : dA h x el es l b) : x.one = true := by
 rcases w with ⟨_, rfl | ⟨q, rfl⟩⟩ | ⟨q, n, rfl, _⟩ <;> rfl
theorem Wr.app (w : Wr h0 h q s) {sv : AV} (ho : Ob h q 75 true .plain [sv]) (hw : dA h sv 5 1 (bc s) fun j => ag j h0 = .none ∧ j ≠ q) (t : Bs) (hl : s.length + t.length ≤ 16777216) :
  ∃ x h1 h2, lB 5 1 t.length (bc t) sv h = .ok x h1 ∧ sT (.ptr q 0) x h1 = .ok .undef h2 ∧ Wr h0 h2 q (s ++ t) := by
 obtain ⟨x, h1, e1, e2, e3, e4⟩ := iG (m := t.length) w.wf hw (by omega) (new := bc t) (by simp [cA]) (by simpa [cA] using hl)
 have hq : ag q h1 = ag q h := e4 q ho.ne (fun g => g.2 rfl)
 have ho1 := ho.eq hq
 obtain ⟨h2, f1, f2, f3, f4⟩ := dY (k := 0) ho1 (by simp) (mV e2)
 refine ⟨x, h1, h2, e1, f1, ⟨fun j hj => ?_, ?_, w.new, x, mV e2, f2, ?_⟩⟩
 ·have hjq : j ≠ q := fun g => by rw [g] at hj; exact hj w.new
  rw [f3 j hjq, e4 j (by rw [w.old j hj]; exact hj) (fun g => hj g.1), w.old j hj]
 ·exact e3.of f4 fun j hj => by
   by_cases g : j = q
   ·rw [g, hq] at hj
    exact absurd hj ho.ne
   ·rw [f3 j g]; exact hj
 ·rw [IX]
  refine (e2.mono fun j hj => ?_).old fun j hj _ => f3 j hj.2
  rcases hj with hj | hj
  ·exact hj
  ·exact ⟨w.old.none hj, fun g => by rw [g] at hj; exact ho.ne hj⟩
theorem Wr.up (w : Wr h0 h q s) (O : Old h h') (W : Wf h') : Wr h0 h' q s := by
 obtain ⟨sv, e1, e2, e3⟩ := w.ob
 exact ⟨w.old.trans O, W, w.new, sv, e1, e2.old O, e3.old fun j _ hj => O j hj⟩
theorem Wr.IY (w : Wr h0 h q s) (t : Bs) {m : Nat} (hm : t.length = m) {z : List AV} {ps : List Part} (hf : fits ps .nil = true) (hz : fill ps .nil z = bc t) (hl : s.length + t.length ≤ 16777216) :
  ∃ sv l h1 x h2 h3, Seat.lD (.ptr q 0) h = .ok sv h ∧ Seat.bs 5 1 m z ps h = .ok l h1 ∧ eF 5 1 sv l h1 = .ok x h2 ∧ sT (.ptr q 0) x h2 = .ok .undef h3 ∧ Wr h0 h3 q (s ++ t) := by
 subst hm
 obtain ⟨sv, e1, e2, e3⟩ := w.ob
 obtain ⟨j, h1, f1, f2, f3, f4, f5, f6⟩ := gE (el := 5) (es := 1) (n := t.length) w.wf hf hz (by simp [cA]; omega)
 have w1 := w.up f4 f5
 obtain ⟨x, h2, h3, g1, g2, g3⟩ := w1.app (e2.old f4) (e3.old fun j _ hj => f4 j hj) t hl
 refine ⟨sv, _, h1, x, h2, h3, BD (e2.cs (k := 0) (m := [sv]) (fun j hj => ⟨by omega, by simp⟩) (by simp)) (by simp), f1, ?_, g2, g3⟩
 rw [eT (m := t.length) (q := j) (o := 0) (l := bc t) (.inl ⟨_, rfl⟩) (by omega) (fun _ => f3.cs (k := 0) (fun j hj => ⟨by omega, by simp⟩) (by simp)) (by simp [cA]) (by omega)]
 exact g1
theorem w8 (n : Int) : IntKind.u8.wrap n = n % 256 := rfl
theorem w64 (n : Int) : IntKind.u64.wrap n = n % 18446744073709551616 := rfl
theorem np (n : Int) (h : dx n) : IntKind.i64.wrap n = n := by
 unfold dx at h
 unfold IntKind.wrap
 dsimp only
 split
 ·rename_i g
  rw [Bool.and_eq_true, decide_eq_true_eq] at g
  have g1 : n % 18446744073709551616 ≥ 9223372036854775808 := g.2
  show n % 18446744073709551616 - 18446744073709551616 = n
  omega
 ·rename_i g
  rw [Bool.and_eq_true, decide_eq_true_eq] at g
  have g1 : ¬ n % 18446744073709551616 ≥ 9223372036854775808 := fun x => g ⟨rfl, x⟩
  show n % 18446744073709551616 = n
  omega
theorem TA (n : Nat) : bK .shr (.int .u64 n) (.int .u64 (.ofNat 8)) h = .ok (.int .u64 (n / 256 : Nat)) h := rfl
theorem IZ (k : Nat) : ∀ {n : Nat} {h : Hp} {s : Bs} {c : AC} {r0 : A2}, (∀ s, Rn p (.ah rz .skip) (T32 (.ptr q 0) (.int .u64 n) (.int .i64 k)) h s → Rn p c r0 h s) → Wr h0 h q s → n < 18446744073709551616 → s.length + k ≤ 16777216 → k ≤ 1000 →
  ∃ h', Rn p (.sat (.ah k29_0 (.seq (.label 0) (.ah rz .skip))) c) r0 h (.ret T15 h') ∧ Wr h0 h' q (s ++ le k n) := by
 induction k with
 | zero =>
  intro n h s c r0 hc w _ _ _
  refine ⟨h, .rP (hc _ (.ah (.all fun m => ?_))), by simpa [le] using w⟩
  simp only [rz, K3, t32_0, t32_1, t32_6, i0]
  rw [zA, bJ, if_pos (by rfl)]
 | succ k ih =>
  intro n h s c r0 hc w hn hs hk
  obtain ⟨sv, l, h1, x, h2, h3, e1, e2, e3, e4, e5⟩ := w.IY [UInt8.ofNat n] (m := 1) rfl (z := [.int .u8 (.ofNat 0)]) (ps := [.mk 0 1 (.c (.int .u8 ((n : Int) % 256)))]) rfl (by simp [bc]; rfl) (by simp; omega)
  obtain ⟨h', f1, f2⟩ := ih (n := n / 256) (h := h3) (s := s ++ [UInt8.ofNat n]) (c := .seq .skip (.ah rz .skip)) (fun _ e => .seq .skip e) e5 (by omega) (by simp; omega) (by omega)
  refine ⟨h', .wN (i := 0) (hc _ (.ah (.all fun m => ?_))) rfl f1, by simpa [le] using f2⟩
  simp only [rz, K3, t32_0, t32_1, t32_6, i0, i1]
  rw [zA, bJ, if_neg (by simp; omega), dE, aD, aM e1, kQ, w8, cq, aE e2, aE e3, dE, aD, dN e4, TA, cq, Dn, np _ (by unfold dx; simp; omega)]
  simp
section
variable {a b c d : AV}
theorem cP : y0 (bt [a] 0 .nil) = a := rfl
theorem fR : y0 (bt [a, b] 0 .nil) = a := rfl
theorem fS : y1 (bt [a, b] 0 .nil) = b := rfl
theorem zK : y0 (bt [a, b, c] 0 .nil) = a := rfl
theorem zL : y1 (bt [a, b, c] 0 .nil) = b := rfl
theorem zM : y2 (bt [a, b, c] 0 .nil) = c := rfl
end
theorem BH (T : Dw p) (w : Wr h0 h q s) {n k : Nat} (hn : n < 18446744073709551616) (hs : s.length + k ≤ 16777216) (hk : k ≤ 1000) :
  ∃ h', Cv p 29 [.ptr q 0, .int .u64 n, .int .i64 k] h cm h' ∧ Wr h0 h' q (s ++ le k n) := by
 have hc : ∀ s, Rn p (.ah rz .skip) (T32 (.ptr q 0) (.int .u64 n) (.int .i64 k)) h s → Rn p (.ah k29_0 (.seq (.label 0) (.ah rz .skip))) (bt [.ptr q 0, .int .u64 n, .int .i64 k] 0 .nil) h s := by
  intro s e
  refine .ah (Ev.mono (Rn.seq (a := .label 0) .label e) fun m e => ?_)
  simp only [k29_0, K3, zK, zL, zM]
  exact e
 obtain ⟨h', e1, e2⟩ := IZ k hc w hn hs hk
 exact ⟨h', .of T.e27 (by simp) (.scope e1) rfl, e2⟩
theorem pI (T : Dw p) (w : Wr h0 h q s) {n : Int} (hs : s.length + 1 ≤ 16777216) :
  ∃ h', Cv p 13 [.ptr q 0, i64 n] h cm h' ∧ Wr h0 h' q (s ++ le 1 (u64 n)) := by
 obtain ⟨h', e1, e2⟩ := BH T w (n := u64 n) (k := 1) (by unfold u64; omega) hs (by omega)
 refine ⟨h', .vi (r' := T15) (h1 := h') T.e13 (by simp) (.ah ?_) rfl, e2⟩
 refine Ev.mono e1 fun m e => ?_
 simp only [k13_0, K2, fR, fS, i1, i64]
 rw [kQ, w64, cq]
 have g : n % 18446744073709551616 = (u64 n : Int) := by unfold u64; omega
 rw [g]
 exact aF e
theorem Ja (T : Dw p) (w : Wr h0 h q s) {n : Int} (hs : s.length + 2 ≤ 16777216) :
  ∃ h', Cv p 30 [.ptr q 0, i64 n] h cm h' ∧ Wr h0 h' q (s ++ le 2 (u64 n)) := by
 obtain ⟨h', e1, e2⟩ := BH T w (n := u64 n) (k := 2) (by unfold u64; omega) hs (by omega)
 refine ⟨h', .vi (r' := T15) (h1 := h') T.e28 (by simp) (.ah ?_) rfl, e2⟩
 refine Ev.mono e1 fun m e => ?_
 simp only [k30_0, K2, fR, fS, pi, i64]
 rw [kQ, w64, cq]
 have g : n % 18446744073709551616 = (u64 n : Int) := by unfold u64; omega
 rw [g]
 exact aF e
theorem kV (T : Dw p) (w : Wr h0 h q s) {n : Int} (hs : s.length + 8 ≤ 16777216) :
  ∃ h', Cv p 15 [.ptr q 0, i64 n] h cm h' ∧ Wr h0 h' q (s ++ gF n) := by
 obtain ⟨h', e1, e2⟩ := BH T w (n := u64 n) (k := 8) (by unfold u64; omega) hs (by omega)
 refine ⟨h', .vi (r' := T15) (h1 := h') T.e15 (by simp) (.ah ?_) rfl, e2⟩
 refine Ev.mono e1 fun m e => ?_
 simp only [k15_0, K2, fR, fS, pi, i64]
 rw [kQ, w64, cq]
 have g : n % 18446744073709551616 = (u64 n : Int) := by unfold u64; omega
 rw [g]
 exact aF e
theorem sj (n : Nat) (h : n < 18446744073709551616) : u64 n = n := by unfold u64; omega
theorem kW (T : Dw p) (w : Wr h0 h q s) {t : Bs} (hs : s.length + (2 + t.length) ≤ 16777216) :
  ∃ h', Cv p 16 [.ptr q 0, bz t] h cm h' ∧ Wr h0 h' q (s ++ Cod.text t) := by
 obtain ⟨h1, e1, w1⟩ := Ja T w (n := t.length) (by omega)
 obtain ⟨sv, g1, g2, g3⟩ := w1.ob
 have hl2 : (s ++ le 2 (u64 (t.length : Int))).length = s.length + 2 := by simp [bm]
 obtain ⟨x, h2, h3, f1, f2, f3⟩ := w1.app g2 g3 t (by rw [hl2]; omega)
 refine ⟨h3, .vi (r' := T15) (h1 := h3) T.e16 (by simp) (.ah ?_) rfl, ?_⟩
 ·refine Ev.mono e1 fun m e => ?_
  simp only [k16_0, K2, fR, fS, bz]
  simp only [i64] at e
  have ec : (t.map UInt8.toNat).map (fun b : Nat => AV.int .u8 (b : Int)) = bc t := by simp [bc]
  rw [Dp, cq, List.length_map, aF e, dE, aD, aM (BD (g2.cs (k := 0) (m := [sv]) (fun j hj => ⟨by omega, by simp⟩) (by simp)) (by simp)), aE (by rw [LW, ec, List.length_map]; exact f1), dE, aD, dN f2]
 ·rw [sj _ (by omega)] at f3
  simpa [Cod.text] using f3
end
open Go.Cod
noncomputable section
variable {p : Pg} {h0 h h' h1 : Hp} {q : P4} {s : Bs}
theorem Wr.base (w : Wr h0 h q s) (O : Old h h1) (W : Wf h1) : ∃ h0', Old h0 h0' ∧ Wr h0' h1 q s ∧ ∀ j, ag j h = .none → ag j h0' = ag j h1 := by
 classical
 obtain ⟨h0', g⟩ := Dq fun j => if ag j h = .none then ag j h1 else ag j h0
 have g1 : ∀ j, ag j h = .none → ag j h0' = ag j h1 := fun j hj => by rw [g, if_pos hj]
 have g2 : ∀ j, ag j h ≠ .none → ag j h0' = ag j h0 := fun j hj => by rw [g, if_neg hj]
 obtain ⟨sv, e1, e2, e3⟩ := w.ob
 refine ⟨h0', fun j hj => g2 j (by rw [w.old j hj]; exact hj), ⟨fun j hj => ?_, W, by rw [g2 q e2.ne]; exact w.new, sv, e1, e2.old O, ?_⟩, g1⟩
 ·by_cases hn : ag j h = .none
  ·rw [g1 j hn]
  ·rw [g2 j hn] at hj ⊢
   rw [O j hn, w.old j hj]
 ·rcases e3 with e3 | ⟨q', n, f1, f2, f3, f4⟩
  ·exact .inl e3
  ·exact .inr ⟨q', n, f1, f2, f3.old O, by rw [g2 q' f3.ne]; exact f4.1, f4.2⟩
theorem Wr.Ta {h0' : Hp} (w : Wr h0' h q s) (O : Old h0 h0') : Wr h0 h q s := by
 obtain ⟨sv, e1, e2, e3⟩ := w.ob
 exact ⟨O.trans w.old, w.wf, O.none w.new, sv, e1, e2, e3.mono fun j hj => ⟨O.none hj.1, hj.2⟩⟩
variable {α : Type} {es : Nat} {f : List AV → α → Prop} {x : AV} {xs : List α}
theorem cY.sl (r : cY h es f x xs) : ∃ q o, zB x es xs.length q o ∧ ∀ i (hi : i < xs.length), ∃ l, l.length = es ∧ Cs h q (o + i * es) l ∧ f l xs[i] := by
 obtain ⟨q, o, e, g⟩ := r
 refine ⟨q, o, ?_, g⟩
 rcases e with ⟨c, _, e⟩ | e | ⟨e, rfl⟩
 ·exact .inl ⟨c, e⟩
 ·exact .inr (.inl e)
 ·exact .inr (.inr ⟨e, rfl⟩)
theorem cY.up {f' : List AV → α → Prop} (r : cY h es f x xs) (O : Old h h') (g : ∀ l a, a ∈ xs → f l a → f' l a) : cY h' es f' x xs := by
 obtain ⟨q, o, e, k⟩ := r
 refine ⟨q, o, e, fun i hi => ?_⟩
 obtain ⟨l, a, b, c⟩ := k i hi
 exact ⟨l, a, b.old O, g _ _ (by simp) c⟩
theorem dQ.up {r : List mr} (a : dQ h x r) (O : Old h h') : dQ h' x r := cY.up a O fun _ _ _ e => e
theorem gG.up {l : List AV} {c : oH} (a : gG h l c) (O : Old h h') : gG h' l c := let ⟨x, e, r⟩ := a; ⟨x, e, dQ.up r O⟩
theorem bE.up {r : List oH} (a : bE h x r) (O : Old h h') : bE h' x r := cY.up a O fun _ _ _ e => gG.up e O
theorem aQ.up {r : List (Bs × Int)} (a : aQ h x r) (O : Old h h') : aQ h' x r := cY.up a O fun _ _ _ e => e
theorem dy.up {l : List AV} {e : lF} (a : dy h l e) (O : Old h h') : dy h' l e := let ⟨x, y, g, r1, r2⟩ := a; ⟨x, y, g, aQ.up r1 O, bE.up r2 O⟩
theorem bX.up {r : List lF} (a : bX h x r) (O : Old h h') : bX h' x r := cY.up a O fun _ _ _ e => dy.up e O
theorem BI (s : Bs) : ∀ (k : List Nat → RV) (e : RV), fx (bc s) k e = k (s.map UInt8.toNat) := by
 induction s with
 | nil => intro k e; rfl
 | cons b s ih =>
  intro k e
  show fx (.int .u8 (b.toNat : Int) :: bc s) k e = _
  rw [pd]
  show (@Bool.rec (fun _ => RV) e (fx (bc s) (fun s => k (b.toNat :: s)) e) (Nat.ble b.toNat 255)) = _
  have hb := b.toNat_lt
  rw [Nat.ble_eq_true_of_le (by omega), ih]
  rfl
def lG (h : Hp) (x : AV) (s : Bs) : Prop := ∃ q o n, zB x 1 n q o ∧ s.length = n ∧ (n ≠ 0 → Cs h q o (bc s))
theorem dA.Jb {b : P4 → Prop} (w : dA h x 5 1 (bc s) b) : lG h x s := by
 obtain ⟨q, n, e1, e2, e3⟩ := w.sl (by omega)
 exact ⟨q, 0, n, e1, by rw [cA] at e2; omega, e3⟩
theorem xJ (r : lG h x s) : cK .Le x h = .ok (bz s) h := by
 obtain ⟨q, o, n, e1, e2, e3⟩ := r
 show elems 1 x h (fun l => fx l (fun s => .ok (.str s) h) (.err 33)) (.err 34) = _
 rw [zD e1 (by omega) e3 (by rw [cA]; omega), BI]
theorem lG.len (r : lG h x s) : Am.len x h = .ok (.int .i64 (s.length : Int)) h := by
 obtain ⟨q, o, n, e1, e2, e3⟩ := r
 rw [gN e1, e2]
theorem lG.up (r : lG h x s) (O : Old h h') : lG h' x s := by
 obtain ⟨q, o, n, e1, e2, e3⟩ := r
 exact ⟨q, o, n, e1, e2, fun g => (e3 g).old O⟩
theorem we (T : Dw p) (W : Wf h) : ∃ q h', Cv p 12 [] h (.ptr q 0) h' ∧ Wr h h' q [] ∧ Old h h' := by
 obtain ⟨q, h1, e1, e2, e3, e4, e5, e6⟩ := mj (el := 75) (l := [.ai]) W (by simp)
 refine ⟨q, h1, .of (r' := T2 (.ptr q 0)) (h1 := h1) T.e12 (by simp) (.ah (.all fun m => ?_)) rfl, ⟨e4, e5, e2, .ai, rfl, e3, .inl ⟨rfl, .inl rfl⟩⟩, e4⟩
 simp only [k12_0]
 rw [rq (v := .agg [.ai]) (h' := h) rfl, jU e1]
theorem Jc (e29 : ar 31 p.fs = f31) (W : Wf h) {b : P4 → Prop} (w : dA h x 5 1 (bc s) b) (hl : s.length ≤ 16777216) : ∃ v h', Cv p 31 [x] h v h' ∧ dA h' v 5 1 (bc s) (fun j => ag j h = .none) ∧ Old h h' ∧ Wf h' := by
 by_cases hx : x = .ai
 ·subst hx
  refine ⟨.ai, h, .of (r' := T0 .ai) (h1 := h) e29 (by simp) (.ah (.all fun m => ?_)) rfl, ?_, .refl h, W⟩
  ·have hn : bK (.jD .s) .ai .ai h = .ok (.bool true) h := rfl
   simp only [zN, K1, cP]
   rw [aE hn, fZ]
  ·rcases w with ⟨w, _⟩ | ⟨q, n, g, _⟩
   ·exact .inl ⟨w, .inl rfl⟩
   ·cases g
 ·have hn : bK (.jD .s) x .ai h = .ok (.bool false) h := by
   rcases w with ⟨_, rfl | ⟨q, rfl⟩⟩ | ⟨q, n, rfl, _⟩
   ·exact absurd rfl hx
   ·rfl
   ·rfl
  obtain ⟨j, h1, f1, f2, f3, f4, f5, f6⟩ := gE (el := 5) (es := 1) (n := 0) (z := []) (ps := []) (l := []) W rfl rfl (by simp)
  obtain ⟨q, o, n, g1, g2, g3⟩ := lG.up (dA.Jb w) f4
  obtain ⟨v, h2, c1, c2, c3, c4⟩ := iG (m := n) (es := 1) f5 (x := .slice j 0 0 0) (b := fun _ => False) (el := 5) (l := []) (.inl ⟨rfl, .inr ⟨j, rfl⟩⟩) (by omega) (new := bc s) (by rw [cA]; omega) (by simp [cA]; omega)
  refine ⟨v, h2, .of (r' := T0 v) (h1 := h2) e29 (by simp) (.ah (.all fun m => ?_)) rfl, ?_, fun k hk => ?_, c3⟩
  ·simp only [zN, K1, cP]
   rw [aE hn, fK, aE f1, aE (by rw [eT g1 (by omega) g3 (by rw [cA]; omega) (by omega)]; exact c1)]
  ·refine dA.mono c2 fun k hk => ?_
   rcases hk with hk | hk
   ·exact hk.elim
   ·exact f4.none hk
  ·have := f4 k hk
   rw [c4 k (by rw [this]; exact hk) (fun g => g), this]
theorem Dx (T : Dw p) (e29 : ar 31 p.fs = f31) (w : Wr h0 h q s) (hl : s.length ≤ 16777216) : ∃ v h', Cv p 18 [.ptr q 0] h v h' ∧ dA h' v 5 1 (bc s) (fun j => ag j h0 = .none) ∧ Old h0 h' ∧ Wf h' := by
 obtain ⟨sv, e1, e2, e3⟩ := w.ob
 obtain ⟨v, h', f1, f2, f3, f4⟩ := Jc (p := p) e29 w.wf e3 hl
 refine ⟨v, h', .of (r' := T0 v) (h1 := h') T.e18 (by simp) (.ah (f1.mono fun m e => ?_)) rfl, dA.mono f2 fun j hj => w.old.none hj, w.old.trans f3, f4⟩
 simp only [k18_0, K1, cP]
 rw [dE, aD, aM (BD (e2.cs (k := 0) (m := [sv]) (fun j hj => ⟨by omega, by simp⟩) (by simp)) (by simp))]
 exact (aF e)
end
open Go.Cod
noncomputable section
variable {p : Pg} {h0 h h' h1 : Hp} {q : P4} {s : Bs} {x y : AV}
theorem aq {h : Hp} {q : P4} {o : Nat} {l : List AV} (c : Cs h q o l) (k : Nat) {v : AV} (e : l[k]? = some v) : lD (.ptr q (o + k)) h = .ok v h := by
 obtain ⟨hk, e⟩ := List.getElem?_eq_some_iff.1 e
 rw [IJ c k hk, e]
theorem aZ {h : Hp} {q : P4} {o : Nat} {l : List AV} (c : Cs h q o l) {v : AV} (e : l[0]? = some v) : lD (.ptr q o) h = .ok v h := aq c 0 e
theorem xK (e : ar 26 p.fs = f26) (n : Int) : Cv p 26 [i64 n] h (i64 (gX n)) h := by
 refine .of (r' := T0 (i64 (gX n))) (h1 := h) e (by simp) (.ah (Ev.succ (.all fun m => ?_))) rfl
 simp only [k26_0, K1, cP, i64, ni, pi]
 (rw [bu]; try rfl)
 by_cases hc : n < Int.negSucc 999
 ·(rw [decide_eq_true hc, Dt, Dt, uk, cq, fZ, i0]; try rfl)
  unfold gX
  rw [if_pos (.inl hc)]
  rfl
 ·(rewrite [decide_eq_false hc]; (try dsimp only); rewrite [LX]; (try dsimp only); rewrite [LX]; (try dsimp only); rewrite [fP]; (try dsimp only); rewrite [cq]; (try dsimp only); rewrite [xG]; (try dsimp only); rewrite [cq]; (try dsimp only); rewrite [bJ]; (try dsimp only); try rfl)
  have hc' : ¬ n < -1000 := hc
  by_cases hd : (1000 : Int) < n
  ·rw [if_pos (show Int.ofNat 1000 < n from hd), i0]
   unfold gX
   rw [if_pos (.inr hd)]
   rfl
  ·rw [if_neg (show ¬ Int.ofNat 1000 < n from hd)]
   unfold gX
   rw [if_neg (by omega)]
   rfl
theorem iL {α : Type} {f : α → Bool} {l : List α} {i : Nat} (hi : i < l.length) : (l.take (i + 1)).all f = ((l.take i).all f && f l[i]) := by
 rw [List.take_succ_eq_append_getElem hi, List.all_append]; simp
theorem all_false {α : Type} {f : α → Bool} {l : List α} {i : Nat} (hi : i < l.length) (h : f l[i] = false) : l.all f = false := by
 rw [List.all_eq_false]; exact ⟨_, List.getElem_mem hi, by simp [h]⟩
theorem mW {n : Int} (K : AV → Hp → RS) : Seat.Y (.int .i64 n) (.int .i64 (.negSucc 2147483647)) h (fun j h => gD j false (fun k => k (.int .i64 n) h) h fun k h => gD j false (fun l => tR (dj k (.int .i64 (.ofNat 2147483647)) h) fun m h => l m h) h fun l h =>
  tR (ei (.c j) (.c (.bool true)) (.c l) .nil h) fun m h => K m h) = K (.bool (!small n)) h := by
 (rw [bu]; try rfl)
 by_cases hc : n < Int.negSucc 2147483647
 ·(rw [decide_eq_true hc, Dt, Dt, uk, cq]; try rfl)
  have : small n = false := by
   unfold small
   rw [decide_eq_false (show ¬ -2147483648 ≤ n from fun g => by have : n < -2147483648 := hc; omega)]; rfl
  rw [this]; rfl
 ·(rewrite [decide_eq_false hc]; (try dsimp only); rewrite [LX]; (try dsimp only); rewrite [LX]; (try dsimp only); rewrite [fP]; (try dsimp only); rewrite [cq]; (try dsimp only); rewrite [xG]; (try dsimp only); rewrite [cq]; (try dsimp only); try rfl)
  have hc' : -2147483648 ≤ n := by have : ¬ n < -2147483648 := hc; omega
  congr 2
  unfold small
  rw [decide_eq_true hc', Bool.true_and, ← decide_not, decide_eq_decide]
  show (2147483647 : Int) < n ↔ _
  omega
theorem qP (e : ar 45 p.fs = f45) {ns : List Int} (r : cY h 1 (fun l n => l = [i64 n]) x ns) (hn : ns.length < 9223372036854775807) : Cv p 45 [x] h (.bool (ns.all small)) h := by
 obtain ⟨q, o, sl, g⟩ := cY.sl r
 have key : ∃ s, (s = .ret (T0 (.bool (ns.all small))) h ∨ (∃ r', s = .ex 0 r' h) ∧ ns.all small = true) ∧ Rn p (.loop (.ah wg (.ah zO .skip))) (T33 x (i64 ns.length) i0) h s := by
  refine eU ns.length (Inv := fun i r h' => r = T33 x (i64 ns.length) (i64 i) ∧ h' = h ∧ (ns.take i).all small = true) (fun i r h' hi I => ?_) (fun r h' I => ?_) ns.length 0 _ h (by omega) ⟨rfl, rfl, by simp⟩
  ·obtain ⟨rfl, rfl, I⟩ := I
   obtain ⟨l, l1, l2, rfl⟩ := g i hi
   cases hs : small ns[i] with
   | true =>
    left
    refine ⟨_, _, .dP (r' := T33 x (i64 ns.length) (i64 i)) (h' := h') (fun c i' K => ?_) (.ah (Ev.succ (.all fun m => ?_))), rfl, rfl, by rw [iL hi, I, hs]; rfl⟩
    ·simp only [wg, K3, py, pz, pA, i64, ni, pi]
     (rw [bu, bJ, if_pos (by omega), fD (cG sl hi), aM (aZ l2 rfl), mW, hs, Bool.not_true, fK]; try rfl)
    ·show zO (aw p (exec p (m + 1))) (aG p (exec p (m + 1))) (fun r h => exec p (m + 1) .skip r h) _ h' = _
     simp only [zO, K3, py, pz, pA, i64, i1]
     (rw [nJ, np _ (by unfold dx; simp; omega)]; try rfl)
   | false =>
    right
    refine ⟨_, .inl rfl, .eJ (.aV fun c i' K => ?_)⟩
    simp only [wg, K3, py, pz, pA, i64, ni, pi]
    (rw [bu, bJ, if_pos (by omega), fD (cG sl hi), aM (aZ l2 rfl), mW, hs, Bool.not_false, fZ, all_false hi hs]; try rfl)
  ·obtain ⟨rfl, rfl, I⟩ := I
   refine ⟨_, .inr ⟨⟨T15, rfl⟩, by simpa using I⟩, .dU (.aV fun c i' K => ?_)⟩
   simp only [wg, K3, py, pz, pA, i64]
   (rw [bu, bJ, if_neg (by omega)]; try rfl)
 obtain ⟨s, hs, k⟩ := key
 have k1 : Rn p (.ah k45_1 (.block 0 (.loop (.ah wg (.ah zO .skip))))) (T2 x) h (RS.rec (fun _ _ => s) (fun _ r h => .nm r h) (fun _ _ _ => s) (fun _ _ => s) (fun _ => s) (fun _ _ _ => s) s) := by
  refine .dP (r' := T33 x (i64 ns.length) i0) (h' := h) (fun c i' K => ?_) ?_
  ·simp only [k45_1, K1, zx]
   (rw [bL (gN sl)]; try rfl)
  ·rcases hs with rfl | ⟨⟨r', rfl⟩, _⟩
   ·exact .cT k
   ·exact .bN k
 rcases hs with rfl | ⟨⟨r', rfl⟩, ha⟩
 ·exact .of (r' := T0 (.bool (ns.all small))) (h1 := h) e (by simp) (.dP (r' := T2 x) (h' := h) (fun c i' K => by simp only [k45_0, K1, cP]) (.dt k1)) rfl
 ·refine .of (r' := T0 (.bool (ns.all small))) (h1 := h) e (by simp) (.dP (r' := T2 x) (h' := h) (fun c i' K => by simp only [k45_0, K1, cP]) (.seq k1 (.aV fun c i' K => ?_))) rfl
  rw [ha]; rfl
end
open Go.Cod
noncomputable section
variable {p : Pg} {h0 h h' h1 : Hp} {q : P4} {s : Bs} {x y : AV}
theorem gi (s : Bs) : kr (bz s) h = .ok (.int .i64 (s.length : Int)) h := by rw [bz, Dp, List.length_map]
theorem pJ (e : ar 46 p.fs = f46) {ns : List Bs} (r : cY h 1 (fun l n => l = [bz n]) x ns) (hn : ns.length < 9223372036854775807) : Cv p 46 [x] h (.bool (ns.all Cod.short)) h := by
 obtain ⟨q, o, sl, g⟩ := cY.sl r
 have key : ∃ s, (s = .ret (T0 (.bool (ns.all Cod.short))) h ∨ (∃ r', s = .ex 0 r' h) ∧ ns.all Cod.short = true) ∧ Rn p (.loop (.ah wi .skip)) (T33 x (i64 ns.length) i0) h s := by
  refine eU ns.length (Inv := fun i r h' => r = T33 x (i64 ns.length) (i64 i) ∧ h' = h ∧ (ns.take i).all Cod.short = true) (fun i r h' hi I => ?_) (fun r h' I => ?_) ns.length 0 _ h (by omega) ⟨rfl, rfl, by simp⟩
  ·obtain ⟨rfl, rfl, I⟩ := I
   obtain ⟨l, l1, l2, rfl⟩ := g i hi
   cases hs : Cod.short ns[i] with
   | true =>
    left
    refine ⟨_, _, .aV fun c i' K => ?_, rfl, rfl, by rw [iL hi, I, hs]; rfl⟩
    simp only [wi, K3, py, pz, pA]
    (rw [bu, bJ, if_pos (by omega), fD (cG sl hi), aM (aZ l2 rfl), gi, cq, fP, cq, bJ, if_neg (by unfold Cod.short at hs; simp at hs; show ¬ (65535 : Int) < _; omega), nJ, np _ (by unfold dx; simp; omega)]; try rfl)
   | false =>
    right
    refine ⟨_, .inl rfl, .eJ (.aV fun c i' K => ?_)⟩
    simp only [wi, K3, py, pz, pA]
    (rw [bu, bJ, if_pos (by omega), fD (cG sl hi), aM (aZ l2 rfl), gi, cq, fP, cq, bJ, if_pos (by unfold Cod.short at hs; simp at hs; show (65535 : Int) < _; omega), all_false hi hs]; try rfl)
  ·obtain ⟨rfl, rfl, I⟩ := I
   refine ⟨_, .inr ⟨⟨T33 x (i64 ns.length) (i64 ns.length), rfl⟩, by simpa using I⟩, .dU (.aV fun c i' K => ?_)⟩
   simp only [wi, K3, py, pz, pA]
   (rw [bu, bJ, if_neg (by omega)]; try rfl)
 obtain ⟨s, hs, k⟩ := key
 have k1 : Rn p (.ah k46_1 (.block 0 (.loop (.ah wi .skip)))) (T2 x) h (RS.rec (fun _ _ => s) (fun _ r h => .nm r h) (fun _ _ _ => s) (fun _ _ => s) (fun _ => s) (fun _ _ _ => s) s) := by
  refine .dP (r' := T33 x (i64 ns.length) i0) (h' := h) (fun c i' K => ?_) ?_
  ·simp only [k46_1, K1, zx]
   (rw [bL (gN sl)]; try rfl)
  ·rcases hs with rfl | ⟨⟨r', rfl⟩, _⟩
   ·exact .cT k
   ·exact .bN k
 rcases hs with rfl | ⟨⟨r', rfl⟩, ha⟩
 ·exact .of (r' := T0 (.bool (ns.all Cod.short))) (h1 := h) e (by simp) (.dP (r' := T2 x) (h' := h) (fun c i' K => by simp only [k46_0, K1, cP]) (.dt k1)) rfl
 ·refine .of (r' := T0 (.bool (ns.all Cod.short))) (h1 := h) e (by simp) (.dP (r' := T2 x) (h' := h) (fun c i' K => by simp only [k46_0, K1, cP]) (.seq k1 (.aV fun c i' K => ?_))) rfl
  rw [ha]; rfl
theorem Jd (W : Wf h) {el : Nat} {v z : AV} (hv : v.one = true) (hc : AV.cs v = [v]) (ha : v.asAgg = .no) : ∃ j h', Seat.bs el 1 1 [z] [.mk 0 1 (.c v)] h = .ok (.slice j 0 1 1) h' ∧ Cs h' j 0 [v] ∧ Old h h' ∧ Wf h' := by
 obtain ⟨j, h1, f1, f2, f3, f4, f5, f6⟩ := gE (el := el) (es := 1) (n := 1) (z := [z]) (ps := [.mk 0 1 (.c v)]) (l := [v]) W (by
  show (OL.rec (@Bool.rec (fun _ => Bool) false true (Bool.and v.one (Nat.beq 1 1))) (fun l => @Bool.rec (fun _ => Bool) false true (Nat.beq l.length 1)) v.asAgg : Bool) = true
  rw [ha, hv]; rfl) (by show nE (AV.cs v) 0 [z] = [v]; rw [hc]; rfl) (by simp)
 exact ⟨j, h1, f1, f3.cs (k := 0) (fun j hj => ⟨by omega, by simp⟩) (by simp), f4, f5⟩
theorem Dy (W : Wf h) {el : Nat} {z : AV} (n : Int) : ∃ x h', Seat.bs el 1 1 [z] [.mk 0 1 (.c (i64 n))] h = .ok x h' ∧ cY h' 1 (fun l n => l = [i64 n]) x [n] ∧ Old h h' ∧ Wf h' := by
 obtain ⟨j, h1, f1, f2, f3, f4⟩ := Jd W (el := el) (v := i64 n) (z := z) rfl rfl rfl
 refine ⟨_, h1, f1, ⟨j, 0, .inl ⟨1, by simp, rfl⟩, fun i hi => ⟨_, rfl, ?_, rfl⟩⟩, f3, f4⟩
 have : i = 0 := by simpa using hi
 subst this
 simpa using f2
theorem xL (W : Wf h) {el : Nat} {z : AV} (n : Bs) : ∃ x h', Seat.bs el 1 1 [z] [.mk 0 1 (.c (bz n))] h = .ok x h' ∧ cY h' 1 (fun l n => l = [bz n]) x [n] ∧ Old h h' ∧ Wf h' := by
 obtain ⟨j, h1, f1, f2, f3, f4⟩ := Jd W (el := el) (v := bz n) (z := z) rfl rfl rfl
 refine ⟨_, h1, f1, ⟨j, 0, .inl ⟨1, by simp, rfl⟩, fun i hi => ⟨_, rfl, ?_, rfl⟩⟩, f3, f4⟩
 have : i = 0 := by simpa using hi
 subst this
 simpa using f2
end
open Go.Cod
noncomputable section
variable {p : Pg} {h0 h h' h1 : Hp} {q j : P4} {s : Bs} {x y a b d : AV}
theorem Mh (e38 : ar 45 p.fs = f45) (e39 : ar 46 p.fs = f46) {v : mr} (W : Wf h) (c : Cs h j 0 (iW v)) : ∃ r' h', Os p [of d14 0 r4, ol d15 r14, o d16 (.cI 3 1 1 [i0] [.mk 0 1 r15]), oc d17 45 [r16], o d18 (.un .not r17), m d19 r18,
   .g .h1 .h3 false d20 (.op (.gS 2 r4)), .g .h1 .h3 false d21 (.op (.gT r20)), .g .h1 .h3 false d22 (.op (.cI 9 1 1 [iS] [.mk 0 1 r21])), .g .h1 .h3 false d23 (.call 46 [r22]), .g .h1 .h3 false d24 (.op (.un .not r23)),
   o d25 (.pick r19 (.c (.bool true)) r24)] (T35 (.ptr j 0) a b d) h (.nm r' h') ∧ y8 r' = a ∧ y9 r' = b ∧ y10 r' = d ∧ y25 r' = .bool (!gh v) ∧ Old h h' ∧ Wf h' := by
 obtain ⟨x1, h1, f1, f2, f3, f4⟩ := Dy W (el := 3) (z := i0) v.kind
 have n1 := qP (h := h1) e38 f2 (by simp)
 cases hk : small v.kind with
 | true =>
  have n1 : Cv p 45 [x1] h1 (.bool true) h1 := by simpa [hk] using n1
  obtain ⟨x2, h2, g1, g2, g3, g4⟩ := xL f4 (el := 9) (z := iS) v.s
  have n2 : Cv p 46 [x2] h2 (.bool (Cod.short v.s)) h2 := by simpa using pJ (h := h2) e39 g2 (by simp)
  refine ⟨_, h2, .step (v := .ptr j 0) (h' := h) rfl <| .step (v := i64 v.kind) (h' := h) (aZ c rfl) <| .step (v := x1) (h' := h1) f1 <| .call (v := .bool true) (h' := h1) n1 <|
   .step (v := .bool false) (h' := h1) rfl <| .step (v := .bool false) (h' := h1) rfl <| .on rfl <| .step (v := .ptr j 2) (h' := h1) rfl <| .on rfl <| .step (v := bz v.s) (h' := h1) (aq (c.old f3) 2 rfl) <|
   .on rfl <| .step (v := x2) (h' := h2) g1 <| .on rfl <| .call (v := .bool (Cod.short v.s)) (h' := h2) n2 <| .on rfl <| .step (v := .bool (!Cod.short v.s)) (h' := h2) (eY _) <| .step (v := .bool (!Cod.short v.s)) (h' := h2) rfl <| .nil,
   rfl, rfl, rfl, ?_, f3.trans g3, g4⟩
  unfold gh
  rw [hk]; rfl
 | false =>
  have n1 : Cv p 45 [x1] h1 (.bool false) h1 := by simpa [hk] using n1
  refine ⟨_, h1, .step (v := .ptr j 0) (h' := h) rfl <| .step (v := i64 v.kind) (h' := h) (aZ c rfl) <| .step (v := x1) (h' := h1) f1 <| .call (v := .bool false) (h' := h1) n1 <|
   .step (v := .bool true) (h' := h1) rfl <| .step (v := .bool true) (h' := h1) rfl <| .off rfl <| .off rfl <| .off rfl <| .off rfl <| .off rfl <| .step (v := .bool true) (h' := h1) rfl <| .nil,
   rfl, rfl, rfl, ?_, f3, f4⟩
  unfold gh
  rw [hk]; rfl
theorem Mi {body c A : AC} {bb : Bool} {i : Nat} {r r0 : A2} {P : Hp → Prop} (key : ∃ s, (∃ h', P h' ∧ ((∃ r', s = .ex i r' h' ∧ bb = true) ∨ (s = .ret (T0 (.bool false)) h' ∧ bb = false))) ∧ Rn p (.loop body) r h s)
  (fin : ∀ r' h', Rn p A r' h' (.ret (T0 (.bool true)) h')) (pre : ∀ s, Rn p (.block i (.loop body)) r h s → Rn p c r0 h1 s) : ∃ h', P h' ∧ Rn p (.seq c A) r0 h1 (.ret (T0 (.bool bb)) h') := by
 obtain ⟨s, ⟨h', hp, ⟨r', rfl, rfl⟩ | ⟨rfl, rfl⟩⟩, k⟩ := key
 ·exact ⟨h', hp, .seq (pre _ (.bN k)) (fin _ _)⟩
 ·exact ⟨h', hp, .dt (pre _ (.cT k))⟩
def bh : AC → AC
 | .ah _ x => x
 | .seq _ x => x
 | c => c
theorem Qa (e38 : ar 45 p.fs = f45) (e39 : ar 46 p.fs = f46) (e40 : ar 47 p.fs = f47) (W : Wf h) {row : List mr} (r : dQ h x row) (hn : row.length < 9223372036854775807) :
  ∃ h', Cv p 47 [x] h (.bool (decide (row.length ≤ 255) && row.all gh)) h' ∧ Old h h' ∧ Wf h' := by
 obtain ⟨q, o', sl, g⟩ := cY.sl r
 by_cases hl : row.length ≤ 255
 ·have fin : ∃ h', (Old h h' ∧ Wf h') ∧ Rn p (bh x47) (T2 x) h (.ret (T0 (.bool (row.all gh))) h') := by
   refine Mi (r := T34 x (i64 row.length) i0) (h := h) ?_ (fun r' h' => .aV fun c i K => rfl) (fun s e => .dP (r' := T34 x (i64 row.length) i0) (h' := h) (fun c i K => ?_) e)
   ·refine eU row.length (Inv := fun i r h' => r = T34 x (i64 row.length) (i64 i) ∧ (Old h h' ∧ Wf h') ∧ (row.take i).all gh = true) (fun i r h' hi I => ?_) (fun r h' I => ?_) row.length 0 _ h (by omega) ⟨rfl, ⟨.refl h, W⟩, by simp⟩
    ·obtain ⟨rfl, ⟨O, W'⟩, I⟩ := I
     obtain ⟨l, l1, l2, rfl⟩ := g i hi
     obtain ⟨j, h2, c1, c2, c3, c4, c5, _⟩ := vV (el := 83) W' sl hi (l2.old O) l1 (c0 := .k1 (Y3 i0 i0 iS)) trivial (by decide)
     obtain ⟨r3, h3, o1, o2, o3, o4, o5, o6, o7⟩ := Mh (p := p) (a := x) (b := i64 row.length) (d := i64 i) e38 e39 c5 (c3.cs (k := 0) (m := iW row[i]) (fun j hj => ⟨by omega, by simp⟩) (by simp))
     have s1 : ∀ c i' (K : A2 → Hp → RS), k47_2 c i' K (T34 x (i64 row.length) (i64 i)) h' = K (T34 x (i64 row.length) (i64 i)) h' := fun c i' K => by
      simp only [k47_2, K3, t34_8, t34_9, t34_10]
      (rw [bu, bJ, if_pos (by omega)]; try rfl)
     have s2 : ∀ c i' (K : A2 → Hp → RS), k47_3 c i' K (T34 x (i64 row.length) (i64 i)) h' = K (T35 (.ptr j 0) x (i64 row.length) (i64 i)) h2 := fun c i' K => by
      simp only [k47_3, K3, t34_8, t34_9, t34_10]
      (rw [c1]; try rfl)
     have s3 : ∀ c i' (K : A2 → Hp → RS), k47_4 c i' K r3 h3 = Seat.I (.bool (!gh row[i])) (.ret (T0 (.bool false)) h3) (.nm (T34 x (i64 row.length) (i64 i)) h3) := fun c i' K => by
      simp only [k47_4, K4, o2, o3, o4, o5]
     cases hs : gh row[i] with
     | true =>
      refine .inl ⟨_, h3, .dP s1 (.seq (.block (.dP s2 (.seq (.ops o1) (.aV fun c i' K => by rw [s3, hs, Bool.not_true, fK])))) (.aV (s := .nm (T34 x (i64 row.length) (i64 (i + 1))) h3) fun c i' K => ?_)), rfl, ⟨(O.trans c4).trans o6, o7⟩, by rw [iL hi, I, hs]; rfl⟩
      simp only [k47_5, K3, t34_8, t34_9, t34_10]
      (rw [nJ, np _ (by unfold dx; simp; omega)]; try rfl)
     | false =>
      exact .inr ⟨_, ⟨h3, ⟨(O.trans c4).trans o6, o7⟩, .inr ⟨rfl, all_false hi hs⟩⟩, .eJ (.dP s1 (.dt (.cT (.dP s2 (.seq (.ops o1) (.aV fun c i' K => by rw [s3, hs, Bool.not_false, fZ]))))))⟩
    ·obtain ⟨rfl, O, I⟩ := I
     refine ⟨_, ⟨h', O, .inl ⟨T15, rfl, by simpa using I⟩⟩, .dU (.aV fun c i' K => ?_)⟩
     simp only [k47_2, K3, t34_8, t34_9, t34_10]
     (rw [bu, bJ, if_neg (by omega)]; try rfl)
   ·simp only [k47_1, K1, zx]
    (rw [bL (gN sl)]; try rfl)
  obtain ⟨h', O, k⟩ := fin
  refine ⟨h', .of (r' := T0 (.bool (row.all gh))) (h1 := h') e40 (by simp) (.dP (r' := T2 x) (h' := h) (fun c i K => ?_) k) (by rw [decide_eq_true hl]; rfl), O⟩
  simp only [k47_0, K1, cP]
  (rw [bL (gN sl), fP, cq, bJ, if_neg (by show ¬ (255 : Int) < _; omega)]; try rfl)
 ·refine ⟨h, .of (r' := T0 (.bool false)) (h1 := h) e40 (by simp) (.aV fun c i K => ?_) (by rw [decide_eq_false hl]; rfl), .refl h, W⟩
  simp only [k47_0, K1, cP]
  (rw [bL (gN sl), fP, cq, bJ, if_pos (by show (255 : Int) < _; omega)]; try rfl)
end
open Go.Cod
noncomputable section
variable {p : Pg} {h0 h h' h1 : Hp} {q j : P4} {s : Bs} {x y a b d : AV}
theorem Mj (W : Wf h) {el : Nat} {z : AV} (a b c : Int) : ∃ x h', Seat.bs el 1 3 [z, z, z] [.mk 0 1 (.c (i64 a)), .mk 1 1 (.c (i64 b)), .mk 2 1 (.c (i64 c))] h = .ok x h' ∧ cY h' 1 (fun l n => l = [i64 n]) x [a, b, c] ∧ Old h h' ∧ Wf h' := by
 obtain ⟨j, h1, f1, f2, f3, f4, f5, f6⟩ := gE (el := el) (es := 1) (n := 3) (z := [z, z, z]) (ps := [.mk 0 1 (.c (i64 a)), .mk 1 1 (.c (i64 b)), .mk 2 1 (.c (i64 c))]) (l := [i64 a, i64 b, i64 c]) W rfl rfl (by simp)
 refine ⟨_, h1, f1, ⟨j, 0, .inl ⟨3, by simp, rfl⟩, fun i hi => ⟨_, rfl, f3.cs (k := 0 + i * 1) (m := [i64 ([a, b, c][i])]) (fun k hk => ?_) (by simp at hi ⊢; omega), rfl⟩⟩, f4, f5⟩
 have hk : k = 0 := by simpa using hk
 subst hk
 have hi : i < 3 := hi
 match i, hi with
 | 0, _ => exact ⟨by simp, rfl⟩
 | 1, _ => exact ⟨by simp, rfl⟩
 | 2, _ => exact ⟨by simp, rfl⟩
theorem Mk (W : Wf h) {el : Nat} {z : AV} (a b : Bs) : ∃ x h', Seat.bs el 1 2 [z, z] [.mk 0 1 (.c (bz a)), .mk 1 1 (.c (bz b))] h = .ok x h' ∧ cY h' 1 (fun l n => l = [bz n]) x [a, b] ∧ Old h h' ∧ Wf h' := by
 obtain ⟨j, h1, f1, f2, f3, f4, f5, f6⟩ := gE (el := el) (es := 1) (n := 2) (z := [z, z]) (ps := [.mk 0 1 (.c (bz a)), .mk 1 1 (.c (bz b))]) (l := [bz a, bz b]) W rfl rfl (by simp)
 refine ⟨_, h1, f1, ⟨j, 0, .inl ⟨2, by simp, rfl⟩, fun i hi => ⟨_, rfl, f3.cs (k := 0 + i * 1) (m := [bz ([a, b][i])]) (fun k hk => ?_) (by simp at hi ⊢; omega), rfl⟩⟩, f4, f5⟩
 have hk : k = 0 := by simpa using hk
 subst hk
 have hi : i < 2 := hi
 match i, hi with
 | 0, _ => exact ⟨by simp, rfl⟩
 | 1, _ => exact ⟨by simp, rfl⟩
theorem cY.len {α : Type} {es : Nat} {f : List AV → α → Prop} {x : AV} {xs : List α} (r : cY h es f x xs) : Am.len x h = .ok (.int .i64 (xs.length : Int)) h := by
 obtain ⟨q, o, sl, _⟩ := cY.sl r
 exact gN sl
def fst : AC → AC
 | .seq a _ => a
 | .ah _ a => a
 | .block _ a => a
 | .loop a => a
 | c => c
def dp : Nat → AC → AC
 | 0, c => c
 | n + 1, c => dp n (fst c)
def opsL : AC → List GI
 | .ops l => l
 | _ => []
theorem Oq (n : Nat) : bK .gt (i64 n) (pi 255) h = .ok (.bool (!decide (n ≤ 255))) h := by
 show dj (.int .i64 n) (.int .i64 (.ofNat 255)) h = _
 rw [fP, ← decide_not]
 congr 2
 rw [decide_eq_decide]
 show (255 : Int) < _ ↔ _
 omega
def kX (e : oI) : Bool := (small e.aA && small e.seq && small e.kind) && (Cod.short e.name && Cod.short e.text) && decide (e.bU.length ≤ 255) && decide (e.changes.length ≤ 255)
theorem Ml (e38 : ar 45 p.fs = f45) (e39 : ar 46 p.fs = f46) {e : oI} (W : Wf h) (c : Cs h j 0 (cX x y e)) (r1 : aQ h x e.bU) (r2 : bE h y e.changes) :
  ∃ r' h', Os p (opsL (fst (fst (bh x28)))) (T12 (.ptr j 0)) h (.nm r' h') ∧ y1 r' = .ptr j 0 ∧ y36 r' = .bool (!kX e) ∧ Old h h' ∧ Wf h' := by
 obtain ⟨x1, h1, f1, f2, f3, f4⟩ := Mj W (el := 3) (z := i0) e.aA e.seq e.kind
 have n1 := qP (h := h1) e38 f2 (by simp)
 cases hk : [e.aA, e.seq, e.kind].all small with
 | false =>
  rw [hk] at n1
  refine ⟨_, h1, .step (v := .ptr j 0) (h' := h) rfl <| .step (v := i64 e.aA) (h' := h) (aZ c rfl) <| .step (v := .ptr j 1) (h' := h) rfl <| .step (v := i64 e.seq) (h' := h) (aq c 1 rfl) <| .step (v := .ptr j 2) (h' := h) rfl <| .step (v := i64 e.kind) (h' := h) (aq c 2 rfl) <| .step (v := x1) (h' := h1) f1 <| .call (v := .bool false) (h' := h1) n1 <| .step (v := .bool true) (h' := h1) rfl <| .step (v := .bool true) (h' := h1) rfl <| .off rfl <| .off rfl <| .off rfl <| .off rfl <| .off rfl <| .off rfl <| .off rfl <| .step (v := .bool true) (h' := h1) rfl <| .step (v := .bool true) (h' := h1) rfl <| .off rfl <| .off rfl <| .off rfl <| .off rfl <| .step (v := .bool true) (h' := h1) rfl <| .step (v := .bool true) (h' := h1) rfl <| .off rfl <| .off rfl <| .off rfl <| .off rfl <| .step (v := .bool true) (h' := h1) rfl <| .nil, rfl, ?_, f3, f4⟩
  have : (small e.aA && small e.seq && small e.kind) = false := by simpa [Bool.and_assoc] using hk
  unfold kX; rw [this]; rfl
 | true =>
  rw [hk] at n1
  have k1 : (small e.aA && small e.seq && small e.kind) = true := by simpa [Bool.and_assoc] using hk
  obtain ⟨x2, h2, g1, g2, g3, g4⟩ := Mk f4 (el := 9) (z := iS) e.name e.text
  have n2 := pJ (h := h2) e39 g2 (by simp)
  cases hk2 : [e.name, e.text].all Cod.short with
  | false =>
   rw [hk2] at n2
   refine ⟨_, h2, .step (v := .ptr j 0) (h' := h) rfl <| .step (v := i64 e.aA) (h' := h) (aZ c rfl) <| .step (v := .ptr j 1) (h' := h) rfl <| .step (v := i64 e.seq) (h' := h) (aq c 1 rfl) <| .step (v := .ptr j 2) (h' := h) rfl <| .step (v := i64 e.kind) (h' := h) (aq c 2 rfl) <| .step (v := x1) (h' := h1) f1 <| .call (v := .bool true) (h' := h1) n1 <| .step (v := .bool false) (h' := h1) rfl <| .step (v := .bool false) (h' := h1) rfl <| .on rfl <| .step (v := .ptr j 3) (h' := h1) rfl <| .on rfl <| .step (v := bz e.name) (h' := h1) (aq (c.old f3) 3 rfl) <| .on rfl <| .step (v := .ptr j 4) (h' := h1) rfl <| .on rfl <| .step (v := bz e.text) (h' := h1) (aq (c.old f3) 4 rfl) <| .on rfl <| .step (v := x2) (h' := h2) g1 <| .on rfl <| .call (v := .bool false) (h' := h2) n2 <| .on rfl <| .step (v := .bool true) (h' := h2) rfl <| .step (v := .bool true) (h' := h2) rfl <| .step (v := .bool true) (h' := h2) rfl <| .off rfl <| .off rfl <| .off rfl <| .off rfl <| .step (v := .bool true) (h' := h2) rfl <| .step (v := .bool true) (h' := h2) rfl <| .off rfl <| .off rfl <| .off rfl <| .off rfl <| .step (v := .bool true) (h' := h2) rfl <| .nil, rfl, ?_, f3.trans g3, g4⟩
   have : (Cod.short e.name && Cod.short e.text) = false := by simpa using hk2
   unfold kX; rw [k1, this]; rfl
  | true =>
   rw [hk2] at n2
   have k2 : (Cod.short e.name && Cod.short e.text) = true := by simpa using hk2
   have gt3 := Oq (h := h2) e.bU.length
   have gt4 := Oq (h := h2) e.changes.length
   cases hk3 : decide (e.bU.length ≤ 255) with
   | false =>
    rw [hk3] at gt3
    refine ⟨_, h2, .step (v := .ptr j 0) (h' := h) rfl <| .step (v := i64 e.aA) (h' := h) (aZ c rfl) <| .step (v := .ptr j 1) (h' := h) rfl <| .step (v := i64 e.seq) (h' := h) (aq c 1 rfl) <| .step (v := .ptr j 2) (h' := h) rfl <| .step (v := i64 e.kind) (h' := h) (aq c 2 rfl) <| .step (v := x1) (h' := h1) f1 <| .call (v := .bool true) (h' := h1) n1 <| .step (v := .bool false) (h' := h1) rfl <| .step (v := .bool false) (h' := h1) rfl <| .on rfl <| .step (v := .ptr j 3) (h' := h1) rfl <| .on rfl <| .step (v := bz e.name) (h' := h1) (aq (c.old f3) 3 rfl) <| .on rfl <| .step (v := .ptr j 4) (h' := h1) rfl <| .on rfl <| .step (v := bz e.text) (h' := h1) (aq (c.old f3) 4 rfl) <| .on rfl <| .step (v := x2) (h' := h2) g1 <| .on rfl <| .call (v := .bool true) (h' := h2) n2 <| .on rfl <| .step (v := .bool false) (h' := h2) rfl <| .step (v := .bool false) (h' := h2) rfl <| .step (v := .bool false) (h' := h2) rfl <| .on rfl <| .step (v := .ptr j 5) (h' := h2) rfl <| .on rfl <| .step (v := x) (h' := h2) (aq (c.old (f3.trans g3)) 5 rfl) <| .on rfl <| .step (v := i64 e.bU.length) (h' := h2) (cY.len (aQ.up r1 (f3.trans g3))) <| .on rfl <| .step (v := .bool true) (h' := h2) gt3 <| .step (v := .bool true) (h' := h2) rfl <| .step (v := .bool true) (h' := h2) rfl <| .off rfl <| .off rfl <| .off rfl <| .off rfl <| .step (v := .bool true) (h' := h2) rfl <| .nil, rfl, ?_, f3.trans g3, g4⟩
    unfold kX; rw [k1, k2, hk3]; rfl
   | true =>
    rw [hk3] at gt3
    refine ⟨_, h2, .step (v := .ptr j 0) (h' := h) rfl <| .step (v := i64 e.aA) (h' := h) (aZ c rfl) <| .step (v := .ptr j 1) (h' := h) rfl <| .step (v := i64 e.seq) (h' := h) (aq c 1 rfl) <| .step (v := .ptr j 2) (h' := h) rfl <| .step (v := i64 e.kind) (h' := h) (aq c 2 rfl) <| .step (v := x1) (h' := h1) f1 <| .call (v := .bool true) (h' := h1) n1 <| .step (v := .bool false) (h' := h1) rfl <| .step (v := .bool false) (h' := h1) rfl <| .on rfl <| .step (v := .ptr j 3) (h' := h1) rfl <| .on rfl <| .step (v := bz e.name) (h' := h1) (aq (c.old f3) 3 rfl) <| .on rfl <| .step (v := .ptr j 4) (h' := h1) rfl <| .on rfl <| .step (v := bz e.text) (h' := h1) (aq (c.old f3) 4 rfl) <| .on rfl <| .step (v := x2) (h' := h2) g1 <| .on rfl <| .call (v := .bool true) (h' := h2) n2 <| .on rfl <| .step (v := .bool false) (h' := h2) rfl <| .step (v := .bool false) (h' := h2) rfl <| .step (v := .bool false) (h' := h2) rfl <| .on rfl <| .step (v := .ptr j 5) (h' := h2) rfl <| .on rfl <| .step (v := x) (h' := h2) (aq (c.old (f3.trans g3)) 5 rfl) <| .on rfl <| .step (v := i64 e.bU.length) (h' := h2) (cY.len (aQ.up r1 (f3.trans g3))) <| .on rfl <| .step (v := .bool false) (h' := h2) gt3 <| .step (v := .bool false) (h' := h2) rfl <| .step (v := .bool false) (h' := h2) rfl <| .on rfl <| .step (v := .ptr j 6) (h' := h2) rfl <| .on rfl <| .step (v := y) (h' := h2) (aq (c.old (f3.trans g3)) 6 rfl) <| .on rfl <| .step (v := i64 e.changes.length) (h' := h2) (cY.len (bE.up r2 (f3.trans g3))) <| .on rfl <| .step (v := .bool (!decide (e.changes.length ≤ 255))) (h' := h2) gt4 <| .step (v := .bool (!decide (e.changes.length ≤ 255))) (h' := h2) rfl <| .nil, rfl, ?_, f3.trans g3, g4⟩
    unfold kX; rw [k1, k2, hk3]; rfl
theorem Mm (e38 : ar 45 p.fs = f45) (e39 : ar 46 p.fs = f46) {cl : Bs × Int} (W : Wf h) (c : Cs h j 0 [bz cl.1, i64 cl.2]) :
  ∃ r' h', Os p (opsL (dp 9 (bh (bh x28)))) (T29 a (.ptr j 0) b d y) h (.nm r' h') ∧ y1 r' = a ∧ y38 r' = b ∧ y39 r' = d ∧ y40 r' = y ∧ y55 r' = .bool (!(Cod.short cl.1 && small cl.2)) ∧ Old h h' ∧ Wf h' := by
 obtain ⟨x1, h1, f1, f2, f3, f4⟩ := Dy W (el := 3) (z := i0) cl.2
 have n1 := qP (h := h1) e38 f2 (by simp)
 cases hk : small cl.2 with
 | true =>
  have n1 : Cv p 45 [x1] h1 (.bool true) h1 := by simpa [hk] using n1
  obtain ⟨x2, h2, g1, g2, g3, g4⟩ := xL f4 (el := 9) (z := iS) cl.1
  have n2 : Cv p 46 [x2] h2 (.bool (Cod.short cl.1)) h2 := by simpa using pJ (h := h2) e39 g2 (by simp)
  refine ⟨_, h2, .step (v := .ptr j 1) (h' := h) rfl <| .step (v := i64 cl.2) (h' := h) (aq c 1 rfl) <| .step (v := x1) (h' := h1) f1 <| .call (v := .bool true) (h' := h1) n1 <| .step (v := .bool false) (h' := h1) rfl <| .step (v := .bool false) (h' := h1) rfl <| .on rfl <| .step (v := .ptr j 0) (h' := h1) rfl <| .on rfl <| .step (v := bz cl.1) (h' := h1) (aZ (c.old f3) rfl) <| .on rfl <| .step (v := x2) (h' := h2) g1 <| .on rfl <| .call (v := .bool (Cod.short cl.1)) (h' := h2) n2 <| .on rfl <| .step (v := .bool (!Cod.short cl.1)) (h' := h2) (eY _) <| .step (v := .bool (!Cod.short cl.1)) (h' := h2) rfl <| .nil, rfl, rfl, rfl, rfl, ?_, f3.trans g3, g4⟩
  rw [Bool.and_true]; rfl
 | false =>
  have n1 : Cv p 45 [x1] h1 (.bool false) h1 := by simpa [hk] using n1
  refine ⟨_, h1, .step (v := .ptr j 1) (h' := h) rfl <| .step (v := i64 cl.2) (h' := h) (aq c 1 rfl) <| .step (v := x1) (h' := h1) f1 <| .call (v := .bool false) (h' := h1) n1 <| .step (v := .bool true) (h' := h1) rfl <| .step (v := .bool true) (h' := h1) rfl <| .off rfl <| .off rfl <| .off rfl <| .off rfl <| .off rfl <| .step (v := .bool true) (h' := h1) rfl <| .nil, rfl, rfl, rfl, rfl, ?_, f3, f4⟩
  rw [Bool.and_false]; rfl
def Qb (r : List mr) : Bool := decide (r.length ≤ 255) && r.all gh
theorem Mn (e38 : ar 45 p.fs = f45) (e39 : ar 46 p.fs = f46) (e40 : ar 47 p.fs = f47) {cg : oH} (W : Wf h) (c : Cs h j 0 (uZ x cg)) (r : dQ h x cg.row) (hn : cg.row.length < 9223372036854775807) :
  ∃ r' h', Os p (opsL (dp 9 (bh (bh (bh x28))))) (T31 (.ptr j 0) a b d) h (.nm r' h') ∧ y58 r' = a ∧ y59 r' = b ∧ y60 r' = d ∧ y74 r' = .bool (!kR cg) ∧ Old h h' ∧ Wf h' := by
 obtain ⟨x1, h1, f1, f2, f3, f4⟩ := xL W (el := 9) (z := iS) cg.table
 have n1 := pJ (h := h1) e39 f2 (by simp)
 cases hk : Cod.short cg.table with
 | true =>
  have n1 : Cv p 46 [x1] h1 (.bool true) h1 := by simpa [hk] using n1
  obtain ⟨h2, n2, g3, g4⟩ := Qa (p := p) e38 e39 e40 f4 (dQ.up r f3) hn
  refine ⟨_, h2, .step (v := .ptr j 0) (h' := h) rfl <| .step (v := bz cg.table) (h' := h) (aZ c rfl) <| .step (v := x1) (h' := h1) f1 <| .call (v := .bool true) (h' := h1) n1 <| .step (v := .bool false) (h' := h1) rfl <| .step (v := .bool false) (h' := h1) rfl <| .on rfl <| .step (v := .ptr j 1) (h' := h1) rfl <| .on rfl <| .step (v := x) (h' := h1) (aq (c.old f3) 1 rfl) <| .on rfl <| .call (v := .bool (Qb cg.row)) (h' := h2) n2 <| .on rfl <| .step (v := .bool (!Qb cg.row)) (h' := h2) (eY _) <| .step (v := .bool (!Qb cg.row)) (h' := h2) rfl <| .nil, rfl, rfl, rfl, ?_, f3.trans g3, g4⟩
  unfold kR; rw [hk, Bool.true_and]; rfl
 | false =>
  have n1 : Cv p 46 [x1] h1 (.bool false) h1 := by simpa [hk] using n1
  refine ⟨_, h1, .step (v := .ptr j 0) (h' := h) rfl <| .step (v := bz cg.table) (h' := h) (aZ c rfl) <| .step (v := x1) (h' := h1) f1 <| .call (v := .bool false) (h' := h1) n1 <| .step (v := .bool true) (h' := h1) rfl <| .step (v := .bool true) (h' := h1) rfl <| .off rfl <| .off rfl <| .off rfl <| .off rfl <| .step (v := .bool true) (h' := h1) rfl <| .nil, rfl, rfl, rfl, ?_, f3, f4⟩
  unfold kR; rw [hk]; rfl
theorem zP {α : Type} {f : List AV → α → Prop} {es el : Nat} {c0 : Cl} {xs : List α} {pred : α → Bool} {R : Nat → A2} {Rc : Nat → AV → A2} {kA kB kC kD : KF} {O : List GI} {bl lab : Nat} (rd : cY h es f x xs) (W : Wf h) (g0 : Gd c0) (g1 : es ≤ bA c0)
  (hA : ∀ i h c i' K, i < xs.length → kA c i' K (R i) h = K (R i) h) {Re : A2} (hE : ∀ h c i' K, kA c i' K (R xs.length) h = .ex lab Re h)
  (hB : ∀ i h c i' K, i < xs.length → kB c i' K (R i) h = Seat.X es x (.int .i64 (i : Int)) h (fun g h => Seat.M es g h fun k h => Seat.O el es c0 h fun l h => Seat.S es l k h fun _ h => K (Rc i l) h))
  (hO : ∀ i h2 j l a, i < xs.length → a ∈ xs → f l a → Old h h2 → Wf h2 → Cs h2 j 0 l → ∃ r' h3, Os p O (Rc i (.ptr j 0)) h2 (.nm r' h3) ∧ Old h2 h3 ∧ Wf h3 ∧ ∀ c i' K, kC c i' K r' h3 = Seat.I (.bool (!pred a)) (.ret (T0 (.bool false)) h3) (.nm (R i) h3))
  (hD : ∀ i h c i' K, i < xs.length → kD c i' K (R i) h = .nm (R (i + 1)) h) :
  ∃ s, (∃ h', (Old h h' ∧ Wf h') ∧ ((s = .ex lab Re h' ∧ xs.all pred = true) ∨ (s = .ret (T0 (.bool false)) h' ∧ xs.all pred = false))) ∧ Rn p (.loop (.ah kA (.seq (.block bl (.ah kB (.seq (.ops O) (.ah kC .skip)))) (.ah kD .skip)))) (R 0) h s := by
 obtain ⟨q, o', sl, g⟩ := cY.sl rd
 refine eU xs.length (Inv := fun i r h' => r = R i ∧ (Old h h' ∧ Wf h') ∧ (xs.take i).all pred = true) (fun i r h' hi I => ?_) (fun r h' I => ?_) xs.length 0 _ h (by omega) ⟨rfl, ⟨.refl h, W⟩, by simp⟩
 ·obtain ⟨rfl, ⟨O, W'⟩, I⟩ := I
  obtain ⟨l, l1, l2, l3⟩ := g i hi
  obtain ⟨j, h2, c1, c2, c3, c4, c5, _⟩ := vV (el := el) W' sl hi (l2.old O) l1 (c0 := c0) g0 g1
  obtain ⟨r3, h3, o1, o6, o7, o8⟩ := hO i h2 j l xs[i] hi (by simp) l3 (O.trans c4) c5 (c3.cs (k := 0) (m := l) (fun j hj => ⟨by omega, by simp⟩) (by simp))
  have s2 : ∀ c i' (K : A2 → Hp → RS), kB c i' K (R i) h' = K (Rc i (.ptr j 0)) h2 := fun c i' K => by rw [hB i h' c i' K hi, c1]
  cases hs : pred xs[i] with
  | true =>
   exact .inl ⟨_, h3, .dP (fun c i' K => hA i h' c i' K hi) (.seq (.block (.dP s2 (.seq (.ops o1) (.aV fun c i' K => by rw [o8, hs, Bool.not_true, fK])))) (.aV fun c i' K => hD i h3 c i' K hi)), rfl, ⟨(O.trans c4).trans o6, o7⟩, by rw [iL hi, I, hs]; rfl⟩
  | false =>
   exact .inr ⟨_, ⟨h3, ⟨(O.trans c4).trans o6, o7⟩, .inr ⟨rfl, all_false hi hs⟩⟩, .eJ (.dP (fun c i' K => hA i h' c i' K hi) (.dt (.cT (.dP s2 (.seq (.ops o1) (.aV fun c i' K => by rw [o8, hs, Bool.not_false, fZ]))))))⟩
 ·obtain ⟨rfl, O, I⟩ := I
  exact ⟨_, ⟨h', O, .inl ⟨rfl, by simpa using I⟩⟩, .dU (.aV fun c i' K => hE h' c i' K)⟩
end
open Go.Cod
noncomputable section
variable {p : Pg} {h0 h h' h1 : Hp} {q j : P4} {s : Bs} {x y a b d : AV}
theorem Ob.c0 {el : Nat} {ex : Bool} {fl : Fl} {l : List AV} (o : Ob h j el ex fl l) : Cs h j 0 l := o.cs (k := 0) (m := l) (fun k hk => ⟨by omega, by simp⟩) (by simp)
structure Fc (p : Pg) : Prop where
 e26 : ar 28 p.fs = f28
 e38 : ar 45 p.fs = f45
 e39 : ar 46 p.fs = f46
 e40 : ar 47 p.fs = f47
theorem dT {h : Hp} {k : AV → Hp → RS} {i n : Nat} (hi : i < n) (hn : n < 9223372036854775807) : Seat.D (i64 (i : Int)) i1 h k = k (i64 ((i + 1 : Nat) : Int)) h := by
 rw [nJ, np _ (by unfold dx; simp; omega)]; rfl
theorem ux (T : Fc p) (W : Wf h) {l : List AV} {e : oI} {B : Nat} (r : vZ h l e) (bd : uw B e) (hB : B < 9223372036854775807) : ∃ h', Cv p 28 [.agg l] h (.bool (takes e)) h' ∧ Old h h' ∧ Wf h' := by
 obtain ⟨x, y, rfl, r1, r2⟩ := r
 obtain ⟨b1, b2, b3, b4, b5, b6, b7, b8, b9⟩ := bd
 obtain ⟨j, h1, f1, f2, f3, f4, f5, f6⟩ := mj (el := 26) (l := cX x y e) W (by simp [cX])
 obtain ⟨r3, h3, o1, o2, o3, o4, o5⟩ := Ml (p := p) T.e38 T.e39 f5 (Ob.c0 f3) (aQ.up r1 f4) (bE.up r2 f4)
 have ht : takes e = (kX e && e.bU.all (fun c => Cod.short c.1 && small c.2) && e.changes.all kR) := by unfold takes kX; simp only [Bool.and_assoc]
 have s0 : ∀ c i' (K : A2 → Hp → RS), k28_0 c i' K (bt [.agg (cX x y e)] 0 .nil) h = K (T12 (.ptr j 0)) h1 := fun c i' K => by
  simp only [k28_0, K1, cP]
  (rw [jU f1]; try rfl)
 have s1 : ∀ c i' (K : A2 → Hp → RS), k28_1 c i' K r3 h3 = Seat.I (.bool (!kX e)) (.ret (T0 (.bool false)) h3) (.nm (T12 (.ptr j 0)) h3) := fun c i' K => by simp only [k28_1, K2, o2, o3]
 have out : ∀ (bb : Bool) (h' : Hp), Rn p (bh x28) (T12 (.ptr j 0)) h1 (.ret (T0 (.bool bb)) h') → Cv p 28 [.agg (cX x y e)] h (.bool bb) h' := fun bb h' k => .of T.e26 (by simp) (.dP s0 k) rfl
 cases hk : kX e with
 | false =>
  refine ⟨h3, out _ _ (.dt (.seq (.ops o1) (.aV fun c i' K => ?_))), f4.trans o4, o5⟩
  rw [s1, hk, Bool.not_false, fZ, ht, hk]; rfl
 | true =>
  have O3 := f4.trans o4
  have c3 := (Ob.c0 f3).old o4
  have rc := aQ.up r1 O3
  have a1 : ∀ c i' (K : A2 → Hp → RS), k28_2 c i' K (T12 (.ptr j 0)) h3 = K (T28 (.ptr j 0) x (i64 e.bU.length) i0) h3 := fun c i' K => by
   simp only [k28_2, K1, t12_1]
   (rw [aD, aM (aq c3 5 rfl), bL (cY.len rc)]; try rfl)
  obtain ⟨s4, ⟨h4, ⟨O4, W4⟩, k4⟩, l4⟩ := zP (p := p) (c0 := .k1 (Y2 iS i0)) (el := 70) (pred := fun c : Bs × Int => Cod.short c.1 && small c.2) (R := fun i => T28 (.ptr j 0) x (i64 e.bU.length) (i64 i)) (Rc := fun i l => T29 (.ptr j 0) l x (i64 e.bU.length) (i64 i))
   (kA := k28_3) (kB := k28_4) (kC := k28_5) (kD := k28_6) (O := opsL (dp 9 (bh (bh x28)))) (bl := 1) (lab := 0) rc o5 trivial (by decide)
   (fun i h c i' K hi => by
    simp only [k28_3, K4, t28_1, t28_38, t28_39, t28_40]
    (rw [bu, bJ, if_pos (by omega)]; try rfl))
   (Re := T12 (.ptr j 0)) (fun h c i' K => by
    simp only [k28_3, K4, t28_1, t28_38, t28_39, t28_40]
    (rw [bu, bJ, if_neg (by omega)]; try rfl))
   (fun i h c i' K hi => by simp only [k28_4, K4, t28_1, t28_38, t28_39, t28_40])
   (fun i h2 j2 l cl hi hm hl O2 W2 c2 => by
    subst hl
    obtain ⟨r', h3, p1, p2, p3, p4, p5, p6, p7, p8⟩ := Mm (p := p) (a := .ptr j 0) (b := x) (d := i64 e.bU.length) (y := i64 i) T.e38 T.e39 W2 c2
    exact ⟨r', h3, p1, p7, p8, fun c i' K => by simp only [k28_5, K5, p2, p3, p4, p5, p6]⟩)
   (fun i h c i' K hi => by
    simp only [k28_6, K4, t28_1, t28_38, t28_39, t28_40]
    (rw [dT hi (by omega)]; try rfl))
  rcases k4 with ⟨rfl, ha⟩ | ⟨rfl, ha⟩
  ·have O4' := O3.trans O4
   have c4 := c3.old O4
   have rg := bE.up r2 O4'
   have a2 : ∀ c i' (K : A2 → Hp → RS), k28_7 c i' K (T12 (.ptr j 0)) h4 = K (T30 y (i64 e.changes.length) i0) h4 := fun c i' K => by
    simp only [k28_7, K1, t12_1]
    (rw [aD, aM (aq c4 6 rfl), bL (cY.len rg)]; try rfl)
   obtain ⟨s5, ⟨h5, ⟨O5, W5⟩, k5⟩, l5⟩ := zP (p := p) (c0 := .k1 (Y3 iS .ai (.bool false))) (el := 81) (pred := kR) (R := fun i => T30 y (i64 e.changes.length) (i64 i)) (Rc := fun i l => T31 l y (i64 e.changes.length) (i64 i))
    (kA := k28_8) (kB := k28_9) (kC := k28_10) (kD := k28_11) (O := opsL (dp 9 (bh (bh (bh x28))))) (bl := 3) (lab := 2) rg W4 trivial (by decide)
    (fun i h c i' K hi => by
     simp only [k28_8, K3, t30_58, t30_59, t30_60]
     (rw [bu, bJ, if_pos (by omega)]; try rfl))
    (Re := T15) (fun h c i' K => by
     simp only [k28_8, K3, t30_58, t30_59, t30_60]
     (rw [bu, bJ, if_neg (by omega)]; try rfl))
    (fun i h c i' K hi => by simp only [k28_9, K3, t30_58, t30_59, t30_60])
    (fun i h2 j2 l cg hi hm hl O2 W2 c2 => by
     obtain ⟨z, rfl, hz⟩ := hl
     obtain ⟨r', h3, p1, p2, p3, p4, p5, p6, p7⟩ := Mn (p := p) (a := y) (b := i64 e.changes.length) (d := i64 i) T.e38 T.e39 T.e40 W2 c2 (dQ.up hz O2) (by have := (b9 cg hm).2.1; omega)
     exact ⟨r', h3, p1, p6, p7, fun c i' K => by simp only [k28_10, K4, p2, p3, p4, p5]⟩)
    (fun i h c i' K hi => by
     simp only [k28_11, K3, t30_58, t30_59, t30_60]
     (rw [dT hi (by omega)]; try rfl))
   have pre : ∀ bb h' , Rn p (bh (bh (bh x28))) (T12 (.ptr j 0)) h4 (.ret (T0 (.bool bb)) h') → Rn p (bh x28) (T12 (.ptr j 0)) h1 (.ret (T0 (.bool bb)) h') := fun bb h' k =>
    .seq (.seq (.ops o1) (.aV (s := .nm (T12 (.ptr j 0)) h3) fun c i' K => by rw [s1, hk, Bool.not_true, fK])) (.seq (.dP a1 (.bN l4)) k)
   have hb : takes e = e.changes.all kR := by rw [ht, hk, ha]; simp
   rcases k5 with ⟨rfl, hc⟩ | ⟨rfl, hc⟩
   ·refine ⟨h5, out _ _ (pre _ _ (.seq (.dP a2 (.bN l5)) (.aV fun c i' K => ?_))), O4'.trans O5, W5⟩
    rw [hb, hc]; rfl
   ·refine ⟨h5, out _ _ (pre _ _ (.dt (.dP a2 (.cT ?_)))), O4'.trans O5, W5⟩
    rw [hb, hc]; exact l5
  ·refine ⟨h4, out _ _ (.seq (.seq (.ops o1) (.aV (s := .nm (T12 (.ptr j 0)) h3) fun c i' K => ?_)) (.dt (.dP a1 (.cT ?_)))), O3.trans O4, W4⟩
   ·rw [s1, hk, Bool.not_true, fK]
   ·rw [ht, hk, ha]
    exact l4
end
open Go.Cod
noncomputable section
variable {p : Pg} {h0 h h' h1 : Hp} {q j : P4} {s : Bs} {x y a b d e f : AV}
theorem dS {α : Type} {g : α → Bs} {l : List α} {i : Nat} (hi : i < l.length) : (l.take (i + 1)).flatMap g = (l.take i).flatMap g ++ g l[i] := by
 rw [List.take_succ_eq_append_getElem hi, List.flatMap_append]; simp
theorem gY {α : Type} {g : α → Bs} (l : List α) (i : Nat) : ((l.take i).flatMap g).length ≤ (l.flatMap g).length := by
 conv => rhs; rw [← List.take_append_drop i l, List.flatMap_append, List.length_append]
 omega
theorem Wr.copy (w : Wr h0 h q s) {es n el o i : Nat} {x : AV} {q' : P4} {l : List AV} (sl : zB x es n q' o) (hi : i < n) (c : Cs h0 q' (o + i * es) l) (hl : l.length = es) {c0 : Cl} (hc : Gd c0) (hr : es ≤ bA c0) :
  ∃ j h1 h0', (∀ K : AV → Hp → RS, Seat.X es x (.int .i64 (i : Int)) h (fun g h => Seat.M es g h fun k h => Seat.O el es c0 h fun l h => Seat.S es l k h fun _ h => K l h) = K (.ptr j 0) h1) ∧ Old h0 h0' ∧ Wr h0' h1 q s ∧ Cs h0' j 0 l := by
 obtain ⟨j, h1, c1, c2, c3, c4, c5, _⟩ := vV (el := el) w.wf sl hi (c.old w.old) hl hc hr
 obtain ⟨h0', g1, g2, g3⟩ := w.base c4 c5
 exact ⟨j, h1, h0', c1, g1, g2, (Ob.c0 c3).eq (g3 j c2)⟩
theorem Je (T : Dw p) {row : List mr} (w : Wr h0 h q s) (r : dQ h0 x row) (hs : s.length + (row.flatMap mu).length ≤ 16777216) (hn : row.length < 9223372036854775807) :
  ∃ h', Rn p (.loop (.ah zQ .skip)) (T21 (.ptr q 0) a b d e x (i64 row.length) i0) h (.ex 4 (T21 (.ptr q 0) a b d e x (i64 row.length) (i64 row.length)) h') ∧ Wr h0 h' q (s ++ row.flatMap mu) := by
 obtain ⟨q', o', sl, g⟩ := cY.sl r
 obtain ⟨r', h', ⟨_, I⟩, k⟩ := gW (p := p) (body := .ah zQ .skip) (r := T21 (.ptr q 0) a b d e x (i64 row.length) i0) (h := h) row.length
  (Inv := fun i r h => r = T21 (.ptr q 0) a b d e x (i64 row.length) (i64 i) ∧ Wr h0 h q (s ++ (row.take i).flatMap mu)) (l := 4) (Re := T21 (.ptr q 0) a b d e x (i64 row.length) (i64 row.length)) (fun i r h hi I => by
   obtain ⟨rfl, w⟩ := I
   obtain ⟨l, l1, l2, rfl⟩ := g i hi
   obtain ⟨j, h1, h0', c1, c2, c3, c4⟩ := w.copy (el := 83) sl hi l2 l1 (c0 := .k1 (Y3 i0 i0 iS)) trivial (by decide)
   have hz : (s ++ (row.take i).flatMap mu).length + (mu row[i]).length ≤ 16777216 := by
    have := gY (g := mu) row (i + 1)
    rw [dS hi, List.length_append] at this
    rw [List.length_append]; omega
   have hv : (mu row[i]).length = 8 + 8 + (2 + row[i].s.length) := by unfold mu; simp only [List.length_append, aK, aL]
   obtain ⟨h2, a1, w2⟩ := kV T c3 (n := row[i].kind) (by omega)
   obtain ⟨h3, a2, w3⟩ := kV T w2 (n := row[i].n) (by rw [List.length_append, aK]; omega)
   obtain ⟨h4, a3, w4⟩ := kW T w3 (t := row[i].s) (by rw [List.length_append, List.length_append, aK, aK]; omega)
   refine ⟨T21 (.ptr q 0) a b d e x (i64 row.length) (i64 (i + 1 : Nat)), h4, .ah ((a1.and (a2.and a3)).mono fun m g => ?_), rfl, ?_⟩
   ·obtain ⟨g1, g2, g3⟩ := g
    simp only [zQ, K8, t21_3, t21_7, t21_62, t21_63, t21_64, t21_78, t21_79, t21_80]
    (rw [bu, bJ, if_pos (by omega), c1, aD, aM (aZ (c4.old c3.old) rfl), aF g1, aD, aM (aq (c4.old w2.old) 1 rfl), aF g2, aD, aM (aq (c4.old w3.old) 2 rfl), aF g3, dT hi hn]; try rfl)
   ·have := w4.Ta c2
    rw [dS hi, mu]
    simpa only [List.append_assoc] using this) (fun r h I => by
   obtain ⟨rfl, w⟩ := I
   refine .aV fun c i K => ?_
   simp only [zQ, K8, t21_3, t21_7, t21_62, t21_63, t21_64, t21_78, t21_79, t21_80]
   (rw [bu, bJ, if_neg (by omega)]; try rfl)) ⟨rfl, by simpa using w⟩
 exact ⟨h', k, by simpa using I⟩
theorem zR (c : oH) : (mw c).length = (2 + c.table.length) + 1 + (c.row.flatMap mu).length + 1 := by unfold mw; simp only [List.length_append, aL, bm]
theorem Jf (T : Dw p) {cs : List oH} (w : Wr h0 h q s) (r : bE h0 x cs) (hs : s.length + (cs.flatMap mw).length ≤ 16777216) (hn : cs.length < 9223372036854775807) (hr : ∀ c, c ∈ cs → c.row.length < 9223372036854775807) :
  ∃ h', Rn p (dp 3 (bh (bh (bh (bh x17))))) (T18 (.ptr q 0) x (i64 cs.length) i0) h (.ex 2 (T19 (.ptr q 0)) h') ∧ Wr h0 h' q (s ++ cs.flatMap mw) := by
 obtain ⟨q', o', sl, g⟩ := cY.sl r
 obtain ⟨r', h', ⟨_, I⟩, k⟩ := gW (p := p) (body := dp 4 (bh (bh (bh (bh x17))))) (r := T18 (.ptr q 0) x (i64 cs.length) i0) (h := h) cs.length
  (Inv := fun i r h => r = T18 (.ptr q 0) x (i64 cs.length) (i64 i) ∧ Wr h0 h q (s ++ (cs.take i).flatMap mw)) (l := 2) (Re := T19 (.ptr q 0)) (fun i r h hi I => by
   obtain ⟨rfl, w⟩ := I
   obtain ⟨l, l1, l2, z, rfl, hrow⟩ := g i hi
   obtain ⟨j, h1, h0', c1, c2, c3, c4⟩ := w.copy (el := 81) sl hi l2 l1 (c0 := .k1 (Y3 iS .ai (.bool false))) trivial (by decide)
   have hz : (s ++ (cs.take i).flatMap mw).length + (mw cs[i]).length ≤ 16777216 := by
    have := gY (g := mw) cs (i + 1)
    rw [dS hi, List.length_append] at this
    rw [List.length_append]; omega
   rw [zR] at hz
   have hl := hr cs[i] (by simp)
   obtain ⟨h2, a1, w2⟩ := kW T c3 (t := cs[i].table) (by omega)
   obtain ⟨h3, a2, w3⟩ := pI T w2 (n := cs[i].row.length) (by rw [List.length_append, aL]; omega)
   have hrow' : dQ h0' z cs[i].row := dQ.up hrow c2
   obtain ⟨h4, a3, w4⟩ := Je (p := p) (a := .ptr j 0) (b := x) (d := i64 cs.length) (e := i64 i) T w3 hrow' (by rw [List.length_append, List.length_append, aL, bm]; omega) hl
   obtain ⟨h5, a4, w5⟩ := pI T w4 (n := if cs[i].remove then 1 else 0) (by rw [List.length_append, List.length_append, List.length_append, aL, bm]; omega)
   have s1 : ∀ c i' (K : A2 → Hp → RS), k17_6 c i' K (T18 (.ptr q 0) x (i64 cs.length) (i64 i)) h = K (T18 (.ptr q 0) x (i64 cs.length) (i64 i)) h := fun c i' K => by
    simp only [k17_6, K4, t18_3, t18_62, t18_63, t18_64]
    (rw [bu, bJ, if_pos (by omega)]; try rfl)
   have s2 : Ev fun m => ∀ K : A2 → Hp → RS, k17_7 (aw p (exec p m)) (aG p (exec p m)) K (T18 (.ptr q 0) x (i64 cs.length) (i64 i)) h = K (T20 (.ptr q 0) (.ptr j 0) x (i64 cs.length) (i64 i)) h3 := (a1.and a2).mono fun m g K => by
    obtain ⟨g1, g2⟩ := g
    simp only [k17_7, K4, t18_3, t18_62, t18_63, t18_64]
    (rw [c1, aD, aM (aZ (c4.old c3.old) rfl), aF g1, aD, aM (aq (c4.old w2.old) 1 rfl), bL (cY.len (dQ.up hrow' w2.old)), aF g2]; try rfl)
   have s3 : ∀ c i' (K : A2 → Hp → RS), k17_8 c i' K (T20 (.ptr q 0) (.ptr j 0) x (i64 cs.length) (i64 i)) h3 = K (T21 (.ptr q 0) (.ptr j 0) x (i64 cs.length) (i64 i) z (i64 cs[i].row.length) i0) h3 := fun c i' K => by
    simp only [k17_8, K5, t20_3, t20_7, t20_62, t20_63, t20_64]
    (rw [aD, aM (aq (c4.old w3.old) 1 rfl), bL (cY.len (dQ.up hrow' w3.old))]; try rfl)
   have s4 : Rn p (.ah k17_10 .skip) (T21 (.ptr q 0) (.ptr j 0) x (i64 cs.length) (i64 i) z (i64 cs[i].row.length) (i64 cs[i].row.length)) h4 (.nm (T18 (.ptr q 0) x (i64 cs.length) (i64 i)) h5) := .ah (a4.mono fun m g4 => by
    simp only [k17_10, K5, t21_3, t21_7, t21_62, t21_63, t21_64]
    (rw [aD, aM (aq (c4.old w4.old) 2 rfl), Sj]; try rfl)
    cases hb : cs[i].remove with
    | true =>
     rw [hb] at g4
     rw [if_pos rfl]
     exact aF g4
    | false =>
     rw [hb] at g4
     rw [if_neg (by simp)]
     exact aF g4)
   have s5 : ∀ c i' (K : A2 → Hp → RS), k17_11 c i' K (T18 (.ptr q 0) x (i64 cs.length) (i64 i)) h5 = .nm (T18 (.ptr q 0) x (i64 cs.length) (i64 (i + 1 : Nat))) h5 := fun c i' K => by
    simp only [k17_11, K4, t18_3, t18_62, t18_63, t18_64]
    (rw [dT hi hn]; try rfl)
   refine ⟨_, h5, .dP s1 (.seq (.block (.to s2 (.seq (.dP s3 (.bN a3)) s4))) (.aV s5)), rfl, ?_⟩
   have w6 := w5.Ta c2
   rw [sj _ (by omega)] at w6
   have hb : u64 (if cs[i].remove then 1 else 0) = if cs[i].remove then 1 else 0 := by split <;> rfl
   rw [hb] at w6
   rw [dS hi, mw]
   simpa only [List.append_assoc] using w6) (fun r h I => by
   obtain ⟨rfl, w⟩ := I
   refine .aV fun c i K => ?_
   simp only [k17_6, K4, t18_3, t18_62, t18_63, t18_64]
   (rw [bu, bJ, if_neg (by omega)]; try rfl)) ⟨rfl, by simpa using w⟩
 exact ⟨h', k, by simpa using I⟩
theorem Jg (T : Dw p) {cs : List (Bs × Int)} (w : Wr h0 h q s) (r : aQ h0 x cs) (hs : s.length + (cs.flatMap my).length ≤ 16777216) (hn : cs.length < 9223372036854775807) :
  ∃ h', Rn p (dp 3 (bh (bh x17))) (T17 a (.ptr q 0) x (i64 cs.length) i0) h (.ex 0 (T17 a (.ptr q 0) x (i64 cs.length) (i64 cs.length)) h') ∧ Wr h0 h' q (s ++ cs.flatMap my) := by
 obtain ⟨q', o', sl, g⟩ := cY.sl r
 obtain ⟨r', h', ⟨_, I⟩, k⟩ := gW (p := p) (body := dp 4 (bh (bh x17))) (r := T17 a (.ptr q 0) x (i64 cs.length) i0) (h := h) cs.length
  (Inv := fun i r h => r = T17 a (.ptr q 0) x (i64 cs.length) (i64 i) ∧ Wr h0 h q (s ++ (cs.take i).flatMap my)) (l := 0) (Re := T17 a (.ptr q 0) x (i64 cs.length) (i64 cs.length)) (fun i r h hi I => by
   obtain ⟨rfl, w⟩ := I
   obtain ⟨l, l1, l2, rfl⟩ := g i hi
   obtain ⟨j, h1, h0', c1, c2, c3, c4⟩ := w.copy (el := 70) sl hi l2 l1 (c0 := .k1 (Y2 iS i0)) trivial (by decide)
   have hz : (s ++ (cs.take i).flatMap my).length + (my cs[i]).length ≤ 16777216 := by
    have := gY (g := my) cs (i + 1)
    rw [dS hi, List.length_append] at this
    rw [List.length_append]; omega
   have hv : (my cs[i]).length = (2 + cs[i].1.length) + 8 := by unfold my; simp only [List.length_append, aK, aL]
   obtain ⟨h2, a1, w2⟩ := kW T c3 (t := cs[i].1) (by omega)
   obtain ⟨h3, a2, w3⟩ := kV T w2 (n := cs[i].2) (by rw [List.length_append, aL]; omega)
   refine ⟨T17 a (.ptr q 0) x (i64 cs.length) (i64 (i + 1 : Nat)), h3, .ah ((a1.and a2).mono fun m g => ?_), rfl, ?_⟩
   ·obtain ⟨g1, g2⟩ := g
    simp only [k17_3, K5, t17_1, t17_3, t17_41, t17_42, t17_43]
    (rw [bu, bJ, if_pos (by omega), c1, aD, aM (aZ (c4.old c3.old) rfl), aF g1, aD, aM (aq (c4.old w2.old) 1 rfl), aF g2, dT hi hn]; try rfl)
   ·have := w3.Ta c2
    rw [dS hi, my]
    simpa only [List.append_assoc] using this) (fun r h I => by
   obtain ⟨rfl, w⟩ := I
   refine .aV fun c i K => ?_
   simp only [k17_3, K5, t17_1, t17_3, t17_41, t17_42, t17_43]
   (rw [bu, bJ, if_neg (by omega)]; try rfl)) ⟨rfl, by simpa using w⟩
 exact ⟨h', k, by simpa using I⟩
end
open Go.Cod
noncomputable section
variable {p : Pg} {h0 h h' h1 h2 : Hp} {q j : P4} {s full : Bs} {x y sv : AV} {r : Rd}
def Fr (q : P4) (h h' : Hp) : Prop := ∀ j, j ≠ q → ag j h ≠ .none → ag j h' = ag j h
theorem Fr.refl (q : P4) (h : Hp) : Fr q h h := fun _ _ _ => rfl
theorem Fr.trans (a : Fr q h h1) (b : Fr q h1 h2) : Fr q h h2 := fun j hq hj => (b j hq (by rw [a j hq hj]; exact hj)).trans (a j hq hj)
theorem Fr.of (O : Old h h') : Fr q h h' := fun j _ hj => O j hj
theorem Fr.old (F : Fr q h h') (O : Old h0 h) (hq : ag q h0 = .none) : Old h0 h' := fun j hj => by
 have e := O j hj
 rw [F j (fun g => by rw [g] at hj; exact hj hq) (by rw [e]; exact hj), e]
theorem Fr.ob (F : Fr q h h') {el : Nat} {ex : Bool} {fl : Fl} {l : List AV} (o : Ob h j el ex fl l) (hj : j ≠ q) : Ob h' j el ex fl l := o.eq (F j hj o.ne)
theorem _root_.Go.Am.Ob.apart {el el' : Nat} {ex ex' : Bool} {fl fl' : Fl} {l l' : List AV} (o : Ob h q el ex fl l) (o' : Ob h j el' ex' fl' l') (g : el ≠ el' ∨ ex ≠ ex') : q ≠ j := by
 rintro rfl
 obtain ⟨c, e, _⟩ := o
 obtain ⟨c', e', _⟩ := o'
 rw [e] at e'
 obtain ⟨a1, _, a2, _⟩ := Obj.cells.inj e'
 rcases g with g | g
 ·exact g a1
 ·exact g a2
theorem Fr.own (F : Fr q h h') {el es el' : Nat} {ex' : Bool} {fl' : Fl} {l l' : List AV} {b : P4 → Prop} (w : dA h x el es l b) (o : Ob h q el' ex' fl' l') (g : el' ≠ el ∨ ex' ≠ false) : dA h' x el es l b := by
 rcases w with w | ⟨k, n, e1, e2, e3, e4⟩
 ·exact .inl w
 ·exact .inr ⟨k, n, e1, e2, F.ob e3 (fun e => (o.apart e3 g) e.symm), e4⟩
structure BJ (h : Hp) (q : P4) (sv : AV) (full : Bs) (a : Nat) (why wh : Int) : Prop where
 wf : Wf h
 ob : Ob h q 101 true .plain [sv, i64 a, i64 why, i64 wh]
 own : dA h sv 5 1 (bc full) fun _ => True
 len : full.length ≤ 16777216
 rA : a ≤ full.length
def gJ (h : Hp) (q : P4) (r : Rd) : Prop := ∃ sv full a why wh, BJ h q sv full a why wh ∧ r = if why = 0 then some (full.drop a) else none
theorem BJ.c {a : Nat} {why wh : Int} (w : BJ h q sv full a why wh) : Cs h q 0 [sv, i64 a, i64 why, i64 wh] := Ob.c0 w.ob
theorem BJ.set {a a' : Nat} {why wh why' wh' : Int} (w : BJ h q sv full a why wh) (o : Ob h' q 101 true .plain [sv, i64 a', i64 why', i64 wh']) (g : ∀ j, j ≠ q → ag j h' = ag j h) (hn : h'.next = h.next) (ha : a' ≤ full.length) :
  BJ h' q sv full a' why' wh' where
 wf := w.wf.of hn fun j hj => by rw [g j (fun e => by rw [e] at hj; exact w.ob.ne hj)]; exact hj
 ob := o
 own := Fr.own (fun j hj _ => g j hj) w.own w.ob (.inr (by simp))
 len := w.len
 rA := ha
theorem gJ.wf (w : gJ h q r) : Wf h := let ⟨_, _, _, _, _, w, _⟩ := w; w.wf
theorem gJ.ne (w : gJ h q r) : ag q h ≠ .none := let ⟨_, _, _, _, _, w, _⟩ := w; w.ob.ne
theorem gJ.apart (w : gJ h q r) {el : Nat} {ex : Bool} {fl : Fl} {l : List AV} (o : Ob h j el ex fl l) (g : el ≠ 101) : j ≠ q := let ⟨_, _, _, _, _, w, _⟩ := w; o.apart w.ob (.inl g)
theorem gJ.up (w : gJ h q r) (O : Old h h') (W : Wf h') : gJ h' q r := let ⟨sv, full, a, why, wh, w, e⟩ := w; ⟨sv, full, a, why, wh, ⟨W, w.ob.old O, w.own.old fun j _ hj => O j hj, w.len, w.rA⟩, e⟩
theorem gJ.fr (w : gJ h q r) {el : Nat} {fl : Fl} {l : List AV} (o : Ob h j el true fl l) (hj : el ≠ 101) (F : Fr j h h') (W : Wf h') : gJ h' q r :=
 let ⟨sv, full, a, why, wh, w, e⟩ := w
 ⟨sv, full, a, why, wh, ⟨W, F.ob w.ob (fun g => o.apart w.ob (.inl hj) g.symm), F.own w.own o (.inr (by simp)), w.len, w.rA⟩, e⟩
theorem zS {a : Int} (ha : a ≠ 0) : kF (i64 a) i0 h = .ok (.bool true) h := by
 have := Ol (h := h) .i64 a (Int.ofNat 0)
 rw [decide_eq_false (show ¬ a = Int.ofNat 0 from ha)] at this
 exact this
theorem uy {a : Int} (ha : a = 0) : kF (i64 a) i0 h = .ok (.bool false) h := by subst ha; rfl
theorem wj (e99 : ar 69 p.fs = f69) (w : gJ h q r) {e n : Int} (he : e ≠ 0) : ∃ h', Cv p 69 [.ptr q 0, i64 e, i64 n] h cm h' ∧ gJ h' q none ∧ Fr q h h' := by
 obtain ⟨sv, full, a, why, wh, w, hr⟩ := w
 by_cases hw : why = 0
 ·obtain ⟨h1, g1, g2, g3, g4⟩ := dY (k := 2) (v := i64 e) w.ob (by simp) rfl
  obtain ⟨h2, k1, k2, k3, k4⟩ := dY (k := 3) (v := i64 n) g2 (by simp) rfl
  refine ⟨h2, .vi (r' := T15) (h1 := h2) e99 (by simp) (.ah (.all fun m => ?_)) rfl, ⟨sv, full, a, e, n, w.set k2 (fun j hj => by rw [k3 j hj, g3 j hj]) (by rw [k4, g4]) w.rA, (if_neg he).symm⟩, fun j hj _ => by rw [k3 j hj, g3 j hj]⟩
  simp only [k69_0, K3, zK, zL, zM]
  (rw [dE, aD, aM (aq w.c 2 rfl), zA, bJ, if_pos (show why = Int.ofNat 0 from hw), dE, aD, dN g1, dE, aD, dN k1]; try rfl)
 ·refine ⟨h, .vi (r' := T15) (h1 := h) e99 (by simp) (.ah (.all fun m => ?_)) rfl, ⟨sv, full, a, why, wh, w, (if_neg hw).symm⟩, .refl q h⟩
  simp only [k69_0, K3, zK, zL, zM]
  (rw [dE, aD, aM (aq w.c 2 rfl), zA, bJ, if_neg (show ¬ why = Int.ofNat 0 from hw)]; try rfl)
def Sn (x : AV) (a k : Nat) : AV := match x with
 | .eR q _ _ _ => .eR q a k 1
 | y => y
theorem Qc {b : P4 → Prop} (w : dA h x 5 1 (bc s) b) {a k : Nat} (hk : a + k ≤ s.length) : fu 1 (.c x) (.some (.c (i64 a))) (.some (.c (i64 (a + k : Nat)))) .none .nil h = .ok (Sn x a k) h ∧ lG h (Sn x a k) ((s.drop a).take k) := by
 rcases w with ⟨e, hv⟩ | ⟨k', n, rfl, e2, e3, _⟩
 ·have hs : s = [] := by cases s with | nil => rfl | cons _ _ => simp [bc] at e
  subst hs
  have h1 : a = 0 := by simp at hk; omega
  have h2 : k = 0 := by simp at hk; omega
  subst h1 h2
  rcases hv with rfl | ⟨z, rfl⟩
  ·exact ⟨rfl, .eI 0 0, 0, 0, .inr (.inr ⟨rfl, rfl⟩), rfl, fun g => absurd rfl g⟩
  ·exact ⟨rfl, z, 0, 0, .inl ⟨0, rfl⟩, rfl, fun g => absurd rfl g⟩
 ·rw [cA, Nat.mul_one] at e2
  have hb := e3
  obtain ⟨c, f1, f2, f3⟩ := hb
  refine ⟨?_, k', a, k, .inr (.inl rfl), by simp; omega, fun _ => e3.cs (k := a) (m := bc ((s.drop a).take k)) (fun i hi => ?_) ?_⟩
  ·show (@Bool.rec (fun _ => RV) (.err 42) (Obj.aR (ag k' h) (fun _ m _ _ _ => @Bool.rec (fun _ => RV) (.err 45) (.ok (.eR k' (Nat.add 0 (Nat.mul a 1)) (Nat.sub (a + k) a) 1) h) (Nat.ble (Nat.add 0 (Nat.mul (a + k) 1)) m)) (.err 46)) (Nat.ble a (a + k))) = _
   rw [Nat.ble_eq_true_of_le (Nat.le_add_right a k), f1]
   show (@Bool.rec (fun _ => RV) (.err 45) (.ok (.eR k' (0 + a * 1) (a + k - a) 1) h) (Nat.ble (0 + (a + k) * 1) (bc s).length)) = _
   rw [Nat.ble_eq_true_of_le (show 0 + (a + k) * 1 ≤ (bc s).length by rw [cA]; omega), Nat.mul_one, Nat.zero_add, Nat.add_sub_cancel_left]
   rfl
  ·have hi' : i < k ∧ i < s.length - a := by simpa [bc, Nat.lt_min] using hi
   refine ⟨by rw [cA]; omega, ?_⟩
   simp [bc]
  ·rw [cA, cA]
   simp
   omega
theorem Mo {b : P4 → Prop} (w : dA h x 5 1 (bc s) b) {a k : Nat} (hk : a + k ≤ s.length) : ∃ v, fu 1 (.c x) (.some (.c (i64 a))) (.some (.c (i64 (a + k : Nat)))) .none .nil h = .ok v h ∧ lG h v ((s.drop a).take k) := ⟨_, Qc w hk⟩
theorem Qd {a b : Nat} (hb : b ≤ a) (ha : a ≤ 9223372036854775807) : ny (i64 a) (i64 b) h = .ok (i64 ((a - b : Nat) : Int)) h := by
 rw [IH, np _ (by unfold dx; omega), show (a : Int) - (b : Int) = ((a - b : Nat) : Int) by omega]
theorem QZ (a b : Int) : dj (i64 a) (i64 b) h = .ok (.bool (decide (b < a))) h := fP _ _ _
theorem Dz (e97 : ar 67 p.fs = f67) (e99 : ar 69 p.fs = f69) (w : gJ h q r) {k : Nat} (hk : k ≤ 16777216) : ∃ v h', Cv p 67 [.ptr q 0, i64 k] h v h' ∧ lG h' v (Cod.take k r).1 ∧ gJ h' q (Cod.take k r).2 ∧ Fr q h h' := by
 obtain ⟨sv, full, a, why, wh, w, hr⟩ := w
 have n0 : nC (.ptr q 0) h = .ok (.ptr q 0) h := rfl
 have a0 : fA 0 (.ptr q 0) h = .ok (.ptr q 0) h := rfl
 have a1 : fA 1 (.ptr q 0) h = .ok (.ptr q 1) h := rfl
 have l0 : lD (.ptr q 0) h = .ok sv h := aZ w.c rfl
 have l1 : lD (.ptr q 1) h = .ok (i64 a) h := aq w.c 1 rfl
 have hfl := w.len
 have hal := w.rA
 by_cases hw : why = 0
 ·rw [if_pos hw] at hr
  have z0 : ∀ c i (K : A2 → Hp → RS), k67_0 c i K (bt [.ptr q 0, i64 k] 0 .nil) h = K (T40 (.ptr q 0) (i64 k)) h := fun c i K => by
   simp only [k67_0, K2, fR, fS]
   (rw [dE, aD, aM (aq w.c 2 rfl), aE (uy hw), fK]; try rfl)
  have hs := Qd (h := h) hal (by omega)
  by_cases hl : full.length - a < k
  ·obtain ⟨h1, c1, w1, F1⟩ := wj (p := p) e99 ⟨sv, full, a, why, wh, w, rfl⟩ (e := 10) (n := full.length) (by omega)
   have c1 : Cv p 69 [.ptr q 0, pi 10, i64 full.length] h cm h1 := c1
   have ht : Cod.take k r = ([], none) := by subst hr; unfold Cod.take; simp only [List.length_drop]; rw [if_pos hl]
   rw [ht]
   refine ⟨.ai, h1, .of (r' := T27 .ai) (h1 := h1) e97 (by simp) (.dP z0 (.ah (c1.mono fun m g1 => ?_))) rfl, ⟨.eI 0 0, 0, 0, .inr (.inr ⟨rfl, rfl⟩), rfl, fun g => absurd rfl g⟩, w1, F1⟩
   simp only [k67_1, K2, jS, jT]
   (rw [aC n0, aC a0, aC l0, aC (lG.len (dA.Jb w.own)), aC n0, aC a1, aC l1, aC hs, aC (QZ _ _), bJ, if_pos (by omega), dE, aD, aM (aZ w.c rfl), bL (lG.len (dA.Jb w.own)), aF g1]; try rfl)
  ·have ht : Cod.take k r = ((full.drop a).take k, some ((full.drop a).drop k)) := by subst hr; unfold Cod.take; simp only [List.length_drop]; rw [if_neg hl]
   rw [ht]
   obtain ⟨h1, g1, g2, g3, g4⟩ := dY (k := 1) (v := i64 (a + k : Nat)) w.ob (by simp) rfl
   have w1 : BJ h1 q sv full (a + k) why wh := w.set g2 g3 g4 (by omega)
   obtain ⟨v, s1, s2⟩ := Mo (h := h1) (a := a) (k := k) w1.own (by omega)
   refine ⟨v, h1, .of (r' := T27 v) (h1 := h1) e97 (by simp) (.dP z0 (.dP (r' := T40 (.ptr q 0) (i64 k)) (h' := h) (fun c i K => ?_) (.dP (r' := T40 (.ptr q 0) (i64 k)) (h' := h1) (fun c i K => ?_) (.aV fun c i K => ?_)))) rfl, s2, ⟨sv, full, a + k, why, wh, w1, by rw [if_pos hw, List.drop_drop]⟩, fun j hj _ => g3 j hj⟩
   ·simp only [k67_1, K2, jS, jT]
    (rw [aC n0, aC a0, aC l0, aC (lG.len (dA.Jb w.own)), aC n0, aC a1, aC l1, aC hs, aC (QZ _ _), bJ, if_neg (by omega)]; try rfl)
   ·simp only [k67_2, K2, jS, jT]
    have hd : ∀ K : AV → Hp → RS, Seat.D (i64 a) (i64 k) h K = K (i64 (a + k : Nat)) h := fun K => by
     rw [nJ, np _ (by unfold dx; omega)]; rfl
    (rw [dE, aD, aM (aq w.c 1 rfl), hd, dE, aD, dN g1]; try rfl)
   ·simp only [k67_3, K2, jS, jT]
    have n0 : nC (.ptr q 0) h1 = .ok (.ptr q 0) h1 := rfl
    have a0 : fA 0 (.ptr q 0) h1 = .ok (.ptr q 0) h1 := rfl
    have a1 : fA 1 (.ptr q 0) h1 = .ok (.ptr q 1) h1 := rfl
    have l0 : lD (.ptr q 0) h1 = .ok sv h1 := aZ w1.c rfl
    have l1 : lD (.ptr q 1) h1 = .ok (i64 (a + k : Nat)) h1 := aq w1.c 1 rfl
    have hs : ny (i64 (a + k : Nat)) (i64 k) h1 = .ok (i64 a) h1 := by
     rw [Qd (by omega) (by omega), Nat.add_sub_cancel]
    (rw [aC n0, aC a0, aC l0, aC n0, aC a1, aC l1, aC hs, aC n0, aC a1, aC l1, aC s1]; try rfl)
 ·rw [if_neg hw] at hr
  subst hr
  refine ⟨.ai, h, .of (r' := T27 .ai) (h1 := h) e97 (by simp) (.aV fun c i K => ?_) rfl, ⟨.eI 0 0, 0, 0, .inr (.inr ⟨rfl, rfl⟩), rfl, fun g => absurd rfl g⟩, ⟨sv, full, a, why, wh, w, (if_neg hw).symm⟩, .refl q h⟩
  simp only [k67_0, K2, fR, fS]
  (rw [dE, aD, aM (aq w.c 2 rfl), aE (zS hw), fZ]; try rfl)
theorem TB (n : Nat) (hn : n * 256 < 18446744073709551616) : bK .shl (.int .u64 (n : Int)) (.int .u64 (.ofNat 8)) h = .ok (.int .u64 ((n * 256 : Nat) : Int)) h := by
 show RV.ok (.int .u64 (.ofNat (n * 256 % 18446744073709551616))) h = _
 rw [Nat.mod_eq_of_lt hn]; rfl
theorem Qe (m b : Nat) (hb : b < 256) (hm : m * 256 < 18446744073709551616) : Ln (.int .u64 ((m * 256 : Nat) : Int)) (.int .u64 (b : Int)) h = .ok (.int .u64 ((b + 256 * m : Nat) : Int)) h := by
 show RV.ok (.int .u64 (.ofNat (Nat.lor (m * 256 % 18446744073709551616) (b % 18446744073709551616) % 18446744073709551616))) h = _
 have e : Nat.lor (m * 256) b = b + 256 * m := by
  have := Nat.shiftLeft_add_eq_or_of_lt (show b < 2 ^ 8 from hb) m
  rw [Nat.shiftLeft_eq] at this
  have this : m * 256 + b = Nat.lor (m * 256) b := this
  rw [← this]; omega
 rw [Nat.mod_eq_of_lt hm, Nat.mod_eq_of_lt (show b < 18446744073709551616 by omega), e, Nat.mod_eq_of_lt (by omega)]; rfl
theorem So (b : UInt8) : cK (.toInt .u64) (.int .u8 (b.toNat : Int)) h = .ok (.int .u64 (b.toNat : Int)) h := by
 rw [kQ, w64]
 have := b.toNat_lt
 rw [show ((b.toNat : Int) % 18446744073709551616) = (b.toNat : Int) by omega]
theorem xM {K : AV → Hp → RS} {i : Nat} (hi : i < 9223372036854775807) : Seat.Z (i64 ((i + 1 : Nat) : Int)) i1 h K = K (i64 (i : Int)) h := by
 rw [Dn, np _ (by unfold dx; simp; omega)]
 simp
theorem lG.at (rb : lG h x s) {i : Nat} (hi : i < s.length) : ∃ a, iX 1 x (i64 (i : Int)) h = .ok a h ∧ lD a h = .ok (.int .u8 (s[i].toNat : Int)) h := by
 obtain ⟨q, o, n, e1, e2, e3⟩ := rb
 have c := e3 (by omega)
 refine ⟨.ptr q (o + i), by have := cG (h := h) e1 (i := i) (by omega); rw [Nat.mul_one] at this; exact this, ?_⟩
 rw [IJ c i (by rw [cA]; exact hi)]
 simp [bc]
theorem DA {n : Nat} : dj (i64 ((n + 1 : Nat) : Int)) i0 h = .ok (.bool true) h := by
 have := fP (h := h) .i64 ((n + 1 : Nat) : Int) (Int.ofNat 0)
 rw [decide_eq_true (show Int.ofNat 0 < ((n + 1 : Nat) : Int) by show (0 : Int) < _; omega)] at this
 exact this
theorem zT (rb : lG h x s) (hs : s.length ≤ 8) : ∀ (i : Nat), i ≤ s.length → ∀ {c : AC} {r0 : A2} {hc : Hp}, (∀ st, Rn p (.ah wk .skip) (T33 (.int .u64 (un (s.drop i) : Nat)) x (i64 i)) h st → Rn p c r0 hc st) →
  Rn p (.sat (.ah k39_1 (.seq (.label 0) (.ah wk .skip))) c) r0 hc (.ret (T27 (.int .u64 (un s : Nat))) h)
 | 0, _, c, r0, hc, g => .rP (g _ (.aV fun c i K => by
   simp only [wk, K3, py, pz, pA]
   have g0 : dj (i64 ((0 : Nat) : Int)) i0 h = .ok (.bool false) h := rfl
   (rw [aE g0, fK]; try rfl)))
 | i + 1, hi, c, r0, hc, g => by
  obtain ⟨a, b1, b2⟩ := rb.at (i := i) (by omega)
  have hd : s.drop i = s[i] :: s.drop (i + 1) := List.drop_eq_getElem_cons (by omega)
  have hu : un (s.drop i) = s[i].toNat + 256 * un (s.drop (i + 1)) := by rw [hd]; rfl
  have hlt : un (s.drop (i + 1)) * 256 < 18446744073709551616 := by
   have h1 := IM (s.drop (i + 1))
   have h2 : 256 ^ (s.drop (i + 1)).length ≤ 256 ^ 7 := Nat.pow_le_pow_right (by omega) (by simp; omega)
   omega
  have hb := s[i].toNat_lt
  refine .wN (i := 0) (g _ (.aV (s := .go 0 (T33 (.int .u64 (un (s.drop i) : Nat)) x (i64 i)) h) fun c i' K => ?_)) rfl (zT rb hs i (by omega) (c := .seq .skip (.ah wk .skip)) fun _ e => .seq .skip e)
  rw [hu]
  simp only [wk, K3, py, pz, pA]
  (rw [aE DA, fZ, xM (by omega), aE (TB _ hlt), fD b1, aM b2, aE (So _), aE (Qe _ _ hb hlt)]; try rfl)
structure pL (p : Pg) : Prop where
 e36 : ar 21 p.fs = f21
 e38 : ar 23 p.fs = f23
 e58 : ar 31 p.fs = f31
 e63 : ar 39 p.fs = f39
 e64 : ar 40 p.fs = f40
 e65 : ar 41 p.fs = f41
 e66 : ar 43 p.fs = f43
 e73 : ar 71 p.fs = f71
 e97 : ar 67 p.fs = f67
 e98 : ar 68 p.fs = f68
 e99 : ar 69 p.fs = f69
theorem BL (T : pL p) (w : gJ h q r) {k : Nat} (hk : k ≤ 8) : ∃ h', Cv p 39 [.ptr q 0, pi k] h (.int .u64 ((Cod.get k r).1 : Nat)) h' ∧ gJ h' q (Cod.get k r).2 ∧ Fr q h h' := by
 obtain ⟨v, h1, c1, rb, w1, F⟩ := Dz (p := p) T.e97 T.e99 w (k := k) (by omega)
 have c1 : Cv p 67 [.ptr q 0, pi k] h v h1 := c1
 have hl := Cod.uv k r
 refine ⟨h1, .of (r' := T27 (.int .u64 (un (Cod.take k r).1 : Nat))) (h1 := h1) T.e63 (by simp) (.dP (r' := T40 (.ptr q 0) (pi k)) (h' := h) (fun c i K => by simp only [k39_0, K2, fR, fS])
  (.scope (zT (p := p) rb (by omega) (Cod.take k r).1.length (Nat.le_refl _) fun st e => ?_))) rfl, w1, F⟩
 rw [List.drop_length] at e
 refine .to (r' := T33 (.int .u64 (.ofNat 0)) v (i64 (Cod.take k r).1.length)) (h' := h1) (c1.mono fun m g K => ?_) (.seq .label e)
 simp only [k39_1, K2, jS, jT]
 (rw [aF g, bL (lG.len rb)]; try rfl)
theorem Jh {n : Nat} (hn : n < 9223372036854775808) : cK (.toInt .i64) (.int .u64 (n : Int)) h = .ok (i64 (n : Int)) h := by
 rw [kQ, np _ (by unfold dx; omega)]
theorem Ji (n : Nat) (hn : n < 18446744073709551616) : IntKind.i64.wrap (n : Int) = s64 n := by
 unfold IntKind.wrap s64
 dsimp only
 split
 ·rename_i g
  rw [Bool.and_eq_true, decide_eq_true_eq] at g
  have g1 : (n : Int) % 18446744073709551616 ≥ 9223372036854775808 := g.2
  show (n : Int) % 18446744073709551616 - 18446744073709551616 = _
  rw [if_neg (by omega)]; omega
 ·rename_i g
  rw [Bool.and_eq_true, decide_eq_true_eq] at g
  have g1 : ¬ (n : Int) % 18446744073709551616 ≥ 9223372036854775808 := fun x => g ⟨rfl, x⟩
  show (n : Int) % 18446744073709551616 = _
  rw [if_pos (by omega)]; omega
theorem mB (T : pL p) (w : gJ h q r) : ∃ h', Cv p 23 [.ptr q 0] h (i64 ((bQ r).1 : Nat)) h' ∧ gJ h' q (bQ r).2 ∧ Fr q h h' := by
 obtain ⟨h1, c1, w1, F⟩ := BL T w (k := 1) (by omega)
 have c1 : Cv p 39 [.ptr q 0, i1] h (.int .u64 ((bQ r).1 : Nat)) h1 := c1
 have hl : (bQ r).1 < 256 := Cod.gP 1 r
 refine ⟨h1, .of (r' := T0 (i64 ((bQ r).1 : Nat))) (h1 := h1) T.e38 (by simp) (.ah (c1.mono fun m g => ?_)) rfl, w1, F⟩
 simp only [k23_0, K1, cP]
 (rw [aF g, aE (Jh (by omega))]; try rfl)
theorem Fe (T : pL p) (w : gJ h q r) : ∃ h', Cv p 68 [.ptr q 0] h (i64 ((Cod.get 2 r).1 : Nat)) h' ∧ gJ h' q (Cod.get 2 r).2 ∧ Fr q h h' := by
 obtain ⟨h1, c1, w1, F⟩ := BL T w (k := 2) (by omega)
 have hl := Cod.gP 2 r
 refine ⟨h1, .of (r' := T0 (i64 ((Cod.get 2 r).1 : Nat))) (h1 := h1) T.e98 (by simp) (.ah (c1.mono fun m g => ?_)) rfl, w1, F⟩
 simp only [k68_0, K1, cP]
 (rw [aF g, aE (Jh (by omega))]; try rfl)
theorem iM (T : pL p) (w : gJ h q r) : ∃ h', Cv p 40 [.ptr q 0] h (i64 (au r).1) h' ∧ gJ h' q (au r).2 ∧ Fr q h h' := by
 obtain ⟨h1, c1, w1, F⟩ := BL T w (k := 8) (by omega)
 have hl := Cod.gP 8 r
 have e : cK (.toInt .i64) (.int .u64 ((Cod.get 8 r).1 : Nat)) h1 = .ok (i64 (au r).1) h1 := by
  rw [kQ, Ji _ hl]; rfl
 refine ⟨h1, .of (r' := T0 (i64 (au r).1)) (h1 := h1) T.e64 (by simp) (.ah (c1.mono fun m g => ?_)) rfl, w1, F⟩
 simp only [k40_0, K1, cP]
 (rw [aF g, aE e]; try rfl)
def Sp (most : Nat) (n : Nat) : Rd → Rd
 | none => none
 | some l => if n > most then none else some l
theorem Jj (most : Nat) (r : Rd) : aJ most r = Cod.take (Cod.get 2 r).1 (Sp most (Cod.get 2 r).1 (Cod.get 2 r).2) := by
 unfold aJ
 cases hg : Cod.get 2 r with
 | mk n r1 =>
  cases r1 with
  | none => rfl
  | some l =>
   simp only [Sp]
   split
   ·rfl
   ·rfl
theorem Jk (w : gJ h q r) {n most : Nat} {f : AV} : ∃ r', Os p (opsL (fst (fst (bh x41)))) (T23 (.ptr q 0) (pi most) f (i64 n)) h (.nm r' h) ∧ y0 r' = .ptr q 0 ∧ y5 r' = f ∧ y6 r' = i64 n ∧ y23 r' = .bool (r.isSome && decide (most < n)) := by
 obtain ⟨sv, full, a, why, wh, w, hr⟩ := w
 have l2 : lD (.ptr q 2) h = .ok (i64 why) h := aq w.c 2 rfl
 by_cases hw : why = 0
 ·rw [if_pos hw] at hr
  subst hr
  have e0 : bK .eq (i64 why) i0 h = .ok (.bool true) h := by subst hw; rfl
  have e1 : bK .gt (i64 n) (pi most) h = .ok (.bool (decide (most < n))) h := by
   show dj (i64 n) (i64 most) h = _
   rw [QZ]
   congr 2
   rw [decide_eq_decide]; omega
  exact ⟨_, .step (v := .ptr q 0) (h' := h) rfl <| .step (v := .ptr q 0) (h' := h) rfl <| .step (v := .ptr q 2) (h' := h) rfl <| .step (v := i64 why) (h' := h) l2 <| .step (v := .bool true) (h' := h) e0 <| .step (v := .bool true) (h' := h) rfl <|
   .on rfl <| .step (v := i64 n) (h' := h) rfl <| .on rfl <| .step (v := pi most) (h' := h) rfl <| .on rfl <| .step (v := pi most) (h' := h) rfl <| .on rfl <| .step (v := .bool (decide (most < n))) (h' := h) e1 <|
   .step (v := .bool (decide (most < n))) (h' := h) rfl <| .nil, rfl, rfl, rfl, rfl⟩
 ·rw [if_neg hw] at hr
  subst hr
  have e0 : bK .eq (i64 why) i0 h = .ok (.bool false) h := by
   show Ei (.int .i64 why) (.int .i64 (.ofNat 0)) h = _
   rw [IG, decide_eq_false (show ¬ why = Int.ofNat 0 from hw)]
  exact ⟨_, .step (v := .ptr q 0) (h' := h) rfl <| .step (v := .ptr q 0) (h' := h) rfl <| .step (v := .ptr q 2) (h' := h) rfl <| .step (v := i64 why) (h' := h) l2 <| .step (v := .bool false) (h' := h) e0 <| .step (v := .bool false) (h' := h) rfl <|
   .off rfl <| .off rfl <| .off rfl <| .off rfl <| .step (v := .bool false) (h' := h) rfl <| .nil, rfl, rfl, rfl, rfl⟩
theorem iO (T : pL p) (w : gJ h q r) (most : Nat) : ∃ h', Cv p 41 [.ptr q 0, pi most] h (bz (aJ most r).1) h' ∧ gJ h' q (aJ most r).2 ∧ Fr q h h' := by
 have w' := w
 obtain ⟨sv, full, a, why, wh, wx, hr⟩ := w'
 obtain ⟨h1, c1, w1, F1⟩ := Fe T w
 obtain ⟨r', o1, o2, o3, o4, o5⟩ := Jk (p := p) w1 (n := (Cod.get 2 r).1) (most := most) (f := i64 a)
 have hl := Cod.gP 2 r
 generalize hn : (Cod.get 2 r).1 = n at *
 have s0 : Ev fun m => ∀ K : A2 → Hp → RS, k41_0 (aw p (exec p m)) (aG p (exec p m)) K (bt [.ptr q 0, pi most] 0 .nil) h = K (T23 (.ptr q 0) (pi most) (i64 a) (i64 n)) h1 := c1.mono fun m g K => by
  simp only [k41_0, K2, fR, fS]
  (rw [dE, aD, aM (aq wx.c 1 rfl), aF g]; try rfl)
 have KE : ∃ h2, Rn p (.ah k41_1 .skip) r' h1 (.nm (T4 (.ptr q 0) (i64 n)) h2) ∧ gJ h2 q (Sp most n (Cod.get 2 r).2) ∧ Fr q h1 h2 := by
  cases hb : ((Cod.get 2 r).2.isSome && decide (most < n)) with
  | true =>
   obtain ⟨h2, c2, w2, F2⟩ := wj (p := p) T.e99 w1 (e := 3) (n := a) (by omega)
   have c2 : Cv p 69 [.ptr q 0, pi 3, i64 a] h1 cm h2 := c2
   refine ⟨h2, .ah (c2.mono fun m g => ?_), ?_, F2⟩
   ·simp only [k41_1, K4, o2, o3, o4, o5, hb]
    (rw [fZ, aF g]; try rfl)
   ·rw [Bool.and_eq_true, decide_eq_true_eq] at hb
    cases hg : (Cod.get 2 r).2 with
    | none => exact w2
    | some l =>
     have : Sp most n (some l) = none := if_pos hb.2
     rw [this]; exact w2
  | false =>
   refine ⟨h1, .aV fun c i K => ?_, ?_, .refl q h1⟩
   ·simp only [k41_1, K4, o2, o3, o4, o5, hb]
    (rw [fK]; try rfl)
   ·cases hg : (Cod.get 2 r).2 with
    | none => rw [hg] at w1; exact w1
    | some l =>
     rw [hg] at hb w1
     have : Sp most n (some l) = some l := if_neg (by simpa using hb)
     rw [this]; exact w1
 obtain ⟨h2, k2, w2, F2⟩ := KE
 obtain ⟨v, h3, c3, rb, w3, F3⟩ := Dz (p := p) T.e97 T.e99 w2 (k := n) (by omega)
 rw [Jj, hn]
 refine ⟨h3, .of (r' := T27 (bz _)) (h1 := h3) T.e65 (by simp) (.to s0 (.seq (.seq (.ops o1) k2) (.ah (c3.mono fun m g => ?_)))) rfl, w3, (F1.trans F2).trans F3⟩
 simp only [k41_2, K2, t4_0, t4_6]
 (rw [aF g, aE (xJ rb)]; try rfl)
theorem Jl (e58 : ar 31 p.fs = f31) (W : Wf h) (r : lG h x s) (hl : s.length ≤ 16777216) : ∃ v h', Cv p 31 [x] h v h' ∧ dA h' v 5 1 (bc s) (fun j => ag j h = .none) ∧ Old h h' ∧ Wf h' := by
 obtain ⟨q, o, n, g1, g2, g3⟩ := r
 by_cases hx : x = .ai
 ·subst hx
  refine ⟨.ai, h, .of (r' := T0 .ai) (h1 := h) e58 (by simp) (.ah (.all fun m => ?_)) rfl, ?_, .refl h, W⟩
  ·have hn : bK (.jD .s) .ai .ai h = .ok (.bool true) h := rfl
   simp only [zN, K1, cP]
   rw [aE hn, fZ]
  ·rcases g1 with ⟨_, g⟩ | g | ⟨_, g⟩
   ·cases g
   ·cases g
   ·have : s = [] := by cases s with | nil => rfl | cons _ _ => simp at g2; omega
    subst this
    exact .inl ⟨rfl, .inl rfl⟩
 ·have hn : bK (.jD .s) x .ai h = .ok (.bool false) h := by
   rcases g1 with ⟨_, rfl⟩ | rfl | ⟨rfl, _⟩
   ·rfl
   ·rfl
   ·exact absurd rfl hx
  obtain ⟨j, h1, f1, f2, f3, f4, f5, f6⟩ := gE (el := 5) (es := 1) (n := 0) (z := []) (ps := []) (l := []) W rfl rfl (by simp)
  obtain ⟨v, h2, c1, c2, c3, c4⟩ := iG (m := n) (es := 1) f5 (x := .slice j 0 0 0) (b := fun _ => False) (el := 5) (l := []) (.inl ⟨rfl, .inr ⟨j, rfl⟩⟩) (by omega) (new := bc s) (by rw [cA]; omega) (by simp [cA]; omega)
  refine ⟨v, h2, .of (r' := T0 v) (h1 := h2) e58 (by simp) (.ah (.all fun m => ?_)) rfl, ?_, fun k hk => ?_, c3⟩
  ·simp only [zN, K1, cP]
   rw [aE hn, fK, aE f1, aE (by rw [eT g1 (by omega) (fun z => (g3 z).old f4) (by rw [cA]; omega) (by omega)]; exact c1)]
  ·refine dA.mono c2 fun k hk => ?_
   rcases hk with hk | hk
   ·exact hk.elim
   ·exact f4.none hk
  ·have := f4 k hk
   rw [c4 k (by rw [this]; exact hk) (fun g => g), this]
theorem Qf {b : P4 → Prop} {l : List AV} (w : dA h x 5 1 l b) : bl [.ai, i0, i0, i0] [.mk 0 1 (.c x)] h = .ok (.agg [x, i0, i0, i0]) h := by
 rcases w with ⟨_, rfl | ⟨q, rfl⟩⟩ | ⟨q, n, rfl, _⟩ <;> rfl
theorem wm (T : pL p) (W : Wf h) (rb : lG h x s) (hl : s.length ≤ 16777216) : ∃ q h', Cv p 21 [x] h (.ptr q 0) h' ∧ gJ h' q (some s) ∧ ag q h = .none ∧ Old h h' := by
 obtain ⟨v, h1, c1, c2, c3, c4⟩ := Jl (p := p) T.e58 W rb hl
 obtain ⟨q, h2, e1, e2, e3, e4, e5, e6⟩ := mj (el := 101) (l := [v, i0, i0, i0]) c4 (by simp)
 refine ⟨q, h2, .of (r' := T0 (.ptr q 0)) (h1 := h2) T.e36 (by simp) (.ah (c1.mono fun m g => ?_)) rfl, ⟨v, s, 0, 0, 0, ⟨e5, e3, (dA.mono c2 fun _ _ => True.intro).old fun j _ hj => e4 j hj, hl, by omega⟩, by simp⟩, c3.none e2, c3.trans e4⟩
 simp only [k21_0, K1, cP]
 (rw [aF g, rq (Qf c2), jU e1]; try rfl)
theorem BM (T : pL p) (w : gJ h q r) : Cv p 43 [.ptr q 0] h (.bool r.isNone) h := by
 obtain ⟨sv, full, a, why, wh, w, hr⟩ := w
 by_cases hw : why = 0
 ·rw [if_pos hw] at hr
  subst hr
  refine .of (r' := T0 (.bool false)) (h1 := h) T.e66 (by simp) (.aV fun c i K => ?_) rfl
  simp only [k43_0, K1, cP]
  (rw [dE, aD, aM (aq w.c 2 rfl), aE (uy hw)]; try rfl)
 ·rw [if_neg hw] at hr
  subst hr
  refine .of (r' := T0 (.bool true)) (h1 := h) T.e66 (by simp) (.aV fun c i K => ?_) rfl
  simp only [k43_0, K1, cP]
  (rw [dE, aD, aM (aq w.c 2 rfl), aE (zS hw)]; try rfl)
theorem Qg (T : pL p) (w : gJ h q r) : ∃ n m : Int, Cv p 71 [.ptr q 0] h (.jx [i64 n, i64 m]) h ∧ (n = 0 ↔ r = some []) := by
 obtain ⟨sv, full, a, why, wh, w, hr⟩ := w
 have n0 : nC (.ptr q 0) h = .ok (.ptr q 0) h := rfl
 have a0 : fA 0 (.ptr q 0) h = .ok (.ptr q 0) h := rfl
 have a1 : fA 1 (.ptr q 0) h = .ok (.ptr q 1) h := rfl
 have a2 : fA 2 (.ptr q 0) h = .ok (.ptr q 2) h := rfl
 have a3 : fA 3 (.ptr q 0) h = .ok (.ptr q 3) h := rfl
 have l0 : lD (.ptr q 0) h = .ok sv h := aZ w.c rfl
 have l1 : lD (.ptr q 1) h = .ok (i64 a) h := aq w.c 1 rfl
 have l2 : lD (.ptr q 2) h = .ok (i64 why) h := aq w.c 2 rfl
 have l3 : lD (.ptr q 3) h = .ok (i64 wh) h := aq w.c 3 rfl
 have hal := w.rA
 have s0 : ∀ c i (K : A2 → Hp → RS), k71_0 c i K (bt [.ptr q 0] 0 .nil) h = K (T2 (.ptr q 0)) h := fun c i K => by simp only [k71_0, K1, cP]
 by_cases hw : why = 0
 ·rw [if_pos hw] at hr
  have lt : wR (i64 a) (i64 full.length) h = .ok (.bool (decide ((a : Int) < full.length))) h := ry _ _ _
  by_cases hl : a < full.length
  ·refine ⟨11, a, .of (r' := T1 (pi 11) (i64 a)) (h1 := h) T.e73 (by simp) (.dP s0 (.aV fun c i K => ?_)) rfl, ?_⟩
   ·simp only [k71_1, K1, zx]
    (rw [dE, aD, aM (aq w.c 2 rfl), aE (uy hw), fK, aC n0, aC a1, aC l1, aC n0, aC a0, aC l0, aC (lG.len (dA.Jb w.own)), aC lt, bJ, if_pos (by omega), aC n0, aC a1, aC l1]; try rfl)
   ·subst hr
    constructor
    ·intro h; omega
    ·intro h
     have h := Option.some.inj h
     have : (full.drop a).length = 0 := by rw [h]; rfl
     rw [List.length_drop] at this
     omega
  ·refine ⟨0, 0, .of (r' := T1 i0 i0) (h1 := h) T.e73 (by simp) (.dP s0 (.dP (r' := T15) (h' := h) (fun c i K => ?_) (.aV fun c i K => rfl))) rfl, ?_⟩
   ·simp only [k71_1, K1, zx]
    (rw [dE, aD, aM (aq w.c 2 rfl), aE (uy hw), fK, aC n0, aC a1, aC l1, aC n0, aC a0, aC l0, aC (lG.len (dA.Jb w.own)), aC lt, bJ, if_neg (by omega)]; try rfl)
   ·subst hr
    exact ⟨fun _ => by rw [List.drop_of_length_le (by omega)], fun _ => rfl⟩
 ·rw [if_neg hw] at hr
  subst hr
  refine ⟨why, wh, .of (r' := T1 (i64 why) (i64 wh)) (h1 := h) T.e73 (by simp) (.dP s0 (.aV fun c i K => ?_)) rfl, ⟨fun g => absurd g hw, fun g => by cases g⟩⟩
  simp only [k71_1, K1, zx]
  (rw [dE, aD, aM (aq w.c 2 rfl), aE (zS hw), fZ, aC n0, aC a2, aC l2, aC n0, aC a3, aC l3]; try rfl)
theorem Mp (e37 : ar 22 p.fs = f22) (w : gJ h q r) : Cv p 22 [.ptr q 0] h (i64 ((r.getD []).length : Nat)) h := by
 obtain ⟨sv, full, a, why, wh, w, hr⟩ := w
 have n0 : nC (.ptr q 0) h = .ok (.ptr q 0) h := rfl
 have a0 : fA 0 (.ptr q 0) h = .ok (.ptr q 0) h := rfl
 have a1 : fA 1 (.ptr q 0) h = .ok (.ptr q 1) h := rfl
 have l0 : lD (.ptr q 0) h = .ok sv h := aZ w.c rfl
 have l1 : lD (.ptr q 1) h = .ok (i64 a) h := aq w.c 1 rfl
 by_cases hw : why = 0
 ·rw [if_pos hw] at hr
  have hs := Qd (h := h) w.rA (by have := w.len; omega)
  have e : (r.getD []).length = full.length - a := by subst hr; simp
  rw [e]
  refine .of (r' := T0 (i64 (full.length - a : Nat))) (h1 := h) e37 (by simp) (.aV fun c i K => ?_) rfl
  simp only [k22_0, K1, cP]
  (rw [dE, aD, aM (aq w.c 2 rfl), aE (uy hw), fK, aC n0, aC a0, aC l0, aC (lG.len (dA.Jb w.own)), aC n0, aC a1, aC l1, aC hs]; try rfl)
 ·rw [if_neg hw] at hr
  subst hr
  refine .of (r' := T0 i0) (h1 := h) e37 (by simp) (.aV fun c i K => ?_) rfl
  simp only [k22_0, K1, cP]
  (rw [dE, aD, aM (aq w.c 2 rfl), aE (zS hw), fZ]; try rfl)
end
open Go.Cod
noncomputable section
variable {p : Pg} {h0 h h' h1 h2 : Hp} {q j k jb jf : P4} {s full : Bs} {x y xv : AV} {r rr : Rd}
theorem sk (W : Wf h) {el es m : Nat} {l : List AV} {b : P4 → Prop} (w : dA h x el es l b) (hes : 0 < es) {new : List AV} (hn : new.length = m * es) (hs : l.length + new.length ≤ 16777216) :
  ∃ v h', lB el es m new x h = .ok v h' ∧ dA h' v el es (l ++ new) (fun j => b j ∨ ag j h = .none) ∧ Wf h' ∧ (∀ k, ag k h ≠ .none → ¬ b k → ag k h' = ag k h) ∧
   ∀ k el' ex' fl' l', Ob h k el' ex' fl' l' → (el' ≠ el ∨ ex' ≠ false) → ag k h' = ag k h := by
 have w' : dA h x el es l fun j => b j ∧ ∃ n c, ag j h = .cells el n false .plain c := by
  rcases w with w | ⟨q, n, e1, e2, e3, e4⟩
  ·exact .inl w
  ·obtain ⟨c, f1, f2⟩ := e3
   exact .inr ⟨q, n, e1, e2, ⟨c, f1, f2⟩, e4, _, c, f1⟩
 obtain ⟨v, h', c1, c2, c3, c4⟩ := iG W w' hes hn hs
 refine ⟨v, h', c1, dA.mono c2 fun j hj => hj.imp_left (·.1), c3, fun k hk hb => c4 k hk fun g => hb g.1, fun k el' ex' fl' l' o g => c4 k o.ne ?_⟩
 rintro ⟨_, n, c, e⟩
 obtain ⟨c', e', _⟩ := o
 rw [e] at e'
 obtain ⟨a1, _, a2, _⟩ := Obj.cells.inj e'
 rcases g with g | g
 ·exact g a1.symm
 ·exact g a2.symm
theorem _root_.Go.Am.dA.dr {el es : Nat} {l : List AV} {b : P4 → Prop} (w : dA h x el es l b) (g : ∀ k fl l', Ob h k el false fl l' → ag k h' = ag k h) : dA h' x el es l b := by
 rcases w with w | ⟨q, n, e1, e2, e3, e4⟩
 ·exact .inl w
 ·exact .inr ⟨q, n, e1, e2, e3.eq (g _ _ _ e3), e4⟩
theorem gJ.dr (w : gJ h q r) (W : Wf h') (g : ∀ k el ex fl l, Ob h k el ex fl l → el = 101 ∨ el = 5 → ag k h' = ag k h) : gJ h' q r :=
 let ⟨sv, full, a, why, wh, w, e⟩ := w
 ⟨sv, full, a, why, wh, ⟨W, w.ob.eq (g _ _ _ _ _ w.ob (.inl rfl)), w.own.dr fun k _ _ o => g k _ _ _ _ o (.inr rfl), w.len, w.rA⟩, e⟩
theorem Fr.set (F : Fr q h h') (hk : ag k h = .none) (g : ∀ j, j ≠ k → ag j h1 = ag j h') : Fr q h h1 := fun j hj hn => by
 rw [g j (fun e => by rw [e] at hn; exact hn hk), F j hj hn]
theorem Fr.none (F : Fr q h h') (hq : ag q h' ≠ .none) (hk : ag k h' = .none) : ag k h = .none := by
 have e : k ≠ q := fun e => by rw [e] at hk; exact hq hk
 cases g : ag k h with
 | none => rfl
 | _ =>
  have := F k e (by rw [g]; simp)
  rw [hk, g] at this
  cases this
structure Ff (h : Hp) (q jb jf : P4) (t : Bs) (h' : Hp) (xv : AV) (vs : List mr) (rr : Rd) : Prop where
 fr : Fr q h h'
 rd : gJ h' q rr
 ob : Ob h' jb 81 true .plain [iS, .ai, .bool false]
 of : Ob h' jf 81 true .plain [bz t, xv, .bool false]
 ow : dA h' xv 83 3 (vs.flatMap iW) fun j => ag j h = .none
variable {t : Bs} {vs : List mr}
theorem Ff.qQ (I : Ff h q jb jf t h' xv vs r) (w : gJ h2 q rr) (F : Fr q h' h2) : Ff h q jb jf t h2 xv vs rr := by
 obtain ⟨_, _, _, _, _, w0, _⟩ := I.rd
 exact ⟨I.fr.trans F, w, F.ob I.ob (I.rd.apart I.ob (by decide)), F.ob I.of (I.rd.apart I.of (by decide)), F.own I.ow w0.ob (.inl (by decide))⟩
theorem Ff.up (I : Ff h q jb jf t h' xv vs r) (O : Old h' h2) (W : Wf h2) : Ff h q jb jf t h2 xv vs r :=
 ⟨I.fr.trans (.of O), I.rd.up O W, I.ob.old O, I.of.old O, I.ow.old fun j _ hj => O j hj⟩
theorem fT {el : Nat} {ex : Bool} {fl : Fl} {l : List AV} (W : Wf h) (o : Ob h k el ex fl l) (g : ∀ j, j ≠ k → ag j h' = ag j h) (hn : h'.next = h.next) : Wf h' :=
 W.of hn fun j hj => by rw [g j (fun e => by rw [e] at hj; exact o.ne hj)]; exact hj
theorem Ff.st (I : Ff h q jb jf t h' xv vs r) {el : Nat} {fl : Fl} {l : List AV} (o : Ob h' k el true fl l) (h1 : el ≠ 101) (h70 : el ≠ 81) (hk : ag k h = .none) (g : ∀ j, j ≠ k → ag j h2 = ag j h') (hn : h2.next = h'.next) : Ff h q jb jf t h2 xv vs r :=
 ⟨I.fr.set hk g, I.rd.fr o h1 (fun j hj _ => g j hj) (fT I.rd.wf o g hn), I.ob.eq (g _ (I.ob.apart o (.inl (Ne.symm h70)))), I.of.eq (g _ (I.of.apart o (.inl (Ne.symm h70)))), Fr.own (fun j hj _ => g j hj) I.ow o (.inr (by simp))⟩
theorem Jm (vs : List mr) (v : mr) : (vs ++ [v]).flatMap iW = vs.flatMap iW ++ iW v := by simp
theorem Sq (vs : List mr) : (vs.flatMap iW).length = vs.length * 3 := by
 induction vs with
 | nil => rfl
 | cons v vs ih => simp only [List.flatMap_cons, List.length_append, ih, List.length_cons]; simp [iW]; omega
theorem Jn (T : pL p) (I : Ff h q jb jf t h' xv vs r) (nb : ag jb h = .none) (nf : ag jf h = .none) (hne : jb ≠ jf) (hv : vs.length ≤ 1000) {m : Nat} (hm : m < 1000) :
  ∃ xv' h2, Rn p (.ah zU (.ah k70_3 .skip)) (T50 (.ptr q 0) (.ptr jb 0) (.ptr jf 0) (i64 (m + 1 : Nat))) h' (.nm (T50 (.ptr q 0) (.ptr jb 0) (.ptr jf 0) (i64 m)) h2) ∧ Ff h q jb jf t h2 xv' (vs ++ [(kS r).1]) (kS r).2 := by
 obtain ⟨h1, c1, w1, F1⟩ := iM T I.rd
 have I1 := I.qQ w1 F1
 obtain ⟨h2, c2, w2, F2⟩ := iM T I1.rd
 have I2 := I1.qQ w2 F2
 generalize ha : (au r).1 = a at *
 generalize hr1 : (au r).2 = r1 at *
 generalize hb : (au r1).1 = b at *
 generalize hr2 : (au r1).2 = r2 at *
 obtain ⟨l, h3, e1, e2, e3, e4, e5, _⟩ := iH (el := 83) (n := 3) I2.rd.wf (c := .k1 (Y3 i0 i0 iS)) trivial (by decide)
 have I3 := I2.up e4 e5
 have hl : ag l h = .none := I2.fr.none I2.rd.ne e2
 obtain ⟨h4, f1, f2, f3, f4⟩ := fE (k := 0) (m := 3) (l' := [i64 a, i64 b, iS]) e3 rfl (by rw [bM]; omega)
 have f2 : Ob h4 l 83 true .plain [i64 a, i64 b, iS] := f2
 have I4 := I3.st e3 (by decide) (by decide) hl f3 f4
 obtain ⟨h5, c5, w5, F5⟩ := iO T I4.rd 65535
 have I5 := I4.qQ w5 F5
 have o5 := F5.ob f2 (I4.rd.apart f2 (by decide))
 generalize hs : (aJ 65535 r2).1 = s at *
 generalize hr3 : (aJ 65535 r2).2 = r3 at *
 obtain ⟨h6, g1, g2, g3, g4⟩ := dY (k := 2) (v := bz s) o5 (by simp) rfl
 have g2 : Ob h6 l 83 true .plain [i64 a, i64 b, bz s] := g2
 have I6 := I5.st o5 (by decide) (by decide) hl g3 g4
 have hv' : kS r = (⟨a, b, s⟩, r3) := by
  show ((⟨(au r).1, (au (au r).2).1, (aJ 65535 (au (au r).2).2).1⟩ : mr), (aJ 65535 (au (au r).2).2).2) = _
  rw [ha, hr1, hb, hr2, hs, hr3]
 rw [hv']
 obtain ⟨m', h7, u1, u2, u3, u4, u5, u6⟩ := gE (el := 83) (es := 3) (n := 1) (z := [i0, i0, iS]) (ps := [.mk 0 3 (.c (.agg [i64 a, i64 b, bz s]))]) (l := [i64 a, i64 b, bz s]) I6.rd.wf rfl rfl (by simp)
 have I7 := I6.up u4 u5
 obtain ⟨v', h8, z1, z2, z3, z4, z5⟩ := sk (m := 1) I7.rd.wf I7.ow (by omega) (new := [i64 a, i64 b, bz s]) rfl (by rw [Sq]; simp; omega)
 have V : eF 83 3 xv (.slice m' 0 1 1) h7 = .ok v' h8 := by
  rw [eT (m := 1) (q := m') (o := 0) (l := [i64 a, i64 b, bz s]) (.inl ⟨_, rfl⟩) (by omega) (fun _ => Ob.c0 u3) rfl (by omega)]
  exact z1
 have of8 := I7.of.eq (z5 _ _ _ _ _ I7.of (.inl (by decide)))
 have ob8 := I7.ob.eq (z5 _ _ _ _ _ I7.ob (.inl (by decide)))
 have rd8 : gJ h8 q r3 := I7.rd.dr z3 fun k el ex fl l o g => z5 k el ex fl l o (.inl (by rcases g with rfl | rfl <;> decide))
 have fr8 : Fr q h h8 := fun j hj hn => by
  have e := I7.fr j hj hn
  rw [z4 j (by rw [e]; exact hn) (fun g => hn g), e]
 obtain ⟨h9, k1, k2, k3, k4⟩ := dY (k := 1) (v := v') of8 (by simp) (mV z2)
 have k2 : Ob h9 jf 81 true .plain [bz t, v', .bool false] := k2
 refine ⟨v', h9, .to (r' := T50 (.ptr q 0) (.ptr jb 0) (.ptr jf 0) (i64 (m + 1 : Nat))) (h' := h9) ((c1.and (c2.and c5)).mono fun n g K => ?_) (.aV fun c i K => ?_), ⟨fr8.set nf k3, rd8.fr of8 (by decide) (fun j hj _ => k3 j hj) (fT z3 of8 k3 k4), ob8.eq (k3 jb hne), k2, ?_⟩⟩
 ·obtain ⟨gg1, gg2, gg5⟩ := g
  simp only [zU, K4, t50_0, t50_2, t50_3, t50_4]
  have U0 : bl [i0, i0, iS] [.mk 0 1 (.c (i64 a)), .mk 1 1 (.c (i64 b))] h2 = .ok (.agg [i64 a, i64 b, iS]) h2 := rfl
  (rw [aE DA, fZ, aF gg1, aF gg2, rq U0, lx e1, jl f1, aF gg5, aD, Nat.zero_add, dN g1, aD, aM (aq (Ob.c0 I6.of) 1 rfl), fO (bD (m := 3) (Ob.c0 g2) rfl), aE u1, aE V, aD, Nat.zero_add, dN k1]; try rfl)
 ·simp only [k70_3, K4, t50_0, t50_2, t50_3, t50_4]
  (rw [xM (by omega)]; try rfl)
 ·rw [Jm]
  exact (dA.mono (Fr.own (fun j hj _ => k3 j hj) z2 of8 (.inr (by simp))) fun j hj => hj.elim id fun g => I7.fr.none I7.rd.ne g)
theorem Mq (T : pL p) (e72 : ar 70 p.fs = f70) (w : gJ h q r) : ∃ xv h', Cv p 70 [.ptr q 0] h (.agg (uZ xv (mz r).1)) h' ∧ gJ h' q (mz r).2 ∧ Fr q h h' ∧ dA h' xv 83 3 ((mz r).1.row.flatMap iW) fun j => ag j h = .none := by
 obtain ⟨jb, h1, a1, a2, a3, a4, a5, _⟩ := iH (el := 81) (n := 3) w.wf (c := .k1 (Y3 iS .ai (.bool false))) trivial (by decide)
 have a3 : Ob h1 jb 81 true .plain [iS, .ai, .bool false] := a3
 have w1 := w.up a4 a5
 obtain ⟨h2, c2, w2, F2⟩ := iO T w1 65535
 generalize ht : (aJ 65535 r).1 = t at *
 generalize hr1 : (aJ 65535 r).2 = r1 at *
 have b2 := F2.ob a3 (w1.apart a3 (by decide))
 obtain ⟨jf, h3, b1, b3, b4, b5, b6, _⟩ := iH (el := 81) (n := 3) w2.wf (c := .k1 (Y3 iS .ai (.bool false))) trivial (by decide)
 have b4 : Ob h3 jf 81 true .plain [iS, .ai, .bool false] := b4
 have hne : jb ≠ jf := fun e => b2.ne (e ▸ b3)
 obtain ⟨h4, d1, d2, d3, d4⟩ := fE (k := 0) (m := 3) (l' := [bz t, .ai, .bool false]) b4 rfl (by simp)
 have d2 : Ob h4 jf 81 true .plain [bz t, .ai, .bool false] := d2
 have F12 : Fr q h h2 := (Fr.of a4).trans F2
 have nb : ag jb h = .none := a2
 have nf : ag jf h = .none := F12.none w2.ne b3
 have I4 : Ff h q jb jf t h4 .ai [] r1 := ⟨(F12.trans (.of b5)).set nf d3, (w2.up b5 b6).fr b4 (by decide) (fun j hj _ => d3 j hj) (fT b6 b4 d3 d4), (b2.old b5).eq (d3 jb hne), d2, .inl ⟨rfl, .inl rfl⟩⟩
 obtain ⟨h5, c5, w5, F5⟩ := mB T I4.rd
 have I5 := I4.qQ w5 F5
 have hn : (bQ r1).1 < 256 := Cod.gP 1 r1
 generalize hk : (bQ r1).1 = n at *
 generalize hr2 : (bQ r1).2 = r2 at *
 obtain ⟨r', h6, ⟨xv, _, I6⟩, k6⟩ := gW (p := p) (body := .ah zU (.ah k70_3 .skip)) (r := T50 (.ptr q 0) (.ptr jb 0) (.ptr jf 0) (i64 n)) (h := h5) n
  (Inv := fun i r h' => ∃ xv, r = T50 (.ptr q 0) (.ptr jb 0) (.ptr jf 0) (i64 (n - i : Nat)) ∧ Ff h q jb jf t h' xv (many kS i r2).1 (many kS i r2).2) (l := 0) (Re := T49 (.ptr q 0) (.ptr jb 0) (.ptr jf 0)) (fun i r h' hi I => by
   obtain ⟨xv, rfl, I⟩ := I
   obtain ⟨m, hm⟩ : ∃ m, n - i = m + 1 := ⟨n - i - 1, by omega⟩
   obtain ⟨xv', h2, k, I'⟩ := Jn (p := p) T I nb nf hne (by rw [iK]; omega) (m := m) (by omega)
   rw [hm]
   refine ⟨_, h2, k, xv', by rw [show n - (i + 1) = m by omega], ?_⟩
   rw [pG]
   exact I') (fun r h' I => by
   obtain ⟨xv, rfl, I⟩ := I
   refine .aV fun c i K => ?_
   rw [Nat.sub_self]
   simp only [zU, K4, t50_0, t50_2, t50_3, t50_4]
   have g0 : dj (i64 ((0 : Nat) : Int)) i0 h' = .ok (.bool false) h' := rfl
   (rw [aE g0, fK]; try rfl)) ⟨.ai, rfl, I5⟩
 obtain ⟨h7, c7, w7, F7⟩ := mB T I6.rd
 have I7 := I6.qQ w7 F7
 generalize hvs : (many kS n r2).1 = vs at *
 generalize hr3 : (many kS n r2).2 = r3 at *
 generalize hb : (bQ r3).1 = b at *
 generalize hr4 : (bQ r3).2 = r4 at *
 have hc : mz r = (⟨t, vs, decide (0 < b)⟩, r4) := by
  show ((⟨(aJ 65535 r).1, (many kS (bQ (aJ 65535 r).2).1 (bQ (aJ 65535 r).2).2).1, decide (0 < (bQ (many kS (bQ (aJ 65535 r).2).1 (bQ (aJ 65535 r).2).2).2).1)⟩ : oH), (bQ (many kS (bQ (aJ 65535 r).2).1 (bQ (aJ 65535 r).2).2).2).2) = _
  rw [ht, hr1, hk, hr2, hvs, hr3, hb, hr4]
 rw [hc]
 have gt : dj (i64 (b : Nat)) i0 h7 = .ok (.bool (decide (0 < b))) h7 := by
  show dj (i64 (b : Nat)) (i64 0) h7 = _
  rw [QZ]
  congr 2
  rw [decide_eq_decide]; omega
 obtain ⟨h8, g1, g2, g3, g4⟩ := dY (k := 2) (v := .bool (decide (0 < b))) I7.of (by simp) rfl
 have g2 : Ob h8 jf 81 true .plain [bz t, xv, .bool (decide (0 < b))] := g2
 have ob8 := I7.ob.eq (g3 jb hne)
 obtain ⟨h9, k1, k2, k3, k4⟩ := fE (k := 0) (m := 3) (l' := [bz t, xv, .bool (decide (0 < b))]) ob8 rfl (by simp)
 have k2 : Ob h9 jb 81 true .plain [bz t, xv, .bool (decide (0 < b))] := k2
 have s0 : Ev fun m => ∀ K : A2 → Hp → RS, k70_0 (aw p (exec p m)) (aG p (exec p m)) K (bt [.ptr q 0] 0 .nil) h = K (T49 (.ptr q 0) (.ptr jb 0) (.ptr jf 0)) h4 := c2.mono fun m g K => by
  simp only [k70_0, K1, cP]
  have U0 : bl [iS, .ai, .bool false] [.mk 0 1 (.c (bz t))] h2 = .ok (.agg [bz t, .ai, .bool false]) h2 := rfl
  (rw [lx a1, aF g, rq U0, lx b1, jl d1]; try rfl)
 have s1 : Ev fun m => ∀ K : A2 → Hp → RS, k70_1 (aw p (exec p m)) (aG p (exec p m)) K (T49 (.ptr q 0) (.ptr jb 0) (.ptr jf 0)) h4 = K (T50 (.ptr q 0) (.ptr jb 0) (.ptr jf 0) (i64 n)) h5 := c5.mono fun m g K => by
  simp only [k70_1, K3, t49_0, t49_2, t49_3]
  (rw [aF g]; try rfl)
 have rt : rG [.agg 3 .h0 .h2] (T0 (.ptr jb 0)) h9 = .ok (.agg (uZ xv ⟨t, vs, decide (0 < b)⟩)) h9 := by
  show (RV.rec (fun v _ => .ok v h9) (fun n => .err n) (Seat.pY 3 (.ptr jb 0) h9) : RV) = _
  rw [bD (m := 3) (Ob.c0 k2) rfl]; rfl
 refine ⟨xv, h9, .of (r' := T0 (.ptr jb 0)) (h1 := h9) e72 (by simp) (.to s0 (.seq (.to s1 (.bN k6)) (.ah (c7.mono fun m g => ?_)))) rt, ?_, (I7.fr.set nf g3).set nb k3, ?_⟩
 ·simp only [k70_4, K3, t49_0, t49_2, t49_3]
  (rw [aF g, aE gt, aD, Nat.zero_add, dN g1, fO (bD (m := 3) (Ob.c0 g2) rfl), jl k1]; try rfl)
 ·have w8 := I7.rd.fr I7.of (by decide) (fun j hj _ => g3 j hj) (fT I7.rd.wf I7.of g3 g4)
  exact w8.fr ob8 (by decide) (fun j hj _ => k3 j hj) (fT w8.wf ob8 k3 k4)
 ·exact Fr.own (fun j hj _ => k3 j hj) (Fr.own (fun j hj _ => g3 j hj) I7.ow I7.of (.inr (by simp))) ob8 (.inr (by simp))
end
open Go.Cod
noncomputable section
variable {p : Pg} {h0 h h' h1 : Hp} {q j : P4} {s : Bs} {x y a b d e f : AV}
theorem wo (T : Dw p) (TT : Fc p) (e17 : ar 17 p.fs = f17) (e29 : ar 31 p.fs = f31) (W : Wf h) {l : List AV} {e : oI} {B : Nat} (r : vZ h l e) (bd : uw B e) (hB : B < 9223372036854775807) (hs : (enc e).length ≤ 16777216) :
  ∃ v h', Cv p 17 [.agg l] h v h' ∧ dA h' v 5 1 (bc (if takes e = true then enc e else [])) (fun j => ag j h = .none) ∧ Old h h' ∧ Wf h' := by
 obtain ⟨x, y, rfl, r1, r2⟩ := r
 obtain ⟨j, h1, f1, f2, f3, f4, f5, f6⟩ := mj (el := 26) (l := cX x y e) W (by simp [cX])
 obtain ⟨h2, t1, t2, t3⟩ := ux (p := p) TT f5 (l := cX x y e) (e := e) ⟨x, y, rfl, aQ.up r1 f4, bE.up r2 f4⟩ bd hB
 have M1 := bD (m := 7) (Ob.c0 f3) (by simp [cX])
 cases ht : takes e with
 | false =>
  rw [ht] at t1
  refine ⟨.ai, h2, .of (r' := T0 .ai) (h1 := h2) e17 (by simp) (.ah (t1.mono fun m g => ?_)) rfl, ?_, f4.trans t2, t3⟩
  ·simp only [k17_0, K1, cP]
   (rw [jU f1, fO M1, aF g, eY, cq, Bool.not_false, fZ]; try rfl)
  ·rw [if_neg (by simp)]
   exact .inl ⟨rfl, .inl rfl⟩
 | true =>
  rw [ht] at t1
  rw [if_pos rfl]
  obtain ⟨b1, b2, b3, b4, b5, b6, b7, b8, b9⟩ := bd
  have O2 := f4.trans t2
  have c2 := (Ob.c0 f3).old t2
  have rc := aQ.up r1 O2
  have rg := bE.up r2 O2
  obtain ⟨q, h3, a0, w3, _⟩ := we T t3
  have hz : (enc e).length = 8 + 8 + 8 + (2 + e.name.length) + (2 + e.text.length) + 1 + (e.bU.flatMap my).length + 1 + (e.changes.flatMap mw).length := by
   unfold enc; simp only [List.length_append, aK, aL, bm]
  obtain ⟨h4, a1, w4⟩ := kV T w3 (n := e.aA) (by simp)
  obtain ⟨h5, a2, w5⟩ := kV T w4 (n := e.seq) (by simp [aK])
  obtain ⟨h6, a3, w6⟩ := kV T w5 (n := e.kind) (by simp [aK])
  obtain ⟨h7, a4, w7⟩ := kW T w6 (t := e.name) (by simp only [List.length_append, List.length_nil, aK]; omega)
  obtain ⟨h8, a5, w8⟩ := kW T w7 (t := e.text) (by simp only [List.length_append, List.length_nil, aK, aL]; omega)
  obtain ⟨h9, a6, w9⟩ := pI T w8 (n := e.bU.length) (by simp only [List.length_append, List.length_nil, aK, aL]; omega)
  obtain ⟨ha, a7, wa⟩ := Jg (p := p) (a := .ptr j 0) T w9 rc (by simp only [List.length_append, List.length_nil, aK, aL, bm]; omega) (by omega)
  obtain ⟨hb, a8, wb⟩ := pI T wa (n := e.changes.length) (by simp only [List.length_append, List.length_nil, aK, aL, bm]; omega)
  obtain ⟨hc, a9, wc⟩ := Jf (p := p) T wb rg (by simp only [List.length_append, List.length_nil, aK, aL, bm]; omega) (by omega) (fun c hc => by have := (b9 c hc).2.1; omega)
  obtain ⟨v, hd, aa, wd, Od, Wd⟩ := Dx T e29 wc (by simp only [List.length_append, List.length_nil, aK, aL, bm]; omega)
  have s0 : Ev fun m => ∀ K : A2 → Hp → RS, k17_0 (aw p (exec p m)) (aG p (exec p m)) K (bt [.agg (cX x y e)] 0 .nil) h = K (T16 (.ptr j 0) (.ptr q 0)) h6 := (t1.and (a0.and (a1.and (a2.and a3)))).mono fun m g K => by
   obtain ⟨g0, g1, g2, g3, g4⟩ := g
   simp only [k17_0, K1, cP]
   (rw [jU f1, fO M1, aF g0, eY, cq, Bool.not_true, fK, aF g1, aD, aM (aZ (c2.old w3.old) rfl), aF g2, aD, aM (aq (c2.old w4.old) 1 rfl), aF g3, aD, aM (aq (c2.old w5.old) 2 rfl), aF g4]; try rfl)
  have s1 : Ev fun m => ∀ K : A2 → Hp → RS, k17_1 (aw p (exec p m)) (aG p (exec p m)) K (T16 (.ptr j 0) (.ptr q 0)) h6 = K (T16 (.ptr j 0) (.ptr q 0)) h9 := (a4.and (a5.and a6)).mono fun m g K => by
   obtain ⟨g0, g1, g2⟩ := g
   simp only [k17_1, K2, t16_1, t16_3]
   (rw [aD, aM (aq (c2.old w6.old) 3 rfl), aF g0, aD, aM (aq (c2.old w7.old) 4 rfl), aF g1, aD, aM (aq (c2.old w8.old) 5 rfl), bL (cY.len (aQ.up rc w8.old)), aF g2]; try rfl)
  have s2 : ∀ c i' (K : A2 → Hp → RS), k17_2 c i' K (T16 (.ptr j 0) (.ptr q 0)) h9 = K (T17 (.ptr j 0) (.ptr q 0) x (i64 e.bU.length) i0) h9 := fun c i' K => by
   simp only [k17_2, K2, t16_1, t16_3]
   (rw [aD, aM (aq (c2.old w9.old) 5 rfl), bL (cY.len (aQ.up rc w9.old))]; try rfl)
  have s4 : Ev fun m => ∀ K : A2 → Hp → RS, k17_4 (aw p (exec p m)) (aG p (exec p m)) K (T17 (.ptr j 0) (.ptr q 0) x (i64 e.bU.length) (i64 e.bU.length)) ha = K (T16 (.ptr j 0) (.ptr q 0)) hb := a8.mono fun m g K => by
   simp only [k17_4, K2, t17_1, t17_3]
   (rw [aD, aM (aq (c2.old wa.old) 6 rfl), bL (cY.len (bE.up rg wa.old)), aF g]; try rfl)
  have s5 : ∀ c i' (K : A2 → Hp → RS), k17_5 c i' K (T16 (.ptr j 0) (.ptr q 0)) hb = K (T18 (.ptr q 0) y (i64 e.changes.length) i0) hb := fun c i' K => by
   simp only [k17_5, K2, t16_1, t16_3]
   (rw [aD, aM (aq (c2.old wb.old) 6 rfl), bL (cY.len (bE.up rg wb.old))]; try rfl)
  have s6 : Rn p (.ah k17_12 .skip) (T19 (.ptr q 0)) hc (.ret (T0 v) hd) := .ah (aa.mono fun m g => by
   simp only [k17_12, K1, t19_3]
   (rw [aF g]; try rfl))
  refine ⟨v, hd, .of (r' := T0 v) (h1 := hd) e17 (by simp) (.to s0 (.to s1 (.seq (.dP s2 (.bN a7)) (.to s4 (.seq (.dP s5 (.bN a9)) s6))))) rfl, ?_, O2.trans Od, Wd⟩
  have k1 := sj e.bU.length (by omega)
  have k2 := sj e.changes.length (by omega)
  rw [k1, k2] at wd
  refine dA.mono (b := fun j => ag j h2 = .none) ?_ fun j hj => O2.none hj
  simpa only [enc, List.nil_append, List.append_assoc] using wd
end
open Go.Cod
noncomputable section
variable {p : Pg} {h0 h h' h1 h2 : Hp} {q j k jb jk : P4} {s full : Bs} {x y xv xc xg : AV} {r rr : Rd}
def Jo (c : Bs × Int) : List AV := [bz c.1, i64 c.2]
def pM (b : P4 → Prop) (h : Hp) (x : AV) (cs : List oH) : Prop := ∃ xs : List AV, xs.length = cs.length ∧ dA h x 81 3 (List.zipWith uZ xs cs).flatten b ∧ ∀ i (h1 : i < xs.length) (h2 : i < cs.length), dA h xs[i] 83 3 (cs[i].row.flatMap iW) fun _ => True
theorem pM.dr {b : P4 → Prop} {cs : List oH} (w : pM b h x cs) (g : ∀ k el fl l, Ob h k el false fl l → el = 83 ∨ el = 81 → ag k h' = ag k h) : pM b h' x cs := by
 obtain ⟨xs, e1, e2, e3⟩ := w
 exact ⟨xs, e1, e2.dr fun k fl l o => g k _ _ _ o (.inr rfl), fun i h1 h2 => (e3 i h1 h2).dr fun k fl l o => g k _ _ _ o (.inl rfl)⟩
structure rM (h0 : Hp) (q jb jk : P4) (e : oI) (h' : Hp) (xc xg : AV) (rr : Rd) : Prop where
 old : Old h0 h'
 rd : gJ h' q rr
 ob : Ob h' jb 26 true .plain [i0, i0, i0, iS, iS, .ai, .ai]
 ok : Ob h' jk 26 true .plain (cX xc xg e)
 oc : dA h' xc 70 2 (e.bU.flatMap Jo) fun j => ag j h0 = .none
 og : pM (fun j => ag j h0 = .none) h' xg e.changes
variable {e : oI}
theorem rM.one (I : rM h0 q jb jk e h' xc xg r) {el : Nat} {fl : Fl} {l : List AV} (o : Ob h' k el true fl l) (F : Fr k h' h2) (hk : ag k h0 = .none) (w : gJ h2 q rr) (h26 : el ≠ 26) : rM h0 q jb jk e h2 xc xg rr :=
 ⟨F.old I.old hk, w, F.ob I.ob (I.ob.apart o (.inl (Ne.symm h26))), F.ob I.ok (I.ok.apart o (.inl (Ne.symm h26))), F.own I.oc o (.inr (by simp)), I.og.dr fun j el' fl' l' o' _ => F j (o'.apart o (.inr (by simp))) o'.ne⟩
theorem rM.qQ (I : rM h0 q jb jk e h' xc xg r) (hq : ag q h0 = .none) (w : gJ h2 q rr) (F : Fr q h' h2) : rM h0 q jb jk e h2 xc xg rr := by
 obtain ⟨_, _, _, _, _, w0, _⟩ := I.rd
 exact I.one w0.ob F hq w (by decide)
theorem rM.up (I : rM h0 q jb jk e h' xc xg r) (O : Old h' h2) (W : Wf h2) : rM h0 q jb jk e h2 xc xg r :=
 ⟨I.old.trans O, I.rd.up O W, I.ob.old O, I.ok.old O, I.oc.old fun j _ hj => O j hj, I.og.dr fun j _ _ _ o _ => O j o.ne⟩
theorem rM.st (I : rM h0 q jb jk e h' xc xg r) {el : Nat} {fl : Fl} {l : List AV} (o : Ob h' k el true fl l) (h1 : el ≠ 101) (h26 : el ≠ 26) (hk : ag k h0 = .none) (g : ∀ j, j ≠ k → ag j h2 = ag j h') (hn : h2.next = h'.next) : rM h0 q jb jk e h2 xc xg r :=
 I.one o (fun j hj _ => g j hj) hk (I.rd.fr o h1 (fun j hj _ => g j hj) (fT I.rd.wf o g hn)) h26
theorem Jp (cs : List (Bs × Int)) (c : Bs × Int) : (cs ++ [c]).flatMap Jo = cs.flatMap Jo ++ Jo c := by simp
theorem Sr (cs : List (Bs × Int)) : (cs.flatMap Jo).length = cs.length * 2 := by
 induction cs with
 | nil => rfl
 | cons v vs ih => simp only [List.flatMap_cons, List.length_append, ih, List.length_cons]; simp [Jo]; omega
theorem Jq (T : pL p) (I : rM h0 q jb jk e h' xc xg r) (hq : ag q h0 = .none) (hk : ag jk h0 = .none) (hne : jb ≠ jk) (hv : e.bU.length ≤ 1000) {a : AV} {m : Nat} (hm : m < 1000) :
  ∃ xc' h2, Rn p (.ah zV (.ah k42_3 .skip)) (T44 a (.ptr jb 0) (.ptr q 0) (.ptr jk 0) (i64 (m + 1 : Nat))) h' (.nm (T44 a (.ptr jb 0) (.ptr q 0) (.ptr jk 0) (i64 m)) h2) ∧ rM h0 q jb jk { e with bU := e.bU ++ [(uo r).1] } h2 xc' xg (uo r).2 := by
 obtain ⟨h1, c1, w1, F1⟩ := iO T I.rd 65535
 have I1 := I.qQ hq w1 F1
 generalize hs : (aJ 65535 r).1 = s at *
 generalize hr1 : (aJ 65535 r).2 = r1 at *
 obtain ⟨l, h3, e1, e2, e3, e4, e5, _⟩ := iH (el := 70) (n := 2) I1.rd.wf (c := .k1 (Y2 iS i0)) trivial (by decide)
 have I3 := I1.up e4 e5
 have hl : ag l h0 = .none := I1.old.none e2
 obtain ⟨h4, f1, f2, f3, f4⟩ := fE (k := 0) (m := 2) (l' := [bz s, i0]) e3 rfl (by rw [bM]; omega)
 have f2 : Ob h4 l 70 true .plain [bz s, i0] := f2
 have I4 := I3.st e3 (by decide) (by decide) hl f3 f4
 obtain ⟨h5, c5, w5, F5⟩ := iM T I4.rd
 have I5 := I4.qQ hq w5 F5
 have o5 := F5.ob f2 (I4.rd.apart f2 (by decide))
 generalize hn : (au r1).1 = n at *
 generalize hr2 : (au r1).2 = r2 at *
 obtain ⟨h6, g1, g2, g3, g4⟩ := dY (k := 1) (v := i64 n) o5 (by simp) rfl
 have g2 : Ob h6 l 70 true .plain [bz s, i64 n] := g2
 have I6 := I5.st o5 (by decide) (by decide) hl g3 g4
 have hv' : uo r = ((s, n), r2) := by
  show (((aJ 65535 r).1, (au (aJ 65535 r).2).1), (au (aJ 65535 r).2).2) = _
  rw [hs, hr1, hn, hr2]
 rw [hv']
 obtain ⟨m', h7, u1, u2, u3, u4, u5, u6⟩ := gE (el := 70) (es := 2) (n := 1) (z := [iS, i0]) (ps := [.mk 0 2 (.c (.agg [bz s, i64 n]))]) (l := [bz s, i64 n]) I6.rd.wf rfl rfl (by simp)
 have I7 := I6.up u4 u5
 obtain ⟨v', h8, z1, z2, z3, z4, z5⟩ := sk (m := 1) I7.rd.wf I7.oc (by omega) (new := [bz s, i64 n]) rfl (by rw [Sr]; simp; omega)
 have V : eF 70 2 xc (.slice m' 0 1 1) h7 = .ok v' h8 := by
  rw [eT (m := 1) (q := m') (o := 0) (l := [bz s, i64 n]) (.inl ⟨_, rfl⟩) (by omega) (fun _ => Ob.c0 u3) rfl (by omega)]
  exact z1
 have ok8 := I7.ok.eq (z5 _ _ _ _ _ I7.ok (.inl (by decide)))
 have ob8 := I7.ob.eq (z5 _ _ _ _ _ I7.ob (.inl (by decide)))
 have rd8 : gJ h8 q r2 := I7.rd.dr z3 fun k el ex fl l o g => z5 k el ex fl l o (.inl (by rcases g with rfl | rfl <;> decide))
 have old8 : Old h0 h8 := fun j hj => by
  have e := I7.old j hj
  rw [z4 j (by rw [e]; exact hj) (fun g => hj g), e]
 have og8 : pM (fun j => ag j h0 = .none) h8 xg e.changes := I7.og.dr fun k el fl l o g => z5 k el _ fl l o (.inl (by rcases g with rfl | rfl <;> decide))
 obtain ⟨h9, k1, k2, k3, k4⟩ := dY (k := 5) (v := v') ok8 (by simp [cX]) (mV z2)
 have k2 : Ob h9 jk 26 true .plain (cX v' xg { e with bU := e.bU ++ [(s, n)] }) := k2
 refine ⟨v', h9, .to (r' := T44 a (.ptr jb 0) (.ptr q 0) (.ptr jk 0) (i64 (m + 1 : Nat))) (h' := h9) ((c1.and c5).mono fun n g K => ?_) (.aV fun c i K => ?_),
  ⟨Fr.old (fun j hj _ => k3 j hj) old8 hk, rd8.fr ok8 (by decide) (fun j hj _ => k3 j hj) (fT z3 ok8 k3 k4), ob8.eq (k3 jb hne), k2, ?_, og8.dr fun k el fl l o _ => k3 k (o.apart ok8 (.inr (by simp)))⟩⟩
 ·obtain ⟨gg1, gg5⟩ := g
  simp only [zV, K5, t44_0, t44_2, t44_4, t44_5, t44_6]
  have U0 : bl [iS, i0] [.mk 0 1 (.c (bz s))] h1 = .ok (.agg [bz s, i0]) h1 := rfl
  (rw [aE DA, fZ, aF gg1, rq U0, lx e1, jl f1, aF gg5, aD, Nat.zero_add, dN g1, aD, aM (aq (Ob.c0 I6.ok) 5 rfl), fO (bD (m := 2) (Ob.c0 g2) rfl), aE u1, aE V, aD, Nat.zero_add, dN k1]; try rfl)
 ·simp only [k42_3, K5, t44_0, t44_2, t44_4, t44_5, t44_6]
  (rw [xM (by omega)]; try rfl)
 ·rw [Jp]
  exact dA.mono (Fr.own (fun j hj _ => k3 j hj) z2 ok8 (.inr (by simp))) fun j hj => hj.elim id fun g => I7.old.none g
theorem _root_.Go.Am.Ds.ef {p : Pg} {l : List DI} {d : bV} {aop : oG} {rg : A2} {h h' g : Hp} {hs : List Hp} {v : AV} {st : RS} (e : aop.run rg h = .ok v h') (k : Ds p l (da d v rg) h' h' (g :: hs) st) : Ds p (.mk .ef (.o d (.op aop)) :: l) rg h g hs st := k.mono fun m k => by
 show nd d (eG p (exec p m) l) rg g hs (aop.run rg h).lH = st
 rw [e]; exact k
theorem Jr {el es : Nat} {l : List AV} {b : P4 → Prop} (w : dA h x el es l b) : same x x = true := by
 rcases w with ⟨_, rfl | ⟨q, rfl⟩⟩ | ⟨q, n, rfl, _⟩
 ·rfl
 ·exact zE (es := 1) (n := 0) (q := q) (o := 0) (.inl ⟨0, rfl⟩)
 ·exact zE (es := es) (n := n) (q := q) (o := 0) (.inr (.inl rfl))
theorem Mr {xs : List AV} {cs : List oH} (hl : xs.length = cs.length) (a : AV) (c : oH) : (List.zipWith uZ (xs ++ [a]) (cs ++ [c])).flatten = (List.zipWith uZ xs cs).flatten ++ uZ a c := by
 rw [List.zipWith_append hl]; simp
theorem Ms {xs : List AV} {cs : List oH} (hl : xs.length = cs.length) : (List.zipWith uZ xs cs).flatten.length = cs.length * 3 := by
 induction xs generalizing cs with
 | nil => cases cs with | nil => rfl | cons _ _ => simp at hl
 | cons a xs ih => cases cs with
  | nil => simp at hl
  | cons c cs =>
   simp only [List.zipWith_cons_cons, List.flatten_cons, List.length_append, ih (by simpa using hl), List.length_cons]
   simp [uZ]; omega
theorem Js (T : pL p) (e72 : ar 70 p.fs = f70) (I : rM h0 q jb jk e h' xc xg r) (hq : ag q h0 = .none) (hk : ag jk h0 = .none) (hne : jb ≠ jk) (hv : e.changes.length ≤ 1000) {a : AV} {m : Nat} (hm : m < 1000) :
  ∃ xg' h2, Rn p (dp 4 (bh (bh x42))) (T45 a (.ptr jb 0) (.ptr q 0) (.ptr jk 0) (i64 (m + 1 : Nat))) h' (.nm (T45 a (.ptr jb 0) (.ptr q 0) (.ptr jk 0) (i64 m)) h2) ∧ rM h0 q jb jk { e with changes := e.changes ++ [(mz r).1] } h2 xc xg' (mz r).2 := by
 obtain ⟨xv, h1, c1, w1, F1, ow1⟩ := Mq (p := p) T e72 I.rd
 have I1 := I.qQ hq w1 F1
 generalize hc : (mz r).1 = c at *
 generalize hr1 : (mz r).2 = r1 at *
 obtain ⟨m', h2, u1, u2, u3, u4, u5, u6⟩ := gE (el := 81) (es := 3) (n := 1) (z := [iS, .ai, .bool false]) (ps := [.mk 0 3 (.c (.agg (uZ xv c)))]) (l := uZ xv c) I1.rd.wf rfl rfl (by simp [uZ])
 have I2 := I1.up u4 u5
 have ow2 := ow1.old fun j _ hj => u4 j hj
 obtain ⟨xs, g1, g2, g3⟩ := I2.og
 obtain ⟨v', h3, z1, z2, z3, z4, z5⟩ := sk (m := 1) I2.rd.wf g2 (by omega) (new := uZ xv c) rfl (by rw [Ms g1]; simp [uZ]; omega)
 have V : eF 81 3 xg (.slice m' 0 1 1) h2 = .ok v' h3 := by
  rw [eT (m := 1) (q := m') (o := 0) (l := uZ xv c) (.inl ⟨_, rfl⟩) (by omega) (fun _ => Ob.c0 u3) rfl (by omega)]
  exact z1
 have ok3 := I2.ok.eq (z5 _ _ _ _ _ I2.ok (.inl (by decide)))
 have ob3 := I2.ob.eq (z5 _ _ _ _ _ I2.ob (.inl (by decide)))
 have rd3 : gJ h3 q r1 := I2.rd.dr z3 fun k el ex fl l o g => z5 k el ex fl l o (.inl (by rcases g with rfl | rfl <;> decide))
 have old3 : Old h0 h3 := fun j hj => by
  have e := I2.old j hj
  rw [z4 j (by rw [e]; exact hj) (fun g => hj g), e]
 have oc3 := I2.oc.dr (h' := h3) fun k fl l o => z5 k _ _ fl l o (.inl (by decide))
 have rows3 : ∀ i (h1 : i < xs.length) (h2 : i < e.changes.length), dA h3 xs[i] 83 3 (e.changes[i].row.flatMap iW) fun _ => True := fun i a1 a2 => (g3 i a1 a2).dr fun k fl l o => z5 k _ _ fl l o (.inl (by decide))
 have ow3 := ow2.dr (h' := h3) fun k fl l o => z5 k _ _ fl l o (.inl (by decide))
 obtain ⟨h4, k1, k2, k3, k4⟩ := dY (k := 6) (v := v') ok3 (by simp [cX]) (mV z2)
 have k2 : Ob h4 jk 26 true .plain (cX xc v' { e with changes := e.changes ++ [c] }) := k2
 have kp : ∀ k el fl l, Ob h3 k el false fl l → ag k h4 = ag k h3 := fun k el fl l o => k3 k (o.apart ok3 (.inr (by simp)))
 have sm := Jr g2
 have L0 : lD (.ptr jk 6) h' = .ok xg h' := aq (Ob.c0 I.ok) 6 rfl
 have L1 : lD (.ptr jk 6) h1 = .ok xg h1 := aq (Ob.c0 I1.ok) 6 rfl
 have L2 : lD (.ptr jk 6) h2 = .ok xg h2 := aq (Ob.c0 I2.ok) 6 rfl
 have s5 : ∀ cc i (K : A2 → Hp → RS), k42_5 cc i K (T45 a (.ptr jb 0) (.ptr q 0) (.ptr jk 0) (i64 (m + 1 : Nat))) h' = K (T45 a (.ptr jb 0) (.ptr q 0) (.ptr jk 0) (i64 (m + 1 : Nat))) h' := fun cc i K => by
  simp only [k42_5, K5, t45_0, t45_2, t45_4, t45_5, t45_8]
  (rw [aE DA, fZ]; try rfl)
 have ops : ∃ r', Rn p (dp 6 (bh (bh x42))) (T45 a (.ptr jb 0) (.ptr q 0) (.ptr jk 0) (i64 (m + 1 : Nat))) h' (.nm r' h4) ∧ y0 r' = a ∧ y2 r' = .ptr jb 0 ∧ y4 r' = .ptr q 0 ∧ y5 r' = .ptr jk 0 ∧ y8 r' = i64 (m + 1 : Nat) :=
  ⟨_, .block (.rS (.dF (v := .ptr q 0) (g' := h') rfl <| .call (v := .agg (uZ xv c)) (h' := h1) c1 <| .ef (v := .slice m' 0 1 1) (h' := h2) u1 <|
   .Uk (v := .ptr jk 6) (g' := h2) (h1' := h1) (h2' := h') rfl rfl rfl (IL _ _) <| .Uk (v := xg) (g' := h2) (h1' := h1) (h2' := h') L2 L1 L0 sm <|
   .ef (v := v') (h' := h3) V <| .dF (v := .ptr jk 6) (g' := h3) rfl <| .ef (v := .undef) (h' := h4) k1 <| .nil)), rfl, rfl, rfl, rfl, rfl⟩
 obtain ⟨r', o1, o2, o3, o4, o5, o6⟩ := ops
 refine ⟨v', h4, .dP s5 (.seq o1 (.aV fun cc i K => ?_)), ⟨Fr.old (fun j hj _ => k3 j hj) old3 hk, rd3.fr ok3 (by decide) (fun j hj _ => k3 j hj) (fT z3 ok3 k3 k4), ob3.eq (k3 jb hne), k2, oc3.dr fun k fl l o => kp k _ fl l o, xs ++ [xv], by simp [g1], ?_, fun i a1 a2 => ?_⟩⟩
 ·simp only [k42_6, K5, o2, o3, o4, o5, o6]
  (rw [xM (by omega)]; try rfl)
 ·rw [Mr g1]
  exact dA.mono (z2.dr fun k fl l o => kp k _ fl l o) fun j hj => hj.elim id fun g => I2.old.none g
 ·by_cases hi : i < xs.length
  ·simp only [List.getElem_append_left hi, List.getElem_append_left (show i < e.changes.length by omega)]
   exact (rows3 i hi (by omega)).dr fun k fl l o => kp k _ fl l o
  ·have hi' : i = xs.length := by simp at a1; omega
   subst hi'
   have q1 : (xs ++ [xv])[xs.length]'a1 = xv := by simp
   have q2 : (e.changes ++ [c])[xs.length]'a2 = c := by
    have := List.getElem_append_right (as := e.changes) (bs := [c]) (i := xs.length) (by omega) (h₂ := a2)
    rw [this]; simp
   rw [q1, q2]
   exact dA.mono (ow3.dr fun k fl l o => kp k _ fl l o) fun _ _ => True.intro
end
open Go.Cod
noncomputable section
variable {p : Pg} {h0 h h' h1 : Hp} {q j : P4} {s : Bs} {x y a b d e f : AV}
theorem oA (e14 : ar 14 p.fs = f14) (W : Wf h) : ∃ k h', Cv p 14 [.ptr j 0] h (.slice k 0 3 3) h' ∧ Cs h' k 0 [.ptr j 1, .ptr j 2, .ptr j 3] ∧ Old h h' ∧ Wf h' ∧ ag k h = .none := by
 obtain ⟨k, h1, f1, f2, f3, f4, f5, f6⟩ := gE (el := 47) (es := 1) (n := 3) (z := [.cL, .cL, .cL]) (ps := [.mk 0 1 (.c (.ptr j 1)), .mk 1 1 (.c (.ptr j 2)), .mk 2 1 (.c (.ptr j 3))]) (l := [.ptr j 1, .ptr j 2, .ptr j 3]) W rfl rfl (by simp)
 refine ⟨k, h1, .of (r' := T0 (.slice k 0 3 3)) (h1 := h1) e14 (by simp) (.aV fun c i K => ?_) rfl, Ob.c0 f3, f4, f5, f2⟩
 simp only [k14_0, K1, cP]
 have n1 : nC (.ptr j 0) h = .ok (.ptr j 0) h := rfl
 have a1 : fA 1 (.ptr j 0) h = .ok (.ptr j 1) h := rfl
 have a2 : fA 2 (.ptr j 0) h = .ok (.ptr j 2) h := rfl
 have a3 : fA 3 (.ptr j 0) h = .ok (.ptr j 3) h := rfl
 (rw [aC n1, aC a1, aC n1, aC a2, aC n1, aC a3, f1]; try rfl)
theorem Mt {k : Nat} {n : Int} (c : Cs h j k [i64 n]) : ∃ r', Os p (opsL (dp 9 (bh x11))) (T14 a (.ptr j k) b d e) h (.nm r' h) ∧ y1 r' = a ∧ y5 r' = b ∧ y6 r' = d ∧ y7 r' = e ∧ y20 r' = .bool (!small n) := by
 have lt : bK .lt (i64 n) (ni 2147483647) h = .ok (.bool (decide (n < Int.negSucc 2147483647))) h := ry _ _ _
 have gt : bK .gt (i64 n) (pi 2147483647) h = .ok (.bool (decide (Int.ofNat 2147483647 < n))) h := fP _ _ _
 by_cases hc : n < Int.negSucc 2147483647
 ·rw [decide_eq_true hc] at lt
  refine ⟨_, .step (v := .ptr j k) (h' := h) rfl <| .step (v := .ptr j k) (h' := h) rfl <| .step (v := i64 n) (h' := h) (aZ c rfl) <| .step (v := .bool true) (h' := h) lt <| .step (v := .bool true) (h' := h) rfl <| .off rfl <| .off rfl <| .off rfl <| .off rfl <| .step (v := .bool true) (h' := h) rfl <| .nil, rfl, rfl, rfl, rfl, ?_⟩
  have : small n = false := by
   unfold small
   rw [decide_eq_false (show ¬ -2147483648 ≤ n from fun g => by have : n < -2147483648 := hc; omega)]; rfl
  rw [this]; rfl
 ·rw [decide_eq_false hc] at lt
  have hc' : -2147483648 ≤ n := by have : ¬ n < -2147483648 := hc; omega
  have gt : bK .gt (i64 n) (pi 2147483647) h = .ok (.bool (!small n)) h := by
   rw [gt]
   congr 2
   unfold small
   rw [decide_eq_true hc', Bool.true_and, ← decide_not, decide_eq_decide]
   show (2147483647 : Int) < n ↔ _
   omega
  exact ⟨_, .step (v := .ptr j k) (h' := h) rfl <| .step (v := .ptr j k) (h' := h) rfl <| .step (v := i64 n) (h' := h) (aZ c rfl) <| .step (v := .bool false) (h' := h) lt <| .step (v := .bool false) (h' := h) rfl <| .on rfl <| .step (v := .ptr j k) (h' := h) rfl <| .on rfl <| .step (v := .ptr j k) (h' := h) rfl <| .on rfl <| .step (v := i64 n) (h' := h) (aZ c rfl) <| .on rfl <| .step (v := .bool (!small n)) (h' := h) gt <| .step (v := .bool (!small n)) (h' := h) rfl <| .nil, rfl, rfl, rfl, rfl, rfl⟩
theorem Ss (a b c d e : AV) (E : List AV) (k : Nat) (hk : k < E.length) : ([a, b, c, d, e] ++ E)[5 + k]'(by simp; omega) = E[k] := by
 rw [List.getElem_append_right (by simp)]
 simp
theorem Jt (TT : Fc p) {s : lF} {B : Nat} (W : Wf h) (c : Cs h j 0 (fQ x y s)) (r1 : aQ h x s.entry.bU) (r2 : bE h y s.entry.changes) (bd : uw B s.entry) (hB : B < 9223372036854775807) :
  ∃ r' h', Os p (opsL (fst (bh (bh x11)))) (T12 (.ptr j 0)) h (.nm r' h') ∧ y2 r' = .bool (decide (1 ≤ s.kind) && decide (s.kind ≤ 9) && decide (s.name.length ≤ 255) && takes s.entry) ∧ Old h h' ∧ Wf h' := by
 have ge : bK .ge (i64 s.kind) (pi 1) h = .ok (.bool (decide (1 ≤ s.kind))) h := Sk _ _ _
 have le9 : bK .le (i64 s.kind) (pi 9) h = .ok (.bool (decide (s.kind ≤ 9))) h := Dm _ _ _
 have le255 : bK .le (i64 s.name.length) (pi 255) h = .ok (.bool (decide (s.name.length ≤ 255))) h := by
  show Bh (.int .i64 s.name.length) (.int .i64 (.ofNat 255)) h = _
  rw [Dm]
  congr 2
  rw [decide_eq_decide]
  show _ ≤ (255 : Int) ↔ _
  omega
 obtain ⟨h', tk, tO, tW⟩ := ux (p := p) TT W (l := cX x y s.entry) ⟨x, y, rfl, r1, r2⟩ bd hB
 have c5 : Cs h j 5 (cX x y s.entry) := by
  have := c.sub 5 (cX x y s.entry) (by simp [fQ, cX]) (fun k hk => Ss _ _ _ _ _ _ k hk)
  simpa using this
 cases k1 : decide (1 ≤ s.kind) with
 | false =>
  rw [k1] at ge
  exact ⟨_, h, .step (v := .ptr j 0) (h' := h) rfl <| .step (v := i64 s.kind) (h' := h) (aZ c rfl) <| .step (v := .bool false) (h' := h) ge <| .step (v := .bool false) (h' := h) rfl <| .off rfl <| .off rfl <| .off rfl <| .step (v := .bool false) (h' := h) rfl <| .step (v := .bool false) (h' := h) rfl <| .off rfl <| .off rfl <| .off rfl <| .off rfl <| .step (v := .bool false) (h' := h) rfl <| .step (v := .bool false) (h' := h) rfl <| .off rfl <| .off rfl <| .off rfl <| .step (v := .bool false) (h' := h) rfl <| .step (v := .bool false) (h' := h) rfl <| .nil, rfl, .refl h, W⟩
 | true =>
  rw [k1] at ge
  cases k2 : decide (s.kind ≤ 9) with
  | false =>
   rw [k2] at le9
   exact ⟨_, h, .step (v := .ptr j 0) (h' := h) rfl <| .step (v := i64 s.kind) (h' := h) (aZ c rfl) <| .step (v := .bool true) (h' := h) ge <| .step (v := .bool true) (h' := h) rfl <| .on rfl <| .step (v := .ptr j 0) (h' := h) rfl <| .on rfl <| .step (v := i64 s.kind) (h' := h) (aZ c rfl) <| .on rfl <| .step (v := .bool false) (h' := h) le9 <| .step (v := .bool false) (h' := h) rfl <| .step (v := .bool false) (h' := h) rfl <| .off rfl <| .off rfl <| .off rfl <| .off rfl <| .step (v := .bool false) (h' := h) rfl <| .step (v := .bool false) (h' := h) rfl <| .off rfl <| .off rfl <| .off rfl <| .step (v := .bool false) (h' := h) rfl <| .step (v := .bool false) (h' := h) rfl <| .nil, rfl, .refl h, W⟩
  | true =>
   rw [k2] at le9
   cases k3 : decide (s.name.length ≤ 255) with
   | false =>
    rw [k3] at le255
    exact ⟨_, h, .step (v := .ptr j 0) (h' := h) rfl <| .step (v := i64 s.kind) (h' := h) (aZ c rfl) <| .step (v := .bool true) (h' := h) ge <| .step (v := .bool true) (h' := h) rfl <| .on rfl <| .step (v := .ptr j 0) (h' := h) rfl <| .on rfl <| .step (v := i64 s.kind) (h' := h) (aZ c rfl) <| .on rfl <| .step (v := .bool true) (h' := h) le9 <| .step (v := .bool true) (h' := h) rfl <| .step (v := .bool true) (h' := h) rfl <| .on rfl <| .step (v := .ptr j 4) (h' := h) rfl <| .on rfl <| .step (v := bz s.name) (h' := h) (aq c 4 rfl) <| .on rfl <| .step (v := i64 s.name.length) (h' := h) (gi _) <| .on rfl <| .step (v := .bool false) (h' := h) le255 <| .step (v := .bool false) (h' := h) rfl <| .step (v := .bool false) (h' := h) rfl <| .off rfl <| .off rfl <| .off rfl <| .step (v := .bool false) (h' := h) rfl <| .step (v := .bool false) (h' := h) rfl <| .nil, rfl, .refl h, W⟩
   | true =>
    rw [k3] at le255
    exact ⟨_, h', .step (v := .ptr j 0) (h' := h) rfl <| .step (v := i64 s.kind) (h' := h) (aZ c rfl) <| .step (v := .bool true) (h' := h) ge <| .step (v := .bool true) (h' := h) rfl <| .on rfl <| .step (v := .ptr j 0) (h' := h) rfl <| .on rfl <| .step (v := i64 s.kind) (h' := h) (aZ c rfl) <| .on rfl <| .step (v := .bool true) (h' := h) le9 <| .step (v := .bool true) (h' := h) rfl <| .step (v := .bool true) (h' := h) rfl <| .on rfl <| .step (v := .ptr j 4) (h' := h) rfl <| .on rfl <| .step (v := bz s.name) (h' := h) (aq c 4 rfl) <| .on rfl <| .step (v := i64 s.name.length) (h' := h) (gi _) <| .on rfl <| .step (v := .bool true) (h' := h) le255 <| .step (v := .bool true) (h' := h) rfl <| .step (v := .bool true) (h' := h) rfl <| .on rfl <| .step (v := .ptr j 5) (h' := h) rfl <| .on rfl <| .step (v := .agg (cX x y s.entry)) (h' := h) (bD (m := 7) c5 rfl) <| .on rfl <| .call (v := .bool (takes s.entry)) (h' := h') tk <| .step (v := .bool (takes s.entry)) (h' := h') rfl <| .step (v := .bool (takes s.entry)) (h' := h') rfl <| .nil, rfl, tO, tW⟩
end
open Go.Cod
noncomputable section
variable {p : Pg} {h0 h h' h1 : Hp} {q j : P4} {s : Bs} {x y a b d e f : AV}
theorem Mu (TT : Fc p) (e11 : ar 11 p.fs = f11) (e14 : ar 14 p.fs = f14) (W : Wf h) {l : List AV} {s : lF} {B : Nat} (r : dy h l s) (bd : uw B s.entry) (hB : B < 9223372036854775807) :
  ∃ h', Cv p 11 [.agg l] h (.bool (eo s)) h' ∧ Old h h' ∧ Wf h' := by
 obtain ⟨x, y, rfl, r1, r2⟩ := r
 obtain ⟨j, h1, f1, f2, f3, f4, f5, f6⟩ := mj (el := 28) (l := fQ x y s) W (by simp [fQ, cX])
 obtain ⟨k, h2, n1, n2, n3, n4, _⟩ := oA (p := p) (j := j) e14 f5
 have c := Ob.c0 f3
 have c2 := c.old n3
 have s0 : ∀ c i' (K : A2 → Hp → RS), k11_0 c i' K (bt [.agg (fQ x y s)] 0 .nil) h = K (T12 (.ptr j 0)) h1 := fun c i' K => by
  simp only [k11_0, K1, cP]
  (rw [jU f1]; try rfl)
 have s1 : Ev fun m => ∀ K : A2 → Hp → RS, k11_1 (aw p (exec p m)) (aG p (exec p m)) K (T12 (.ptr j 0)) h1 = K (T13 (.ptr j 0) (.slice k 0 3 3) (i64 3) i0) h2 := n1.mono fun m g K => by
  simp only [k11_1, K1, t12_1]
  (rw [aF g, bL (gN (es := 1) (.inl ⟨3, rfl⟩))]; try rfl)
 have qq : ∃ ns : List Int, ns.length = 3 ∧ ns.all small = (small s.aA && small s.node && small s.n) ∧ ∀ i (hi : i < ns.length), Cs h2 k (0 + i * 1) [.ptr j (1 + i)] ∧ Cs h2 j (1 + i) [i64 ns[i]] := by
  refine ⟨[s.aA, s.node, s.n], rfl, by simp [Bool.and_assoc], fun i hi => ⟨?_, ?_⟩⟩
  ·have := n2.sub i [.ptr j (1 + i)] (by simp at hi ⊢; omega) (fun t ht => by
    have : t = 0 := by simpa using ht
    subst this
    match i, hi with
    | 0, _ => rfl
    | 1, _ => rfl
    | 2, _ => rfl)
   simpa using this
  ·have := c2.sub (1 + i) [i64 ([s.aA, s.node, s.n][i])] (by simp [fQ, cX] at hi ⊢; omega) (fun t ht => by
    have : t = 0 := by simpa using ht
    subst this
    match i, hi with
    | 0, _ => rfl
    | 1, _ => rfl
    | 2, _ => rfl)
   simpa using this
 obtain ⟨ns, hn, hall, hq⟩ := qq
 have key : ∃ st, (∃ h', h' = h2 ∧ ((st = .ex 0 (T12 (.ptr j 0)) h2 ∧ ns.all small = true) ∨ (st = .ret (T0 (.bool false)) h2 ∧ ns.all small = false))) ∧ Rn p (dp 3 (bh x11)) (T13 (.ptr j 0) (.slice k 0 3 3) (i64 3) i0) h2 st := by
  refine eU (body := dp 4 (bh x11)) 3 (Inv := fun i r h' => r = T13 (.ptr j 0) (.slice k 0 3 3) (i64 3) (i64 i) ∧ h' = h2 ∧ (ns.take i).all small = true) (fun i r h' hi I => ?_) (fun r h' I => ?_) 3 0 _ h2 (by omega) ⟨rfl, rfl, by simp⟩
  ·obtain ⟨rfl, rfl, I⟩ := I
   have hi' : i < ns.length := by omega
   obtain ⟨q1, q2⟩ := hq i hi'
   obtain ⟨r3, o1, o2, o3, o4, o5, o6⟩ := Mt (p := p) (a := .ptr j 0) (b := .slice k 0 3 3) (d := i64 3) (e := i64 i) q2
   have t1 : ∀ c i' (K : A2 → Hp → RS), k11_2 c i' K (T13 (.ptr j 0) (.slice k 0 3 3) (i64 3) (i64 i)) h' = K (T13 (.ptr j 0) (.slice k 0 3 3) (i64 3) (i64 i)) h' := fun c i' K => by
    simp only [k11_2, K4, t13_1, t13_5, t13_6, t13_7]
    (rw [bu, bJ, if_pos (by omega)]; try rfl)
   have t2 : ∀ c i' (K : A2 → Hp → RS), k11_3 c i' K (T13 (.ptr j 0) (.slice k 0 3 3) (i64 3) (i64 i)) h' = K (T14 (.ptr j 0) (.ptr j (1 + i)) (.slice k 0 3 3) (i64 3) (i64 i)) h' := fun c i' K => by
    simp only [k11_3, K4, t13_1, t13_5, t13_6, t13_7]
    (rw [fD (cG (es := 1) (.inl ⟨3, rfl⟩) hi), aM (aZ q1 rfl)]; try rfl)
   have t3 : ∀ c i' (K : A2 → Hp → RS), k11_4 c i' K r3 h' = Seat.I (.bool (!small (ns[i]))) (.ret (T0 (.bool false)) h') (.nm (T13 (.ptr j 0) (.slice k 0 3 3) (i64 3) (i64 i)) h') := fun c i' K => by
    simp only [k11_4, K5, o2, o3, o4, o5, o6]
   cases hs : small (ns[i]) with
   | true =>
    refine .inl ⟨_, h', .dP t1 (.seq (.block (.dP t2 (.seq (.ops o1) (.aV fun c i' K => by rw [t3, hs, Bool.not_true, fK])))) (.aV (s := .nm (T13 (.ptr j 0) (.slice k 0 3 3) (i64 3) (i64 (i + 1 : Nat))) h') fun c i' K => ?_)), rfl, rfl, by rw [iL hi', I, hs]; rfl⟩
    simp only [k11_5, K4, t13_1, t13_5, t13_6, t13_7]
    (rw [dT hi (by omega)]; try rfl)
   | false =>
    exact .inr ⟨_, ⟨h', rfl, .inr ⟨rfl, all_false hi' hs⟩⟩, .eJ (.dP t1 (.dt (.cT (.dP t2 (.seq (.ops o1) (.aV fun c i' K => by rw [t3, hs, Bool.not_false, fZ]))))))⟩
  ·obtain ⟨rfl, rfl, I⟩ := I
   refine ⟨_, ⟨h', rfl, .inl ⟨rfl, by rw [← hn, List.take_length] at I; exact I⟩⟩, .dU (.aV fun c i' K => ?_)⟩
   simp only [k11_2, K4, t13_1, t13_5, t13_6, t13_7]
   (rw [bu, bJ, if_neg (by omega)]; try rfl)
 have out : ∀ (bb : Bool) (r' : A2) (h' : Hp), y2 r' = .bool bb → Rn p (bh x11) (T12 (.ptr j 0)) h1 (.ret r' h') → Cv p 11 [.agg (fQ x y s)] h (.bool bb) h' := fun bb r' h' e k => .of (r' := r') (h1 := h') e11 (by simp) (.dP s0 k) (by
  show RV.ok (y2 r') h' = _
  rw [e])
 have hf : eo s = (ns.all small && (decide (1 ≤ s.kind) && decide (s.kind ≤ 9) && decide (s.name.length ≤ 255) && takes s.entry)) := by unfold eo; rw [hall]
 obtain ⟨st, ⟨_, _, ⟨rfl, ha⟩ | ⟨rfl, ha⟩⟩, kk⟩ := key
 ·obtain ⟨r3, h3, o1, o2, o3, o4⟩ := Jt (p := p) TT n4 c2 (aQ.up r1 (f4.trans n3)) (bE.up r2 (f4.trans n3)) bd hB
  refine ⟨h3, out _ r3 h3 (by rw [o2, hf, ha, Bool.true_and]) (.seq (.to s1 (.bN kk)) (.seq (.ops o1) .ret)), (f4.trans n3).trans o3, o4⟩
 ·refine ⟨h2, out _ _ h2 ?_ (.dt (.to s1 (.cT kk))), f4.trans n3, n4⟩
  rw [hf, ha]; rfl
end
open Go.Cod
noncomputable section
variable {p : Pg} {h0 h h' h1 : Hp} {q j : P4} {s : Bs} {x y a b d e f : AV}
structure Mv (p : Pg) : Prop where
 t : Dw p
 tt : Fc p
 e6 : ar 5 p.fs = f5
 e11 : ar 11 p.fs = f11
 e14 : ar 14 p.fs = f14
 e17 : ar 17 p.fs = f17
 e29 : ar 31 p.fs = f31
theorem Ju (T : Mv p) (W : Wf h) {ss : List lF} {B : Nat} (r : bX h x ss) (bd : ∀ s, s ∈ ss → uw B s.entry) (hB : B < 9223372036854775807) (hn : ss.length < 9223372036854775807) :
  ∃ st, (∃ h', (Old h h' ∧ Wf h') ∧ ((st = .ex 0 (T3 a x (i64 ss.length) (i64 ss.length)) h' ∧ ss.all eo = true) ∨ (st = .ret (T1 .ai i1) h' ∧ ss.all eo = false))) ∧ Rn p (.loop (.ah Jv .skip)) (T3 a x (i64 ss.length) i0) h st := by
 obtain ⟨q', o', sl, g⟩ := cY.sl r
 refine eU ss.length (Inv := fun i r h' => r = T3 a x (i64 ss.length) (i64 i) ∧ (Old h h' ∧ Wf h') ∧ (ss.take i).all eo = true) (fun i r h' hi I => ?_) (fun r h' I => ?_) ss.length 0 _ h (by omega) ⟨rfl, ⟨.refl h, W⟩, by simp⟩
 ·obtain ⟨rfl, ⟨O, W'⟩, I⟩ := I
  obtain ⟨l, l1, l2, l3⟩ := g i hi
  obtain ⟨j, h2, c1, c2, c3, c4, c5, _⟩ := vV (el := 28) W' sl hi (l2.old O) l1 (c0 := .k1 (Y12 i0 i0 i0 i0 iS i0 i0 i0 iS iS .ai .ai)) trivial (by decide)
  obtain ⟨h3, f1, f2, f3⟩ := Mu (p := p) T.tt T.e11 T.e14 c5 (l := l) (s := ss[i]) (dy.up l3 (O.trans c4)) (bd _ (by simp)) hB
  have m1 := bD (m := 12) (Ob.c0 c3) l1
  cases hs : eo ss[i] with
  | true =>
   rw [hs] at f1
   refine .inl ⟨_, h3, .ah (s := .nm (T3 a x (i64 ss.length) (i64 (i + 1 : Nat))) h3) (f1.mono fun m g => ?_), rfl, ⟨(O.trans c4).trans f2, f3⟩, by rw [iL hi, I, hs]; rfl⟩
   simp only [Jv, K4, t3_0, t3_15, t3_16, t3_17]
   (rw [bu, bJ, if_pos (by omega), c1, fO m1, aF g, eY, cq, Bool.not_true, fK, dT hi hn]; try rfl)
  | false =>
   rw [hs] at f1
   refine .inr ⟨_, ⟨h3, ⟨(O.trans c4).trans f2, f3⟩, .inr ⟨rfl, all_false hi hs⟩⟩, .eJ (.ah (f1.mono fun m g => ?_))⟩
   simp only [Jv, K4, t3_0, t3_15, t3_16, t3_17]
   (rw [bu, bJ, if_pos (by omega), c1, fO m1, aF g, eY, cq, Bool.not_false, fZ]; try rfl)
 ·obtain ⟨rfl, O, I⟩ := I
  refine ⟨_, ⟨h', O, .inl ⟨rfl, by simpa using I⟩⟩, .dU (.aV fun c i' K => ?_)⟩
  simp only [Jv, K4, t3_0, t3_15, t3_16, t3_17]
  (rw [bu, bJ, if_neg (by omega)]; try rfl)
theorem rB (s : lF) : (gO s).length = 1 + 8 + 8 + 8 + (2 + s.name.length) + (2 + (enc s.entry).length) := by unfold gO; simp only [List.length_append, aK, aL, bm]; omega
theorem Jw (T : Dw p) {k : P4} {ns : List Int} (w : Wr h0 h q s) (hn : ns.length = 3) (hq : ∀ i (hi : i < ns.length), Cs h0 k (0 + i * 1) [.ptr j (1 + i)] ∧ Cs h0 j (1 + i) [i64 ns[i]]) (hs : s.length + 24 ≤ 16777216) :
  ∃ h', Rn p (.loop (.ah Jx .skip)) (T8 (.ptr q 0) a b d e (.slice k 0 3 3) (i64 3) i0) h (.ex 4 (T8 (.ptr q 0) a b d e (.slice k 0 3 3) (i64 3) (i64 3)) h') ∧ Wr h0 h' q (s ++ ns.flatMap gF) := by
 obtain ⟨r', h', ⟨_, I⟩, kk⟩ := gW (p := p) (body := .ah Jx .skip) (r := T8 (.ptr q 0) a b d e (.slice k 0 3 3) (i64 3) i0) (h := h) 3
  (Inv := fun i r h => r = T8 (.ptr q 0) a b d e (.slice k 0 3 3) (i64 3) (i64 i) ∧ Wr h0 h q (s ++ (ns.take i).flatMap gF)) (l := 4) (Re := T8 (.ptr q 0) a b d e (.slice k 0 3 3) (i64 3) (i64 3)) (fun i r h hi I => by
   obtain ⟨rfl, w⟩ := I
   have hi' : i < ns.length := by omega
   obtain ⟨q1, q2⟩ := hq i hi'
   have hz : ((ns.take i).flatMap gF).length = 8 * i := by
    clear q1 q2 w
    induction i with
    | zero => simp
    | succ i ih => rw [dS (by omega), List.length_append, ih (by omega) (by omega), aK]; omega
   obtain ⟨h2, a1, w2⟩ := kV T w (n := ns[i]) (by rw [List.length_append, hz]; omega)
   refine ⟨T8 (.ptr q 0) a b d e (.slice k 0 3 3) (i64 3) (i64 (i + 1 : Nat)), h2, .ah (a1.mono fun m g => ?_), rfl, ?_⟩
   ·simp only [Jx, K8, t8_6, t8_8, t8_26, t8_27, t8_28, t8_36, t8_37, t8_38]
    (rw [bu, bJ, if_pos (by omega), fD (cG (es := 1) (.inl ⟨3, rfl⟩) hi), aM (aZ (q1.old w.old) rfl), dE, aM (aZ (q2.old w.old) rfl), aF g, dT hi (by omega)]; try rfl)
   ·rw [dS hi']
    simpa only [List.append_assoc] using w2) (fun r h I => by
   obtain ⟨rfl, w⟩ := I
   refine .aV fun c i K => ?_
   simp only [Jx, K8, t8_6, t8_8, t8_26, t8_27, t8_28, t8_36, t8_37, t8_38]
   (rw [bu, bJ, if_neg (by omega)]; try rfl)) ⟨rfl, by simpa using w⟩
 exact ⟨h', kk, by rw [← hn, List.take_length] at I; exact I⟩
theorem TC {k : P4} {s : lF} (n2 : Cs h0 k 0 [.ptr j 1, .ptr j 2, .ptr j 3]) (c2 : Cs h0 j 0 (fQ x y s)) : ∃ ns : List Int, ns.length = 3 ∧ ns.flatMap gF = gF s.aA ++ (gF s.node ++ gF s.n) ∧ ∀ i (hi : i < ns.length), Cs h0 k (0 + i * 1) [.ptr j (1 + i)] ∧ Cs h0 j (1 + i) [i64 ns[i]] := by
 refine ⟨[s.aA, s.node, s.n], rfl, by simp, fun i hi => ⟨?_, ?_⟩⟩
 ·have := n2.sub i [.ptr j (1 + i)] (by simp at hi ⊢; omega) (fun t ht => by
   have : t = 0 := by simpa using ht
   subst this
   match i, hi with
   | 0, _ => rfl
   | 1, _ => rfl
   | 2, _ => rfl)
  simpa using this
 ·have := c2.sub (1 + i) [i64 ([s.aA, s.node, s.n][i])] (by simp [fQ, cX] at hi ⊢; omega) (fun t ht => by
   have : t = 0 := by simpa using ht
   subst this
   match i, hi with
   | 0, _ => rfl
   | 1, _ => rfl
   | 2, _ => rfl)
  simpa using this
theorem Mw {s : lF} (c : Cs h j 0 (fQ x y s)) : Cs h j 5 (cX x y s.entry) := by
 have := c.sub 5 (cX x y s.entry) (by simp [fQ, cX]) (fun k hk => Ss _ _ _ _ _ _ k hk)
 simpa using this
theorem Mx (T : Mv p) {ss : List lF} {B i : Nat} {q' : P4} {o' : Nat} (w : Wr h0 h q s) (sl : zB x 12 ss.length q' o') (hi : i < ss.length) {l : List AV} (l1 : l.length = 12) (l2 : Cs h0 q' (o' + i * 12) l) (l3 : dy h0 l ss[i]) (bd : uw B ss[i].entry) (hB : B < 9223372036854775807) (hn : ss.length < 9223372036854775807)
  (hf : eo ss[i] = true) (he : (enc ss[i].entry).length ≤ 65535) (hs : s.length + (gO ss[i]).length ≤ 16777216) :
  ∃ h', Rn p (dp 4 (bh (bh (bh x5)))) (T5 (.ptr q 0) x (i64 ss.length) (i64 i)) h (.nm (T5 (.ptr q 0) x (i64 ss.length) (i64 (i + 1 : Nat))) h') ∧ Wr h0 h' q (s ++ gO ss[i]) := by
 obtain ⟨j, h1, h0a, c1, c2, c3, c4⟩ := w.copy (el := 28) sl hi l2 l1 (c0 := .k1 (Y12 i0 i0 i0 i0 iS i0 i0 i0 iS iS .ai .ai)) trivial (by decide)
 obtain ⟨xc, yc, rfl, r1, r2⟩ := l3
 have hl := rB ss[i]
 obtain ⟨h2, a1, w2⟩ := pI T.t c3 (n := ss[i].kind) (by omega)
 obtain ⟨k, h3, n1, n2, n3, n4, n5⟩ := oA (p := p) (j := j) T.e14 w2.wf
 obtain ⟨h0b, g1, w3, g3⟩ := w2.base n3 n4
 have cj := c4.old g1
 obtain ⟨ns, m1, m2, m3⟩ := TC (n2.eq (g3 k n5)) cj
 have O0 := c2.trans g1
 obtain ⟨h4, a2, w4⟩ := Jw (p := p) (a := .ptr j 0) (b := x) (d := i64 ss.length) (e := i64 i) T.t w3 m1 m3 (by rw [List.length_append, bm]; omega)
 rw [m2] at w4
 obtain ⟨h5, a3, w5⟩ := kW T.t w4 (t := ss[i].name) (by simp only [List.length_append, aK, bm]; omega)
 have ht : takes ss[i].entry = true := by
  unfold eo at hf
  simp only [Bool.and_eq_true] at hf
  exact hf.2.2
 have O5 := O0.trans w5.old
 obtain ⟨v, h6, a4, o4, O6, W6⟩ := wo (p := p) T.t T.tt T.e17 T.e29 w5.wf (l := cX xc yc ss[i].entry) (e := ss[i].entry) ⟨xc, yc, rfl, aQ.up r1 O5, bE.up r2 O5⟩ bd hB (by omega)
 rw [ht, if_pos rfl] at o4
 have rb := dA.Jb o4
 obtain ⟨h7, a5, w7⟩ := kW T.t (w5.up O6 W6) (t := enc ss[i].entry) (by simp only [List.length_append, aK, aL, bm]; omega)
 have s1 : ∀ c i' (K : A2 → Hp → RS), k5_5 c i' K (T5 (.ptr q 0) x (i64 ss.length) (i64 i)) h = K (T5 (.ptr q 0) x (i64 ss.length) (i64 i)) h := fun c i' K => by
  simp only [k5_5, K4, t5_6, t5_26, t5_27, t5_28]
  (rw [bu, bJ, if_pos (by omega)]; try rfl)
 have s2 : Ev fun m => ∀ K : A2 → Hp → RS, k5_6 (aw p (exec p m)) (aG p (exec p m)) K (T5 (.ptr q 0) x (i64 ss.length) (i64 i)) h = K (T7 (.ptr q 0) (.ptr j 0) x (i64 ss.length) (i64 i)) h2 := a1.mono fun m g K => by
  simp only [k5_6, K4, t5_6, t5_26, t5_27, t5_28]
  (rw [c1, aD, aM (aZ (c4.old c3.old) rfl), aF g]; try rfl)
 have s3 : Ev fun m => ∀ K : A2 → Hp → RS, k5_7 (aw p (exec p m)) (aG p (exec p m)) K (T7 (.ptr q 0) (.ptr j 0) x (i64 ss.length) (i64 i)) h2 = K (T8 (.ptr q 0) (.ptr j 0) x (i64 ss.length) (i64 i) (.slice k 0 3 3) (i64 3) i0) h3 := n1.mono fun m g K => by
  simp only [k5_7, K5, t7_6, t7_8, t7_26, t7_27, t7_28]
  (rw [aF g, bL (gN (es := 1) (.inl ⟨3, rfl⟩))]; try rfl)
 have M7 := bD (m := 7) (Mw (cj.old w5.old)) (by simp [cX])
 have s4 : Rn p (.ah k5_9 .skip) (T8 (.ptr q 0) (.ptr j 0) x (i64 ss.length) (i64 i) (.slice k 0 3 3) (i64 3) (i64 3)) h4 (.nm (T5 (.ptr q 0) x (i64 ss.length) (i64 i)) h7) := .ah ((a3.and (a4.and a5)).mono fun m g => by
  obtain ⟨g1, g2, g3⟩ := g
  simp only [k5_9, K5, t8_6, t8_8, t8_26, t8_27, t8_28]
  (rw [aD, aM (aq (cj.old w4.old) 4 rfl), aF g1, aD, fO M7, aF g2, bL (lG.len rb), fP, cq, bJ, if_neg (by show ¬ (65535 : Int) < _; omega), aE (xJ rb), aF g3]; try rfl))
 have s5 : ∀ c i' (K : A2 → Hp → RS), k5_10 c i' K (T5 (.ptr q 0) x (i64 ss.length) (i64 i)) h7 = .nm (T5 (.ptr q 0) x (i64 ss.length) (i64 (i + 1 : Nat))) h7 := fun c i' K => by
  simp only [k5_10, K4, t5_6, t5_26, t5_27, t5_28]
  (rw [dT hi hn]; try rfl)
 refine ⟨h7, .dP s1 (.seq (.block (.to s2 (.seq (.to s3 (.bN a2)) s4))) (.aV s5)), ?_⟩
 have w8 := w7.Ta O0
 rw [gO]
 simpa only [List.append_assoc] using w8
end
open Go.Cod
noncomputable section
variable {p : Pg} {h0 h h' h1 : Hp} {q j : P4} {s : Bs} {x y a b d e f : AV}
theorem Fg (T : Mv p) (W : Wf h) {ss : List lF} {B : Nat} (r : bX h x ss) (bd : ∀ s, s ∈ ss → uw B s.entry) (hB : B < 9223372036854775807) (hn : ss.length ≤ 2048) (he : ∀ s, s ∈ ss → (enc s.entry).length ≤ 65535) (hs : ss.all eo = true → (ss.flatMap gO).length ≤ 16777216) :
  ∃ v n h', Cv p 5 [x] h (.jx [v, i64 n]) h' ∧ Old h h' ∧ Wf h' ∧ ((ss.all eo = true ∧ n = 0 ∧ dA h' v 5 1 (bc (ss.flatMap gO)) fun _ => True) ∨ (ss.all eo = false ∧ n = 1 ∧ v = .ai)) := by
 have s0 : ∀ c i' (K : A2 → Hp → RS), k5_0 c i' K (bt [x] 0 .nil) h = K (T2 x) h := fun c i' K => by
  simp only [k5_0, K1, cP]
  (rw [bL (cY.len r), fP, cq, bJ, if_neg (by show ¬ (2048 : Int) < _; omega)]; try rfl)
 have s1 : ∀ c i' (K : A2 → Hp → RS), k5_1 c i' K (T2 x) h = K (T3 x x (i64 ss.length) i0) h := fun c i' K => by
  simp only [k5_1, K1, zx]
  (rw [bL (cY.len r)]; try rfl)
 obtain ⟨st, ⟨h1, ⟨O1, W1⟩, ⟨rfl, ha⟩ | ⟨rfl, ha⟩⟩, kk⟩ := Ju (p := p) (a := x) T W r bd hB (by omega)
 ·have hs := hs ha
  obtain ⟨q, h2, a0, w2, O2⟩ := we T.t W1
  have r2 := bX.up r O1
  obtain ⟨q', o', sl, g⟩ := cY.sl r2
  obtain ⟨r', h3, ⟨_, w3⟩, k3⟩ := gW (p := p) (body := dp 4 (bh (bh (bh x5)))) (r := T5 (.ptr q 0) x (i64 ss.length) i0) (h := h2) ss.length
   (Inv := fun i r h => r = T5 (.ptr q 0) x (i64 ss.length) (i64 i) ∧ Wr h1 h q ((ss.take i).flatMap gO)) (l := 2) (Re := T6 (.ptr q 0)) (fun i r h hi I => by
    obtain ⟨rfl, w⟩ := I
    obtain ⟨l, l1, l2, l3⟩ := g i hi
    have hz : ((ss.take i).flatMap gO).length + (gO ss[i]).length ≤ 16777216 := by
     have := gY (g := gO) ss (i + 1)
     rw [dS hi, List.length_append] at this
     omega
    obtain ⟨h', k, w'⟩ := Mx (p := p) T w sl hi l1 l2 l3 (bd _ (by simp)) hB (by omega) (by rw [List.all_eq_true] at ha; exact ha _ (by simp)) (he _ (by simp)) hz
    exact ⟨_, h', k, rfl, by rw [dS hi]; exact w'⟩) (fun r h I => by
    obtain ⟨rfl, w⟩ := I
    refine .aV fun c i K => ?_
    simp only [k5_5, K4, t5_6, t5_26, t5_27, t5_28]
    (rw [bu, bJ, if_neg (by omega)]; try rfl)) ⟨rfl, by simpa using w2⟩
  rw [List.take_length] at w3
  obtain ⟨v, h4, a4, o4, O4, W4⟩ := Dx T.t T.e29 w3 hs
  have s2 : Ev fun m => ∀ K : A2 → Hp → RS, k5_3 (aw p (exec p m)) (aG p (exec p m)) K (T3 x x (i64 ss.length) (i64 ss.length)) h1 = K (T4 x (.ptr q 0)) h2 := a0.mono fun m g K => by
   simp only [k5_3, K1, t3_0]
   (rw [aF g]; try rfl)
  have s3 : ∀ c i' (K : A2 → Hp → RS), k5_4 c i' K (T4 x (.ptr q 0)) h2 = K (T5 (.ptr q 0) x (i64 ss.length) i0) h2 := fun c i' K => by
   simp only [k5_4, K2, t4_0, t4_6]
   (rw [bL (cY.len (bX.up r2 w2.old))]; try rfl)
  have s4 : Rn p (.ah k5_11 .skip) (T6 (.ptr q 0)) h3 (.ret (T1 v i0) h4) := .ah (a4.mono fun m g => by
   simp only [k5_11, K1, t6_6]
   (rw [aF g]; try rfl))
  exact ⟨v, 0, h4, .of (r' := T1 v i0) (h1 := h4) T.e6 (by simp) (.dP s0 (.seq (.dP s1 (.bN kk)) (.to s2 (.seq (.dP s3 (.bN k3)) s4)))) rfl, O1.trans O4, W4, .inl ⟨ha, rfl, dA.mono o4 fun _ _ => True.intro⟩⟩
 ·exact ⟨.ai, 1, h1, .of (r' := T1 .ai i1) (h1 := h1) T.e6 (by simp) (.dP s0 (.dt (.dP s1 (.cT kk)))) rfl, O1, W1, .inr ⟨ha, rfl, rfl⟩⟩
end
open Go.Cod
noncomputable section
variable {p : Pg} {h0 h h' h1 : Hp} {q j : P4} {s : Bs} {x y a b d e f : AV}
structure Bb (h0 h : Hp) (x : AV) (s : Bs) : Prop where
 old : Old h0 h
 wf : Wf h
 own : dA h x 5 1 (bc s) fun j => ag j h0 = .none
theorem Bb.rd (w : Bb h0 h x s) : lG h x s := dA.Jb w.own
theorem Bb.app (w : Bb h0 h x s) (t : Bs) {m : Nat} (hm : t.length = m) (hl : s.length + t.length ≤ 16777216) : ∃ v h2, lB 5 1 m (bc t) x h = .ok v h2 ∧ Bb h0 h2 v (s ++ t) := by
 subst hm
 obtain ⟨v, h2, c1, c2, c3, c4⟩ := iG (m := t.length) (es := 1) w.wf w.own (by omega) (new := bc t) (by rw [cA]; omega) (by simp only [cA]; exact hl)
 refine ⟨v, h2, c1, fun k hk => ?_, c3, ?_⟩
 ·have := w.old k hk
  rw [c4 k (by rw [this]; exact hk) (fun g => hk g), this]
 ·rw [IX]
  refine dA.mono c2 fun k hk => ?_
  rcases hk with hk | hk
  ·exact hk
  ·exact w.old.none hk
theorem Bb.up (w : Bb h0 h x s) (O : Old h h') (W : Wf h') : Bb h0 h' x s := ⟨w.old.trans O, W, w.own.old fun j _ hj => O j hj⟩
theorem Bb.IY (w : Bb h0 h x s) (t : Bs) {m : Nat} (hm : t.length = m) {z : List AV} {ps : List Part} (hf : fits ps .nil = true) (hz : fill ps .nil z = bc t) (hl : s.length + t.length ≤ 16777216) :
  ∃ l h1 v h2, Seat.bs 5 1 m z ps h = .ok l h1 ∧ eF 5 1 x l h1 = .ok v h2 ∧ Bb h0 h2 v (s ++ t) := by
 obtain ⟨j, h1, f1, f2, f3, f4, f5, f6⟩ := gE (el := 5) (es := 1) (n := m) w.wf hf hz (by simp [cA]; omega)
 obtain ⟨v, h2, g1, g2⟩ := (Bb.up w f4 f5).app t hm hl
 refine ⟨_, h1, v, h2, f1, ?_, g2⟩
 rw [eT (m := m) (q := j) (o := 0) (l := bc t) (.inl ⟨_, rfl⟩) (by omega) (fun _ => Ob.c0 f3) (by simp [cA, hm]) (by omega)]
 exact g1
end
open Go.Cod
noncomputable section
variable {p : Pg} {h0 h h' h1 : Hp} {q j : P4} {s : Bs} {x y a b d e f : AV}
structure TD (p : Pg) : Prop where
end
open Go.Cod
noncomputable section
variable {p : Pg} {h0 h h' h1 : Hp} {q j : P4} {s : Bs} {x y a b d e f : AV}
structure TE (p : Pg) : Prop where
 s : Mv p
 r : TD p
end
open Go.Cod
noncomputable section
variable {p : Pg} {h0 h h' h1 : Hp} {q j : P4} {s : Bs} {x y a b d e f : AV}
end
open Go.Cod
noncomputable section
variable {p : Pg} {h0 h h' h1 : Hp} {q j : P4} {s : Bs} {x y a b d e f : AV}
theorem DB (s : Bs) (n : Nat) (hn : n ≤ s.length) : fw (.c (bz s)) .none (.some (.c (pi n))) .nil h = .ok (bz (s.take n)) h := by
 rw [bz, LY _ _ (by simpa using hn), ← List.map_take]
theorem xN {A C : List AV} {a b c v : AV} : (A ++ ([a, b, c] ++ C)).set (A.length + 2) v = A ++ ([a, b, v] ++ C) ∧ (A ++ ([a, b, c] ++ C)).set A.length v = A ++ ([v, b, c] ++ C) := by
 constructor
 ·rw [List.set_append_right _ _ (by omega)]; simp
 ·rw [List.set_append_right _ _ (by omega)]; simp
theorem Ob.KE {el : Nat} {ex : Bool} {fl : Fl} {A C : List AV} {m : List AV} (o : Ob h q el ex fl (A ++ (m ++ C))) : Cs h q A.length m :=
 o.cs (fun j hj => ⟨by simp; omega, by rw [List.getElem_append_right (by omega), List.getElem_append_left (by omega)]; simp⟩) (by simp)
theorem My (e24 : ar 26 p.fs = f26) {A C : List AV} {v : mr} {n i : Nat} (W : Wf h) (o : Ob h q 83 false .plain (A ++ (iW v ++ C))) (hA : A.length = i * 3) (hi : i < n) :
  ∃ h', (∀ X s', Rn p X (T26 a b d e f (.eR q 0 n 3) (i64 i)) h' s' → Rn p (.ah wq X) (T26 a b d e f (.eR q 0 n 3) (i64 i)) h s') ∧ Ob h' q 83 false .plain (A ++ (iW (uY v) ++ C)) ∧ (∀ j, j ≠ q → ag j h' = ag j h) ∧ Wf h' := by
 have sl : zB (.eR q 0 n 3) 3 n q 0 := .inr (.inl rfl)
 have hp : 0 + i * 3 = A.length := by omega
 have gt : dj (i64 v.s.length) (pi 41) h = .ok (.bool (decide ((41 : Int) < v.s.length))) h := fP _ _ _
 by_cases hc : 41 < v.s.length
 ·obtain ⟨h2, a1, a2, a3, a4⟩ := dY (k := A.length + 2) (v := bz (v.s.take 41)) o (by simp [iW]) rfl
  have a2 : Ob h2 q 83 false .plain (A ++ ([i64 v.kind, i64 v.n, bz (v.s.take 41)] ++ C)) := by
   have e := (xN (A := A) (C := C) (a := i64 v.kind) (b := i64 v.n) (c := bz v.s) (v := bz (v.s.take 41))).1
   rw [show A ++ (iW v ++ C) = A ++ ([i64 v.kind, i64 v.n, bz v.s] ++ C) from rfl, e] at a2; exact a2
  have nr := xK (p := p) (h := h2) e24 v.kind
  obtain ⟨h3, b1, b2, b3, b4⟩ := dY (k := A.length) (v := i64 (gX v.kind)) a2 (by simp) rfl
  have b2 : Ob h3 q 83 false .plain (A ++ ([i64 (gX v.kind), i64 v.n, bz (v.s.take 41)] ++ C)) := by
   rw [(xN (A := A) (C := C) (a := i64 v.kind) (b := i64 v.n) (c := bz (v.s.take 41)) (v := i64 (gX v.kind))).2] at b2; exact b2
  refine ⟨h3, fun X s' e => .to (nr.mono fun m g K => ?_) e, b2, fun j hj => by rw [b3 j hj, a3 j hj], ?_⟩
  ·simp only [wq, K7, vN, vO, vP, vQ, vR, vS, vT]
   (rw [fD (cG sl hi), hp, aD, aM (aq (Ob.KE o) 2 rfl), gi, cq, aE gt, bJ, if_pos (by omega), fD (cG sl hi), hp, aD, aM (aq (Ob.KE o) 2 rfl), aE (DB _ _ (by omega)), fD (cG sl hi), hp, aD, dN a1, fD (cG sl hi), hp, aD, Nat.add_zero, aM (aZ (Ob.KE a2) rfl), aF g, fD (cG sl hi), hp, aD, Nat.add_zero, dN b1]; try rfl)
  ·refine W.of (by rw [b4, a4]) fun j hj => ?_
   have hq : j ≠ q := fun g => o.ne (g ▸ hj)
   rw [b3 j hq, a3 j hq, hj]
 ·have nr := xK (p := p) (h := h) e24 v.kind
  obtain ⟨h3, b1, b2, b3, b4⟩ := dY (k := A.length) (v := i64 (gX v.kind)) o (by simp [iW]) rfl
  have b2 : Ob h3 q 83 false .plain (A ++ ([i64 (gX v.kind), i64 v.n, bz v.s] ++ C)) := by
   have e := (xN (A := A) (C := C) (a := i64 v.kind) (b := i64 v.n) (c := bz v.s) (v := i64 (gX v.kind))).2
   rw [show A ++ (iW v ++ C) = A ++ ([i64 v.kind, i64 v.n, bz v.s] ++ C) from rfl, e] at b2; exact b2
  refine ⟨h3, fun X s' e => .to (nr.mono fun m g K => ?_) e, ?_, b3, ?_⟩
  ·simp only [wq, K7, vN, vO, vP, vQ, vR, vS, vT]
   (rw [fD (cG sl hi), hp, aD, aM (aq (Ob.KE o) 2 rfl), gi, cq, aE gt, bJ, if_neg (by omega), fD (cG sl hi), hp, aD, Nat.add_zero, aM (aZ (Ob.KE o) rfl), aF g, fD (cG sl hi), hp, aD, Nat.add_zero, dN b1]; try rfl)
  ·have : iW (uY v) = [i64 (gX v.kind), i64 v.n, bz v.s] := by
    unfold iW uY
    rw [List.take_of_length_le (by omega)]
   rw [this]; exact b2
  ·refine W.of b4 fun j hj => ?_
   have hq : j ≠ q := fun g => o.ne (g ▸ hj)
   rw [b3 j hq, hj]
end
open Go.Cod
noncomputable section
variable {p : Pg} {h0 h h' h1 : Hp} {q j : P4} {s : Bs} {x y a b d e f g : AV}
theorem Ot {α β : Type} {g : α → List β} {l : List α} {i : Nat} (hi : i < l.length) : (l.take (i + 1)).flatMap g = (l.take i).flatMap g ++ g l[i] := by
 rw [List.take_succ_eq_append_getElem hi, List.flatMap_append]; simp
theorem Ou {α β : Type} {g : α → List β} {l : List α} {i : Nat} (hi : i < l.length) : (l.drop i).flatMap g = g l[i] ++ (l.drop (i + 1)).flatMap g := by
 rw [List.drop_eq_getElem_cons hi, List.flatMap_cons]
theorem gp : ∀ l : List mr, (l.flatMap iW).length = l.length * 3
 | [] => rfl
 | v :: l => by simp [iW, gp l]; omega
def nt (h : Hp) (g : AV) (row : List mr) (B : P4 → Prop) : Prop := (row = [] ∧ (g = .ai ∨ ∃ q, g = .slice q 0 0 0)) ∨ ∃ q rest, g = .eR q 0 row.length 3 ∧ Ob h q 83 false .plain (row.flatMap iW ++ rest) ∧ B q
theorem nt.rd {B : P4 → Prop} {row : List mr} (w : nt h g row B) (O : ∀ q, B q → ag q h ≠ .none → ag q h' = ag q h) : dQ h' g row := by
 rcases w with ⟨rfl, rfl | ⟨q, rfl⟩⟩ | ⟨q, rest, rfl, o, hb⟩
 ·exact ⟨.eI 0 0, 0, .inr (.inr ⟨rfl, rfl⟩), fun i hi => absurd hi (by simp)⟩
 ·exact ⟨q, 0, .inl ⟨0, by simp, rfl⟩, fun i hi => absurd hi (by simp)⟩
 ·have o := o.eq (O q hb o.ne)
  refine ⟨q, 0, .inr (.inl rfl), fun i hi => ⟨_, rfl, ?_, rfl⟩⟩
  have e : row.flatMap iW ++ rest = (row.take i).flatMap iW ++ (iW row[i] ++ ((row.drop (i + 1)).flatMap iW ++ rest)) := by
   conv => lhs; rw [← List.take_append_drop i row]
   rw [List.flatMap_append, Ou hi]
   simp only [List.append_assoc]
  rw [e] at o
  have := Ob.KE o
  rw [gp, List.length_take, Nat.min_eq_left (by omega)] at this
  rw [Nat.zero_add]; exact this
theorem nt.len {B : P4 → Prop} {row : List mr} (w : nt h g row B) : Am.len g h = .ok (.int .i64 (row.length : Int)) h := by
 rcases w with ⟨rfl, rfl | ⟨q, rfl⟩⟩ | ⟨q, rest, rfl, o, hb⟩ <;> rfl
theorem Jy (e24 : ar 26 p.fs = f26) {B : P4 → Prop} {row : List mr} (W : Wf h) (w : nt h g row B) (hn : row.length < 9223372036854775807) :
  ∃ h', Rn p (.loop (.ah wt (.ah wq (.ah k27_8 .skip)))) (T26 a b d e f g i0) h (.ex 2 (T25 a b d e f g) h') ∧ nt h' g (row.map uY) B ∧ (∀ j, ¬ B j → ag j h' = ag j h) ∧ (∀ j, ag j h ≠ .none → ag j h' ≠ .none) ∧ Wf h' := by
 rcases w with ⟨rfl, hg⟩ | ⟨q, rest, rfl, o, hb⟩
 ·refine ⟨h, .dU (.aV fun c i' K => ?_), .inl ⟨rfl, hg⟩, fun _ _ => rfl, fun _ hj => hj, W⟩
  have hl : Am.len g h = .ok (.int .i64 0) h := by rcases hg with rfl | ⟨q, rfl⟩ <;> rfl
  simp only [wt, K7, vN, vO, vP, vQ, vR, vS, vT]
  (rw [bL hl, bu, bJ, if_neg (by decide)]; try rfl)
 ·obtain ⟨r', h', ⟨_, I1, I2, I3, I4⟩, k⟩ := gW (p := p) (body := .ah wt (.ah wq (.ah k27_8 .skip))) (r := T26 a b d e f (.eR q 0 row.length 3) i0) (h := h) row.length
   (Inv := fun i r h' => r = T26 a b d e f (.eR q 0 row.length 3) (i64 i) ∧ Ob h' q 83 false .plain (((row.take i).map uY).flatMap iW ++ ((row.drop i).flatMap iW ++ rest)) ∧ (∀ j, j ≠ q → ag j h' = ag j h) ∧ Wf h' ∧ True) (l := 2) (Re := T25 a b d e f (.eR q 0 row.length 3)) (fun i r h' hi I => by
    obtain ⟨rfl, o, O, W, _⟩ := I
    rw [Ou hi, List.append_assoc] at o
    obtain ⟨h2, k, o2, O2, W2⟩ := My (p := p) (a := a) (b := b) (d := d) (e := e) (f := f) (n := row.length) e24 W o (by rw [gp, List.length_map, List.length_take, Nat.min_eq_left (by omega)]) hi
    refine ⟨T26 a b d e f (.eR q 0 row.length 3) (i64 (i + 1 : Nat)), h2, .dP (r' := T26 a b d e f (.eR q 0 row.length 3) (i64 i)) (h' := h') (fun c i' K => ?_) (k _ _ (.aV fun c i' K => ?_)), rfl, ?_, fun j hj => by rw [O2 j hj, O j hj], W2, trivial⟩
    ·simp only [wt, K7, vN, vO, vP, vQ, vR, vS, vT]
     (rw [bL (gN (es := 3) (.inr (.inl rfl))), bu, bJ, if_pos (by omega)]; try rfl)
    ·simp only [k27_8, K7, vN, vO, vP, vQ, vR, vS, vT]
     (rw [dT hi hn]; try rfl)
    ·rw [List.take_succ_eq_append_getElem hi, List.map_append, List.flatMap_append]
     simpa only [List.map_cons, List.map_nil, List.flatMap_cons, List.flatMap_nil, List.append_nil, List.append_assoc] using o2) (fun r h' I => by
    obtain ⟨rfl, o, O, W, _⟩ := I
    refine .aV fun c i K => ?_
    simp only [wt, K7, vN, vO, vP, vQ, vR, vS, vT]
    (rw [bL (gN (es := 3) (.inr (.inl rfl))), bu, bJ, if_neg (by omega)]; try rfl)) ⟨rfl, by simpa using o, fun _ _ => rfl, W, trivial⟩
  have I1' : Ob h' q 83 false .plain ((row.map uY).flatMap iW ++ rest) := by simpa using I1
  refine ⟨h', k, .inr ⟨q, rest, by rw [List.length_map], I1', hb⟩, fun j hj => I2 j (fun g => hj (g ▸ hb)), fun j hj => ?_, I3⟩
  by_cases g : j = q
  ·rw [g]; exact I1'.ne
  ·rw [I2 j g]; exact hj
end
open Go.Cod
noncomputable section
variable {p : Pg} {h hb h' h2 : Hp} {q j : P4} {x y v : AV} {α : Type} {f : Hp → List AV → α → Prop} {xs : List α} {el es : Nat}
structure Lb (h hb h' : Hp) (v : AV) (el es : Nat) (f : Hp → List AV → α → Prop) (xs : List α) : Prop where
 old : Old h h'
 wf : Wf h'
 own : ∃ hr L, Old hb hr ∧ Old hr h' ∧ (∀ j, ag j hr ≠ .none → ag j hb ≠ .none ∨ ag j h = .none) ∧ dA h' v el es (List.flatten L) (fun j => ag j hr = .none ∧ ag j h = .none) ∧ L.length = xs.length ∧ ∀ i (hi : i < L.length) (hx : i < xs.length), L[i].length = es ∧ f hr L[i] xs[i]
theorem Lb.nil (W : Wf h) (O : Old hb h) (hv : v = .ai ∨ ∃ q, v = .slice q 0 0 0) : Lb h hb h v el es f [] :=
 ⟨.refl h, W, hb, [], .refl hb, O, fun _ hj => .inl hj, .inl ⟨rfl, hv⟩, rfl, fun i hi => absurd hi (by simp)⟩
theorem fH {es : Nat} : ∀ {L : List (List AV)}, (∀ i (hi : i < L.length), L[i].length = es) → L.flatten.length = L.length * es
 | [], _ => by simp
 | a :: L, g => by
  have h0 := g 0 (by simp)
  have := fH (L := L) fun i hi => g (i + 1) (by simp; omega)
  simp only [List.flatten_cons, List.length_append, List.length_cons, this, Nat.add_mul]
  simp at h0
  omega
theorem Lb.app (w : Lb h hb h' v el es f xs) (mono : ∀ h1 h2 l a, Old h1 h2 → f h1 l a → f h2 l a) (hes : 0 < es) (O : Old h' h2) (W : Wf h2) {l : List AV} {a : α} (hl : l.length = es)
  (hf : ∀ hr, Old hb hr → (∀ j, ag j h' = .none → ag j hr = ag j h2) → f hr l a) (hs : (xs.length + 1) * es ≤ 16777216) :
  ∃ v' h3, lB el es 1 l v h2 = .ok v' h3 ∧ Lb h hb h3 v' el es f (xs ++ [a]) ∧ ∀ j, ag j h' = .none → ag j h2 ≠ .none → ag j h3 = ag j h2 := by
 classical
 obtain ⟨w1, w2, hr, L, r1, r2, r3, r4, r5, r6⟩ := w
 obtain ⟨hr', g⟩ := Dq fun j => if ag j h' = .none then ag j h2 else ag j hr
 have g1 : ∀ j, ag j h' = .none → ag j hr' = ag j h2 := fun j hj => by rw [g, if_pos hj]
 have g2 : ∀ j, ag j h' ≠ .none → ag j hr' = ag j hr := fun j hj => by rw [g, if_neg hj]
 have O1 : Old hr hr' := fun j hj => g2 j (by rw [r2 j hj]; exact hj)
 have O2 : Old hr' h2 := fun j hj => by
  by_cases hn : ag j h' = .none
  ·rw [g1 j hn]
  ·rw [g2 j hn] at hj ⊢
   rw [O j hn, r2 j hj]
 have ow : dA h2 v el es L.flatten (fun j => ag j hr' = .none ∧ ag j h = .none) := by
  rcases r4 with r4 | ⟨q, n, e1, e2, e3, e4⟩
  ·exact .inl r4
  ·exact .inr ⟨q, n, e1, e2, e3.old O, by rw [g2 q e3.ne]; exact e4.1, e4.2⟩
 have hL := fH (es := es) (L := L) fun i hi => (r6 i hi (by omega)).1
 have hs' : xs.length * es + es ≤ 16777216 := by rw [Nat.add_mul] at hs; omega
 obtain ⟨v', h3, c1, c2, c3, c4⟩ := iG (m := 1) W ow hes (new := l) (by omega) (by rw [hL, r5]; omega)
 have O3 : Old hr' h3 := fun j hj => by
  have e := O2 j hj
  rw [c4 j (by rw [e]; exact hj) (fun g => hj g.1), e]
 refine ⟨v', h3, c1, ⟨?_, c3, hr', L ++ [l], r1.trans O1, O3, ?_, ?_, by simp [r5], ?_⟩, fun j hj hj2 => by rw [O3 j (by rw [g1 j hj]; exact hj2), g1 j hj]⟩
 ·intro j hj
  have e := (w1.trans O) j hj
  rw [c4 j (by rw [e]; exact hj) (fun g => hj g.2), e]
 ·intro j hj
  by_cases hn : ag j h' = .none
  ·exact .inr (w1.none hn)
  ·rw [g2 j hn] at hj
   exact r3 j hj
 ·simp only [List.flatten_append, List.flatten_cons, List.flatten_nil, List.append_nil]
  refine dA.mono c2 fun j hj => ?_
  rcases hj with hj | hj
  ·exact hj
  ·exact ⟨O2.none hj, (w1.trans O).none hj⟩
 ·intro i hi hx
  by_cases hi' : i < L.length
  ·have := r6 i hi' (by omega)
   rw [List.getElem_append_left hi', List.getElem_append_left (by omega)]
   exact ⟨this.1, mono _ _ _ _ O1 this.2⟩
  ·have : i = L.length := by simp at hi; omega
   subst this
   have a1 : (L ++ [l])[L.length]'hi = l := by simp
   have a2 : (xs ++ [a])[L.length]'hx = a := by
    have := List.getElem_append_right (as := xs) (bs := [a]) (i := L.length) (by omega) (h₂ := hx)
    rw [this]; simp
   rw [a1, a2]
   exact ⟨hl, hf hr' (r1.trans O1) g1⟩
theorem Lb.rd (w : Lb h hb h' v el es f xs) (mono : ∀ h1 h2 l a, Old h1 h2 → f h1 l a → f h2 l a) (hes : 0 < es) : ∃ hr, Old hb hr ∧ Old hr h' ∧ (∀ j, ag j hr ≠ .none → ag j hb ≠ .none ∨ ag j h = .none) ∧ cY hr es (f hr) v xs := by
 classical
 obtain ⟨w1, w2, hr, L, r1, r2, r3, r4, r5, r6⟩ := w
 rcases r4 with ⟨e, hv⟩ | ⟨q, n, rfl, e2, e3, e4⟩
 ·refine ⟨hr, r1, r2, r3, ?_⟩
  have hL := fH (es := es) (L := L) fun i hi => (r6 i hi (by omega)).1
  have : xs = [] := by
   rw [e, List.length_nil] at hL
   have : L.length = 0 := (Nat.mul_eq_zero.1 hL.symm).resolve_right (by omega)
   exact List.length_eq_zero_iff.1 (by omega)
  subst this
  rcases hv with rfl | ⟨q, rfl⟩
  ·exact ⟨.eI 0 0, 0, .inr (.inr ⟨rfl, rfl⟩), fun i hi => absurd hi (by simp)⟩
  ·exact ⟨q, 0, .inl ⟨0, by simp, rfl⟩, fun i hi => absurd hi (by simp)⟩
 ·obtain ⟨hr', g⟩ := Dq fun j => if j = q then ag j h' else ag j hr
  have gq : ag q hr' = ag q h' := by rw [g, if_pos rfl]
  have g2 : ∀ j, j ≠ q → ag j hr' = ag j hr := fun j hj => by rw [g, if_neg hj]
  have O1 : Old hr hr' := fun j hj => g2 j (fun e => hj (e ▸ e4.1))
  have O2 : Old hr' h' := fun j hj => by
   by_cases e : j = q
   ·rw [e, gq]
   ·rw [g2 j e] at hj ⊢
    exact r2 j hj
  have hL := fH (es := es) (L := L) fun i hi => (r6 i hi (by omega)).1
  have hn : n = xs.length := by
   rw [hL, r5] at e2
   exact (Nat.eq_of_mul_eq_mul_right hes e2).symm
  subst hn
  refine ⟨hr', r1.trans O1, O2, fun j hj => ?_, q, 0, .inr (.inl rfl), fun i hi => ?_⟩
  ·by_cases e : j = q
   ·rw [e]; exact .inr e4.2
   ·rw [g2 j e] at hj; exact r3 j hj
  ·have hi' : i < L.length := by omega
   obtain ⟨k1, k2⟩ := r6 i hi' hi
   refine ⟨L[i], k1, ?_, mono _ _ _ _ O1 k2⟩
   have e : L.flatten = (L.take i).flatten ++ (L[i] ++ (L.drop (i + 1)).flatten) := by
    conv => lhs; rw [← List.take_append_drop i L]
    rw [List.flatten_append, List.drop_eq_getElem_cons hi', List.flatten_cons]
   rw [e] at e3
   have := Ob.KE (e3.eq (h' := hr') gq)
   rw [fH (es := es) (fun k hk => by rw [List.getElem_take]; exact (r6 k (by simp at hk; omega) (by simp at hk; omega)).1), List.length_take, Nat.min_eq_left (by omega)] at this
   rw [Nat.zero_add]; exact this
end
end Go.Am.Seat
