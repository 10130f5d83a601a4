/- The walk: what each function of the program does at arguments that are not known; and what the law comes to. Conditions: the table of functions holds these functions. -/
import Derived.Test.YtkagkfknfennmaaGreatDoorH
import Derived.Test.YtkagkfknfennmaaGreatDoorG
import Derived.Test.YtkagkfknfennmaaGreatDoorFast0
set_option linter.all false
namespace Go.Am.Seat
section
variable {a b d e f g j k l m n o p q s t v w : AV}
theorem t0_0 : y0 (T0 a b d) = a := rfl
theorem t0_3 : y3 (T0 a b d) = b := rfl
theorem t0_4 : y4 (T0 a b d) = d := rfl
theorem Dn : y0 (T1 a b d e) = a := rfl
theorem Dp : y3 (T1 a b d e) = b := rfl
theorem Dq : y4 (T1 a b d e) = d := rfl
theorem Dr : y5 (T1 a b d e) = e := rfl
theorem Dh : y3 (T2 a b) = a := rfl
theorem t2_4 : y4 (T2 a b) = b := rfl
theorem t3_3 : y3 (T3 a b d e) = a := rfl
theorem t3_4 : y4 (T3 a b d e) = b := rfl
theorem t3_7 : y7 (T3 a b d e) = d := rfl
theorem t3_8 : y8 (T3 a b d e) = e := rfl
theorem t6_1 : y1 (T6 a b) = a := rfl
theorem t6_3 : y3 (T6 a b) = b := rfl
theorem t7_3 : y3 (T7 a) = a := rfl
theorem Dj : y3 (T8 a b) = a := rfl
theorem Dk : y5 (T8 a b) = b := rfl
theorem t10_3 : y3 (T10 a b d) = a := rfl
theorem t10_5 : y5 (T10 a b d) = b := rfl
theorem t10_6 : y6 (T10 a b d) = d := rfl
theorem t12_0 : y0 (T12 a) = a := rfl
theorem t13_0 : y0 (T13 a b d e) = a := rfl
theorem t13_15 : y15 (T13 a b d e) = b := rfl
theorem t13_16 : y16 (T13 a b d e) = d := rfl
theorem t13_17 : y17 (T13 a b d e) = e := rfl
theorem t14_0 : y0 (T14 a b) = a := rfl
theorem t14_6 : y6 (T14 a b) = b := rfl
theorem t15_6 : y6 (T15 a b d e) = a := rfl
theorem t15_26 : y26 (T15 a b d e) = b := rfl
theorem t15_27 : y27 (T15 a b d e) = d := rfl
theorem t15_28 : y28 (T15 a b d e) = e := rfl
theorem t16_6 : y6 (T16 a) = a := rfl
theorem t17_6 : y6 (T17 a b d e f) = a := rfl
theorem t17_8 : y8 (T17 a b d e f) = b := rfl
theorem t17_26 : y26 (T17 a b d e f) = d := rfl
theorem t17_27 : y27 (T17 a b d e f) = e := rfl
theorem t17_28 : y28 (T17 a b d e f) = f := rfl
theorem t18_6 : y6 (T18 a b d e f g j k) = a := rfl
theorem t18_8 : y8 (T18 a b d e f g j k) = b := rfl
theorem t18_26 : y26 (T18 a b d e f g j k) = d := rfl
theorem t18_27 : y27 (T18 a b d e f g j k) = e := rfl
theorem t18_28 : y28 (T18 a b d e f g j k) = f := rfl
theorem t18_36 : y36 (T18 a b d e f g j k) = g := rfl
theorem t18_37 : y37 (T18 a b d e f g j k) = j := rfl
theorem t18_38 : y38 (T18 a b d e f g j k) = k := rfl
theorem t19_0 : y0 (T19 a b) = a := rfl
theorem t19_3 : y3 (T19 a b) = b := rfl
theorem t20_1 : y1 (T20 a b) = a := rfl
theorem t20_2 : y2 (T20 a b) = b := rfl
theorem t21_1 : y1 (T21 a b d) = a := rfl
theorem t21_2 : y2 (T21 a b d) = b := rfl
theorem t21_3 : y3 (T21 a b d) = d := rfl
theorem t22_1 : y1 (T22 a b d e) = a := rfl
theorem t22_2 : y2 (T22 a b d e) = b := rfl
theorem t22_3 : y3 (T22 a b d e) = d := rfl
theorem t22_4 : y4 (T22 a b d e) = e := rfl
theorem t23_1 : y1 (T23 a) = a := rfl
theorem t24_1 : y1 (T24 a b d e) = a := rfl
theorem t24_5 : y5 (T24 a b d e) = b := rfl
theorem t24_6 : y6 (T24 a b d e) = d := rfl
theorem t24_7 : y7 (T24 a b d e) = e := rfl
theorem t26_1 : y1 (T26 a b d e f) = a := rfl
theorem t26_3 : y3 (T26 a b d e f) = b := rfl
theorem t26_41 : y41 (T26 a b d e f) = d := rfl
theorem t26_42 : y42 (T26 a b d e f) = e := rfl
theorem t26_43 : y43 (T26 a b d e f) = f := rfl
theorem t27_3 : y3 (T27 a b d e) = a := rfl
theorem t27_62 : y62 (T27 a b d e) = b := rfl
theorem t27_63 : y63 (T27 a b d e) = d := rfl
theorem t27_64 : y64 (T27 a b d e) = e := rfl
theorem t28_3 : y3 (T28 a b d e f) = a := rfl
theorem t28_7 : y7 (T28 a b d e f) = b := rfl
theorem t28_62 : y62 (T28 a b d e f) = d := rfl
theorem t28_63 : y63 (T28 a b d e f) = e := rfl
theorem t28_64 : y64 (T28 a b d e f) = f := rfl
theorem t29_3 : y3 (T29 a b d e f g j k) = a := rfl
theorem t29_7 : y7 (T29 a b d e f g j k) = b := rfl
theorem t29_62 : y62 (T29 a b d e f g j k) = d := rfl
theorem t29_63 : y63 (T29 a b d e f g j k) = e := rfl
theorem t29_64 : y64 (T29 a b d e f g j k) = f := rfl
theorem t29_78 : y78 (T29 a b d e f g j k) = g := rfl
theorem t29_79 : y79 (T29 a b d e f g j k) = j := rfl
theorem t29_80 : y80 (T29 a b d e f g j k) = k := rfl
theorem t31_1 : y1 (T31 a b) = a := rfl
theorem t31_5 : y5 (T31 a b) = b := rfl
theorem t32_1 : y1 (T32 a b d) = a := rfl
theorem t32_5 : y5 (T32 a b d) = b := rfl
theorem t32_6 : y6 (T32 a b d) = d := rfl
theorem t33_0 : y0 (T33 a b d) = a := rfl
theorem t33_1 : y1 (T33 a b d) = b := rfl
theorem t33_5 : y5 (T33 a b d) = d := rfl
theorem t34_0 : y0 (T34 a b d e) = a := rfl
theorem t34_1 : y1 (T34 a b d e) = b := rfl
theorem t34_5 : y5 (T34 a b d e) = d := rfl
theorem t34_6 : y6 (T34 a b d e) = e := rfl
theorem t35_0 : y0 (T35 a b d e f) = a := rfl
theorem t35_1 : y1 (T35 a b d e f) = b := rfl
theorem t35_5 : y5 (T35 a b d e f) = d := rfl
theorem t35_6 : y6 (T35 a b d e f) = e := rfl
theorem t35_7 : y7 (T35 a b d e f) = f := rfl
theorem t36_0 : y0 (T36 a b d e f g) = a := rfl
theorem t36_1 : y1 (T36 a b d e f g) = b := rfl
theorem t36_5 : y5 (T36 a b d e f g) = d := rfl
theorem t36_6 : y6 (T36 a b d e f g) = e := rfl
theorem t36_7 : y7 (T36 a b d e f g) = f := rfl
theorem t36_8 : y8 (T36 a b d e f g) = g := rfl
theorem sR : y0 (T37 a b d e f g j) = a := rfl
theorem sS : y1 (T37 a b d e f g j) = b := rfl
theorem sU : y5 (T37 a b d e f g j) = d := rfl
theorem sV : y6 (T37 a b d e f g j) = e := rfl
theorem sW : y7 (T37 a b d e f g j) = f := rfl
theorem sX : y8 (T37 a b d e f g j) = g := rfl
theorem sY : y9 (T37 a b d e f g j) = j := rfl
theorem t38_1 : y1 (T38 a b d e) = a := rfl
theorem t38_38 : y38 (T38 a b d e) = b := rfl
theorem t38_39 : y39 (T38 a b d e) = d := rfl
theorem t38_40 : y40 (T38 a b d e) = e := rfl
theorem t40_58 : y58 (T40 a b d) = a := rfl
theorem t40_59 : y59 (T40 a b d) = b := rfl
theorem t40_60 : y60 (T40 a b d) = d := rfl
theorem t42_0 : y0 (T42 a b d) = a := rfl
theorem t42_1 : y1 (T42 a b d) = b := rfl
theorem t42_6 : y6 (T42 a b d) = d := rfl
theorem qF : y5 (T43 a b d) = a := rfl
theorem qG : y6 (T43 a b d) = b := rfl
theorem qH : y7 (T43 a b d) = d := rfl
theorem t44_8 : y8 (T44 a b d) = a := rfl
theorem t44_9 : y9 (T44 a b d) = b := rfl
theorem t44_10 : y10 (T44 a b d) = d := rfl
end
end Go.Am.Seat
namespace Go.Am
noncomputable section
section
variable {h h' : Hp} {v x y : AV} {k : AV → Hp → RS} {q : P4} {o n m es el : Nat} {l : List AV}
theorem aV : Seat.tR (.ok v h) k = k v h := rfl
theorem aR {e : RV} (g : e = .ok v h') : Seat.tR e k = k v h' := by rw [g]; rfl
theorem sZ {e : RV} {k : AV → RS} (g : e = .ok v h') : Seat.tQ e k = k v := by rw [g]; rfl
theorem bm {c : Cf} {f : Nat} {l : List AV} (g : c f l h = .ok v h') : Seat.C c f l h k = k v h' := by
 show RT.elim k _ _ (c f l h) = _
 rw [g]; rfl
theorem az {d : Nat} : Seat.A d (.ptr q o) h k = k (.ptr q (o + d)) h := rfl
theorem ta : Seat.J (.ptr q o) h k = k (.ptr q o) h := rfl
theorem aE {a : AV} (g : Seat.lD a h = .ok v h') : Seat.L a h k = k v h' := by
 show (@RV.rec (fun _ => RS) k (fun n => .err n) (Seat.lD a h)) = _
 rw [g]
theorem fM {a : AV} (g : Seat.xV m a h = .ok v h') : Seat.M m a h k = k v h' := by
 show (@RV.rec (fun _ => RS) k (fun n => .err n) (Seat.xV m a h)) = _
 rw [g]
theorem iH {a b : AV} (g : Seat.sT a b h = .ok v h') : Seat.W a b h k = k v h' := by
 show (@RV.rec (fun _ => RS) k (fun n => .err n) (Seat.sT a b h)) = _
 rw [g]
theorem qw {a b : AV} (g : Seat.Hd m a b h = .ok v h') : Seat.S m a b h k = k v h' := by
 show (@RV.rec (fun _ => RS) k (fun n => .err n) (Seat.Hd m a b h)) = _
 rw [g]
theorem mP {a : AV} (g : Seat.bx m a h = .ok v h') : Seat.B m a h k = k v h' := by
 show (@RV.rec (fun _ => RS) k (fun n => .err n) (Seat.bx m a h)) = _
 rw [g]
theorem qv {c : Cl} (g : Seat.MO m n c h = .ok v h') : Seat.O m n c h k = k v h' := by
 show (@RV.rec (fun _ => RS) k (fun n => .err n) (Seat.MO m n c h)) = _
 rw [g]
theorem Nd {z : List AV} {ps : List Part} (g : Seat.bl z ps h = .ok v h') : Seat.U z ps h k = k v h' := by
 show (@RV.rec (fun _ => RS) k (fun n => .err n) (Seat.bl z ps h)) = _
 rw [g]
theorem JS {a : AV} (g : Seat.ext m a h = .ok v h') : Seat.E m a h k = k v h' := by
 show (@RV.rec (fun _ => RS) k (fun n => .err n) (Seat.ext m a h)) = _
 rw [g]
theorem bP {a : AV} (g : Am.len a h = .ok v h') : Seat.G a h k = k v h' := by
 show (@RV.rec (fun _ => RS) k (fun n => .err n) (Am.len a h)) = _
 rw [g]
theorem dg {a b : AV} (g : Seat.iX m a b h = .ok v h') : Seat.X m a b h k = k v h' := by
 show (@RV.rec (fun _ => RS) k (fun n => .err n) (Seat.iX m a b h)) = _
 rw [g]
theorem nY {a b : RS} : Seat.I (.bool true) a b = a := rfl
theorem mO {a b : RS} : Seat.I (.bool false) a b = b := rfl
theorem bJ {a b : RS} {c : Prop} [Decidable c] : Seat.I (.bool (decide c)) a b = if c then a else b := by
 by_cases hc : c
 ·rw [if_pos hc, decide_eq_true hc]; rfl
 ·rw [if_neg hc, decide_eq_false hc]; rfl
theorem OV {a b : RS} {c : Bool} : Seat.I (.bool c) a b = if c = true then a else b := by cases c <;> rfl
theorem wo (k : IntKind) : kx k k = true := by cases k <;> rfl
theorem ky {f : IntKind → Int → Int → AV} (k : IntKind) (a b : Int) : ye f (.int k a) (.int k b) h = .ok (f k a b) h := by
 show (@Bool.rec (fun _ => RV) (.err 4) (.ok (f k a b) h) (kx k k)) = _
 rw [wo]
theorem tc (k : IntKind) (a b : Int) : CX (.int k a) (.int k b) h = .ok (.bool (decide (a < b))) h := (ky k a b).trans (by rw [ot])
theorem fp (k : IntKind) (a b : Int) : eN (.int k a) (.int k b) h = .ok (.bool (decide (b < a))) h := (ky k a b).trans (by rw [ot])
theorem DR (k : IntKind) (a b : Int) : AH (.int k a) (.int k b) h = .ok (.bool (decide (a ≤ b))) h := (ky k a b).trans (by rw [uA])
theorem JV (k : IntKind) (a b : Int) : CF (.int k a) (.int k b) h = .ok (.bool (decide (b ≤ a))) h := (ky k a b).trans (by rw [uA])
theorem zu (k : IntKind) (a b : Int) : vT (.int k a) (.int k b) h = .ok (.bool (decide (a = b))) h := (ky k a b).trans (by rw [ij])
theorem HK (k : IntKind) (a b : Int) : vS (.int k a) (.int k b) h = .ok (.int k (k.wrap (a + b))) h := (ky k a b).trans (by rw [dh, pR])
theorem KW (k : IntKind) (a b : Int) : vU (.int k a) (.int k b) h = .ok (.int k (k.wrap (a - b))) h := (ky k a b).trans (by rw [dh, pR, uB, Int.sub_eq_add_neg])
theorem KX (k : IntKind) (a b : Int) : sJ (.int k a) (.int k b) h = .ok (.int k (k.wrap (a * b))) h := (ky k a b).trans (by rw [dh, uC])
theorem gi (k k' : IntKind) (a : Int) : cK (.toInt k) (.int k' a) h = .ok (.int k (k.wrap a)) h := by
 show RV.ok (.int k (gW k a)) h = _
 rw [dh]
theorem fu (b : Bool) : jU (.bool b) h = .ok (.bool (!b)) h := by cases b <;> rfl
theorem bq (k' : IntKind) (a b : Int) : Seat.Y (.int k' a) (.int k' b) h k = k (.bool (decide (a < b))) h := by
 show (@RV.rec (fun _ => RS) k (fun n => .err n) (CX _ _ _)) = _
 rw [tc]
theorem JW (k' : IntKind) (a b : Int) : Seat.Q (.int k' a) (.int k' b) h k = k (.bool (decide (a = b))) h := by
 show (@RV.rec (fun _ => RS) k (fun n => .err n) (vT _ _ _)) = _
 rw [zu]
theorem zH (k' : IntKind) (a b : Int) : Seat.D (.int k' a) (.int k' b) h k = k (.int k' (k'.wrap (a + b))) h := by
 show (@RV.rec (fun _ => RS) k (fun n => .err n) (vS _ _ _)) = _
 rw [HK]
theorem Nf (k' : IntKind) (a b : Int) : Seat.Z (.int k' a) (.int k' b) h k = k (.int k' (k'.wrap (a - b))) h := by
 show (@RV.rec (fun _ => RS) k (fun n => .err n) (vU _ _ _)) = _
 rw [KW]
theorem zI (s : List Nat) : hX (.str s) h = .ok (.int .i64 (s.length : Int)) h := rfl
theorem KE (s t : List Nat) : zt (.str s) (.str t) h = .ok (.bool (decide (s = t))) h := by
 show RV.ok (.bool (iI s t)) h = _
 rw [kz]
theorem JX (c : Cs h q o l) (j : Nat) (hj : j < l.length) : Seat.lD (.ptr q (o + j)) h = .ok l[j] h := by
 obtain ⟨el, n, ex, fl, c, e, r1, r2⟩ := c
 show (Obj.aQ (ah q h) (fun _ n _ _ c => @Bool.rec (fun _ => RV) (.err 13) (.ok (eF (o + j) c) h) (CV (o + j) n)) (.err 14) : RV) = _
 rw [e]
 show (@Bool.rec (fun _ => RV) (.err 13) (.ok (eF (o + j) c) h) (Nat.ble (Nat.succ (o + j)) n)) = _
 rw [Nat.ble_eq_true_of_le (by omega), r2 j hj]
theorem yf (c : Cs h q o l) (hj : 0 < l.length) : Seat.lD (.ptr q o) h = .ok l[0] h := JX c 0 hj
theorem qI {c : Cl} : ∀ {l : List AV} {o : Nat}, (∀ k (hk : k < l.length), eF (o + k) c = l[k]) → bn l.length c o = l
 | [], _, _ => rfl
 | a :: l, o, g => by
  have h0 := g 0 (by simp)
  have : bn l.length c (o + 1) = l := qI fun k hk => by
   have := g (k + 1) (by simp; omega)
   rw [show o + 1 + k = o + (k + 1) by omega, this]; rfl
  show eF o c :: bn l.length c (o + 1) = a :: l
  rw [this]
  simp at h0
  rw [h0]
theorem dC (c : Cs h q o l) (hm : l.length = m) : Seat.xV m (.ptr q o) h = .ok (.agg l) h := by
 obtain ⟨el, n, ex, fl, c, e, r1, r2⟩ := c
 show (Obj.aQ (ah q h) (fun _ n _ _ c => @Bool.rec (fun _ => RV) (.err 16) (.ok (.agg (bn m c o)) h) (Nat.ble (Nat.add o m) n)) (.err 17) : RV) = _
 rw [e]
 show (@Bool.rec (fun _ => RV) (.err 16) (.ok (.agg (bn m c o)) h) (Nat.ble (o + m) n)) = _
 rw [Nat.ble_eq_true_of_le (by omega), ← hm, qI r2]
def zq (x : AV) (es n : Nat) (q : P4) (o : Nat) : Prop := (∃ cap, x = .slice q o n cap) ∨ x = .fN q o n es ∨ (x = .ak ∧ n = 0)
theorem gC (s : zq x es n q o) : Am.len x h = .ok (.int .i64 (n : Int)) h := by
 rcases s with ⟨cap, rfl⟩ | rfl | ⟨rfl, rfl⟩ <;> rfl
theorem dc (s : zq x es n q o) {i : Nat} (hi : i < n) : Seat.iX es x (.int .i64 (i : Int)) h = .ok (.ptr q (o + i * es)) h := by
 rcases s with ⟨cap, rfl⟩ | rfl | ⟨rfl, rfl⟩
 ·show (@Bool.rec (fun _ => RV) (.err 54) (.ok (.ptr q (o + i * es)) h) (Nat.ble (Nat.succ i) n)) = _
  rw [Nat.ble_eq_true_of_le hi]
 ·show (@Bool.rec (fun _ => RV) (.err 54) (.ok (.ptr q (o + i * es)) h) (Nat.ble (Nat.succ i) n)) = _
  rw [Nat.ble_eq_true_of_le hi]
 ·omega
theorem wq (s : zq x es n q o) (hes : 0 < es) (c : n ≠ 0 → Cs h q o l) (hl : l.length = n * es) (k : List AV → RV) (e : RV) : elems es x h k e = k l := by
 have key : gX es q o n h k e = k l := by
  cases n with
  | zero =>
   have : l = [] := List.length_eq_zero_iff.1 (by rw [hl, Nat.zero_mul])
   rw [this]; rfl
  | succ n =>
   obtain ⟨el, m, ex, fl, cl, g, r1, r2⟩ := c (by omega)
   show (Obj.aQ (ah q h) (fun _ m _ _ c => @Bool.rec (fun _ => RV) e (k (bn (Nat.mul (Nat.succ n) es) c o)) (Nat.ble (Nat.add o (Nat.mul (Nat.succ n) es)) m)) e : RV) = _
   rw [g]
   show (@Bool.rec (fun _ => RV) e (k (bn ((n + 1) * es) cl o)) (Nat.ble (o + (n + 1) * es) m)) = _
   rw [Nat.ble_eq_true_of_le (by omega), ← hl, qI r2]
 rcases s with ⟨cap, rfl⟩ | rfl | ⟨rfl, rfl⟩
 ·exact key
 ·show (@Bool.rec (fun _ => RV) e (gX es q o n h k e) (Nat.beq es es)) = _
  rw [Nat.beq_refl]; exact key
 ·have : l = [] := List.length_eq_zero_iff.1 (by rw [hl, Nat.zero_mul])
  rw [this]; rfl
def jR (h : Hp) (x : AV) (el es : Nat) (l : List AV) (b : P4 → Prop) : Prop := (l = [] ∧ (x = .ak ∨ ∃ q, x = .slice q 0 0 0)) ∨ ∃ q n, x = .fN q 0 n es ∧ l.length = n * es ∧ Ob h q el false .plain l ∧ b q
theorem jR.sl {b : P4 → Prop} (w : jR h x el es l b) (hes : 0 < es) : ∃ q n, zq x es n q 0 ∧ l.length = n * es ∧ (n ≠ 0 → Cs h q 0 l) := by
 rcases w with ⟨rfl, rfl | ⟨q, rfl⟩⟩ | ⟨q, n, rfl, hl, ob, _⟩
 ·exact ⟨.eM 0 0, 0, .inr (.inr ⟨rfl, rfl⟩), by simp, fun h => absurd rfl h⟩
 ·exact ⟨q, 0, .inl ⟨0, rfl⟩, by simp, fun h => absurd rfl h⟩
 ·exact ⟨q, n, .inr (.inl rfl), hl, fun _ => ob.cs (k := 0) (fun j hj => ⟨by omega, by simp⟩) (by omega)⟩
theorem Ob.JY (W : Wf h) {ex : Bool} {fl : Fl} {c : Cl} (hn : Gd c ∧ l.length ≤ bp c) (hg : ∀ k (hk : k < l.length), eF k c = l[k]) : Ob (wj h (.cells el l.length ex fl c)) h.next el ex fl l :=
 ⟨c, by rw [iJ, if_pos rfl], hn, hg⟩
theorem iK (W : Wf h) {b : P4 → Prop} (w : jR h x el es l b) (hes : 0 < es) {new : List AV} (hnew' : new.length = m * es) (hsz : l.length + new.length ≤ 16777216) :
  ∃ x' h', kE el es m new x h = .ok x' h' ∧ jR h' x' el es (l ++ new) (fun q => b q ∨ ah q h = .none) ∧ Wf h' ∧ ∀ q, ah q h ≠ .none → ¬ b q → ah q h' = ah q h := by
 have hnl : new = [] → l ++ new = l := by rintro rfl; simp
 rcases w with ⟨rfl, hx⟩ | ⟨q, n, rfl, hl, ob, hb⟩
 ·cases m with
  | zero =>
   have : new = [] := List.length_eq_zero_iff.1 (by rw [hnew', Nat.zero_mul])
   subst this
   refine ⟨x, h, ?_, .inl ⟨rfl, hx⟩, W, fun _ _ _ => rfl⟩
   rcases hx with rfl | ⟨q, rfl⟩ <;> rfl
  | succ m =>
   have e : kE el es (m + 1) new x h = gO el false .plain new.length (mJ new) h (fun i h => .ok (.fN i 0 (m + 1) es) h) := by
    have g : ou el es 0 (m + 1) .nil new h = gO el false .plain new.length (mJ new) h (fun i h => .ok (.fN i 0 (m + 1) es) h) := by
     unfold ou mU
     rw [show Nat.add 0 (m + 1) = m + 1 from Nat.zero_add _]
     rfl
    rcases hx with rfl | ⟨q, rfl⟩
    ·exact g
    ·have e2 : kE el es (m + 1) new (.slice q 0 0 0) h = (@Bool.rec (fun _ => RV) (ou el es 0 (m + 1) .nil new h) (jo q (Nat.add 0 (Nat.mul 0 es)) new h (fun h => .ok (.slice q 0 (Nat.add 0 (Nat.succ m)) 0) h)) (Nat.ble (0 + (m + 1)) 0)) := rfl
     have : Nat.ble (0 + (m + 1)) 0 = false := by rw [Nat.zero_add]; rfl
     rw [e2, this]
     exact g
   rw [e, uD W (by rw [(Gd.of new (by simpa using hsz)).1.max]; exact (Gd.of new (by simpa using hsz)).2)]
   refine ⟨_, _, rfl, .inr ⟨h.next, m + 1, rfl, by simpa using hnew', ?_, .inr W.fresh⟩, W.wj _, fun q hq _ => Old.wj W _ q hq⟩
   exact Ob.JY W (Gd.of new (by simpa using hsz)) (fun k hk => ov new (by simpa using hsz) k hk)
 ·cases m with
  | zero =>
   have : new = [] := List.length_eq_zero_iff.1 (by rw [hnew', Nat.zero_mul])
   subst this
   refine ⟨.fN q 0 n es, h, ?_, .inr ⟨q, n, rfl, by simpa using hl, by simpa using ob, .inl hb⟩, W, fun _ _ _ => rfl⟩
   show (@Bool.rec (fun _ => RV) (.err 81) (.ok (.fN q 0 n es) h) (Nat.beq es es)) = _
   rw [Nat.beq_refl]
  | succ m =>
   obtain ⟨c, e1, e2, e3⟩ := ob
   have hne : ah q h ≠ .none := by rw [e1]; simp
   have hsum : (n + (m + 1)) * es = l.length + new.length := by rw [Nat.add_mul, ← hl, ← hnew']
   have hpos : 0 < new.length := by rw [hnew']; exact Nat.mul_pos (by omega) hes
   have W2 : Wf (cI q .dead h) := W.cI hne
   have hnx : (cI q .dead h).next = h.next := rfl
   have hcf : Gd (cM new l.length (jq ((n + (m + 1)) * es) c)) ∧ l.length + new.length ≤ bp (cM new l.length (jq ((n + (m + 1)) * es) c)) := by
    rw [fO, hsum]
    obtain ⟨a1, a2⟩ := e2.1.fit (l.length + new.length) hsz
    exact ⟨a1.cM _ _, a2⟩
   have e : kE el es (m + 1) new (.fN q 0 n es) h = gO el false .plain (l ++ new).length (cM new l.length (jq ((n + (m + 1)) * es) c)) (cI q .dead h) (fun j h => .ok (.fN j 0 (n + (m + 1)) es) h) := by
    show (@Bool.rec (fun _ => RV) (.err 81) (DT el es (m + 1) new q 0 n h) (Nat.beq es es)) = _
    rw [Nat.beq_refl]
    show (Obj.aQ (ah q h) _ (.err 84) : RV) = _
    rw [e1]
    show (@Bool.rec (fun _ => RV) (@Bool.rec (fun _ => RV) (.err 83) (@Bool.rec (fun _ => RV) (@Bool.rec (fun _ => RV) (kF q el ((n + (m + 1)) * es) .plain (mJ (List.append (bn (n * es) c 0) new)) (n + (m + 1)) es h)
     (kF q el ((n + (m + 1)) * es) .plain (cM new l.length (jq ((n + (m + 1)) * es) c)) (n + (m + 1)) es h) (Bool.and (Nat.beq 0 0) (Nat.beq (n * es) l.length))) (.err 81) (Bool.or false (Bool.not (Nat.beq el el)))) (Nat.ble (0 + n * es) l.length)) _ (Nat.ble (0 + (n + (m + 1)) * es) l.length)) = _
    have b1 : Nat.ble (0 + (n + (m + 1)) * es) l.length = false := by
     rw [← Bool.not_eq_true]
     intro g
     have := Nat.le_of_ble_eq_true g
     omega
    have b2 : Nat.ble (0 + n * es) l.length = true := Nat.ble_eq_true_of_le (by omega)
    have b3 : Nat.beq (n * es) l.length = true := by rw [hl]; exact Nat.beq_refl _
    have b4 : Nat.beq el el = true := Nat.beq_refl _
    rw [b1, b2, b3, b4]
    show kF q el ((n + (m + 1)) * es) .plain _ (n + (m + 1)) es h = _
    unfold kF
    rw [List.length_append, hsum]
   rw [e, uD W2 (by rw [hcf.1.max, List.length_append]; exact hcf.2)]
   refine ⟨_, _, rfl, .inr ⟨h.next, n + (m + 1), rfl, by rw [List.length_append, hsum], ?_, .inr W.fresh⟩, W2.wj _, fun j hj hbj => ?_⟩
   ·refine Ob.JY W2 ⟨hcf.1, by rw [List.length_append]; exact hcf.2⟩ (fun k hk => ?_)
    rw [hsum]
    refine wt l new ?_ e2.2 e3 k hk
    rw [hsum] at hcf
    exact hcf.2
   ·rw [iJ, hnx, if_neg (fun g => by rw [g] at hj; exact hj W.fresh), aD, if_neg (fun g => by rw [g] at hbj; exact hbj hb)]
end
end
noncomputable section
section
variable {h h' : Hp} {v x y : AV} {q : P4} {o n m es el k : Nat} {l l' : List AV} {ex : Bool}
theorem jL (b : Ob h q el ex .plain l) (hk : k < l.length) (hv : v.one = true) : ∃ h', Seat.sT (.ptr q k) v h = .ok .undef h' ∧ Ob h' q el ex .plain (l.set k v) ∧ (∀ j, j ≠ q → ah j h' = ah j h) ∧ h'.next = h.next := by
 obtain ⟨c, e1, e2, e3⟩ := b
 refine ⟨cI q (.cells el l.length ex .plain (jY k v c)) h, ?_, ⟨jY k v c, by rw [aD, if_pos rfl, List.length_set], ⟨e2.1.jY _ _, by rw [gE, List.length_set]; exact e2.2⟩, fun j hj => ?_⟩, fun j hj => by rw [aD, if_neg hj], rfl⟩
 ·show (Obj.aQ (ah q h) _ (.err 21) : RV) = _
  rw [e1]
  show (@Bool.rec (fun _ => RV) (.err 20) (.ok .undef (cI q (.cells el l.length ex .plain (jY k v c)) h)) (Bool.and (Nat.ble (k + 1) l.length) v.one)) = _
  rw [Nat.ble_eq_true_of_le hk, hv]
  rfl
 ·have hj' : j < l.length := by simpa using hj
  rw [ox c (by have := e2.2; omega) (by have := e2.2; omega), List.getElem_set]
  by_cases h1 : j = k
  ·rw [if_pos h1, if_pos h1.symm]
  ·rw [if_neg h1, if_neg (fun g => h1 g.symm)]
   exact e3 j hj'
theorem nZ (b : Ob h q el ex .plain l) (hm : l'.length = m) (hk : k + m ≤ l.length) : ∃ h', Seat.Hd m (.ptr q k) (.agg l') h = .ok .undef h' ∧ Ob h' q el ex .plain (l.take k ++ (l' ++ l.drop (k + m))) ∧ (∀ j, j ≠ q → ah j h' = ah j h) ∧ h'.next = h.next := by
 obtain ⟨c, e1, e2, e3⟩ := b
 have hlen : (l.take k ++ (l' ++ l.drop (k + m))).length = l.length := by simp; omega
 refine ⟨cI q (.cells el l.length ex .plain (cM l' k c)) h, ?_, ⟨cM l' k c, by rw [aD, if_pos rfl, hlen], ⟨e2.1.cM _ _, by rw [fO, hlen]; exact e2.2⟩, fun j hj => ?_⟩, fun j hj => by rw [aD, if_neg hj], rfl⟩
 ·show (Obj.aQ (ah q h) _ (.err 27) : RV) = _
  rw [e1]
  show (@Bool.rec (fun _ => RV) (.err 24) (@Bool.rec (fun _ => RV) (.err 25) (.ok .undef (cI q (.cells el l.length ex .plain (cM l' k c)) h)) (Nat.beq l'.length m)) (Nat.ble (Nat.add k m) l.length)) = _
  rw [Nat.ble_eq_true_of_le (show Nat.add k m ≤ l.length from hk), hm, Nat.beq_refl]
 ·have hj' : j < l.length := by rw [hlen] at hj; exact hj
  have hr := e2.2
  rw [mj l' k c j (by omega) (by omega)]
  by_cases h1 : j < k
  ·rw [dif_neg (by omega), List.getElem_append_left (by simp; omega), List.getElem_take, e3 j hj']
  ·by_cases h2 : j < k + m
   ·rw [dif_pos (by omega), List.getElem_append_right (by simp; omega), List.getElem_append_left (by simp; omega)]
    congr 1
    simp; omega
   ·rw [dif_neg (by omega), List.getElem_append_right (by simp; omega), List.getElem_append_right (by simp; omega), List.getElem_drop, e3 j hj']
    congr 1
    simp; omega
theorem qu (W : Wf h) {c : Cl} (g : Gd c) (hn : n ≤ bp c) : ∃ q h', Seat.MO el n c h = .ok (.ptr q 0) h' ∧ ah q h = .none ∧ Ob h' q el true .plain (bn n c 0) ∧ Old h h' ∧ Wf h' ∧ ∀ j, j ≠ q → ah j h' = ah j h := by
 have hl : (bn n c 0).length = n := bM n c 0
 have e : Seat.MO el n c h = gO el true .plain (bn n c 0).length c h nU := by rw [hl]; rfl
 obtain ⟨q, h', e1, e2, e3, e4, e5, e6⟩ := yg (el := el) (ex := true) (fl := .plain) W (bn n c 0) (c := c) ⟨g, by rw [hl]; exact hn⟩ (fun k hk => by rw [lL, Nat.zero_add]) nU
 exact ⟨q, h', by rw [e, e1]; rfl, e2, e3, e4, e5, e6⟩
theorem qt (W : Wf h) (hl : l.length ≤ 16777216) : ∃ q h', Seat.bx el (.agg l) h = .ok (.ptr q 0) h' ∧ ah q h = .none ∧ Ob h' q el true .plain l ∧ Old h h' ∧ Wf h' ∧ ∀ j, j ≠ q → ah j h' = ah j h := by
 have e : Seat.bx el (.agg l) h = gO el true .plain l.length (mJ l) h nU := rfl
 obtain ⟨q, h', e1, r⟩ := yg (el := el) (ex := true) (fl := .plain) W l (c := mJ l) (Gd.of l hl) (fun k hk => ov l hl k hk) nU
 exact ⟨q, h', by rw [e, e1]; rfl, r⟩
theorem iD (W : Wf h) {z : List AV} {ps : List Part} (hf : fits ps .nil = true) (hl : fill ps .nil z = l) (hn : l.length ≤ 16777216) : ∃ q h', Seat.bs el es n z ps h = .ok (.slice q 0 n n) h' ∧ ah q h = .none ∧ Ob h' q el true .plain l ∧ Old h h' ∧ Wf h' ∧ ∀ j, j ≠ q → ah j h' = ah j h := by
 have e : Seat.bs el es n z ps h = gO el true .plain l.length (mJ l) h (fun i h => .ok (.slice i 0 n n) h) := by
  show (@Bool.rec (fun _ => RV) (.err 133) (zJ el n (fill ps .nil z) h) (fits ps .nil)) = _
  rw [hf, hl]; rfl
 obtain ⟨q, h', e1, r⟩ := yg (el := el) (ex := true) (fl := .plain) W l (c := mJ l) (Gd.of l hn) (fun k hk => ov l hn k hk) (fun i h => .ok (.slice i 0 n n) h)
 exact ⟨q, h', by rw [e, e1], r⟩
theorem gU (s : zq y es m q o) (hes : 0 < es) (c : m ≠ 0 → Cs h q o l) (hl : l.length = m * es) (hm : m * es ≤ 4294967296) : dW el es x y h = kE el es m l x h := by
 have key : (@Bool.rec (fun _ => RV) (.err 86) (elems es y h (fun new => kE el es m new x h) (.err 87)) (Nat.ble (Nat.mul m es) 4294967296)) = kE el es m l x h := by
  rw [Nat.ble_eq_true_of_le (show Nat.mul m es ≤ 4294967296 from hm)]
  exact wq s hes c hl _ _
 rcases s with ⟨cap, rfl⟩ | rfl | ⟨rfl, rfl⟩ <;> exact key
theorem uE (s : List Nat) : byteCells s = s.map fun b : Nat => AV.int .u8 (b : Int) := by
 induction s with
 | nil => rfl
 | cons b s ih => exact congrArg (AV.int .u8 (b : Int) :: ·) ih
theorem zK (s : List Nat) : hY el (.c x) (.c (.str s)) .nil h = kE el 1 s.length (s.map fun b : Nat => AV.int .u8 (b : Int)) x h := by
 show kE el 1 s.length (byteCells s) x h = _
 rw [uE]
theorem jR.mono {b b' : P4 → Prop} (w : jR h x el es l b) (g : ∀ q, b q → b' q) : jR h x el es l b' := by
 rcases w with w | ⟨q, n, e1, e2, e3, e4⟩
 ·exact .inl w
 ·exact .inr ⟨q, n, e1, e2, e3, g q e4⟩
theorem jR.old {b : P4 → Prop} (w : jR h x el es l b) (O : ∀ q, b q → ah q h ≠ .none → ah q h' = ah q h) : jR h' x el es l b := by
 rcases w with w | ⟨q, n, e1, e2, e3, e4⟩
 ·exact .inl w
 ·exact .inr ⟨q, n, e1, e2, e3.eq (O q e4 e3.ne), e4⟩
theorem Old.none {h0 : Hp} (O : Old h0 h) (hq : ah q h = .none) : ah q h0 = .none := by
 cases g : ah q h0 with
 | none => rfl
 | _ =>
  have := O q (by rw [g]; simp)
  rw [hq, g] at this
  cases this
theorem Wf.of (W : Wf h) (hn : h'.next = h.next) (g : ∀ j, ah j h = .none → ah j h' = .none) : Wf h' := by
 obtain ⟨N, e, f⟩ := W
 exact ⟨N, by rw [hn, e], fun m hm => g _ (f m hm)⟩
end
end
noncomputable section
def Hh (f : Nat → Nat → Obj) (g : Nat → Obj) (n : Nat) : T4 := Nat.rec (.mk .nil f) (fun j t => cU (P4.of j) (g j) t) n
theorem lM (f : Nat → Nat → Obj) (g : Nat → Obj) (b o : Nat) : ∀ n, cm (.eM b o) (Hh f g n) = f b o
 | 0 => rfl
 | n + 1 => by
  have e : cm (.eM b o) (Hh f g (n + 1)) = if P4.eM b o = P4.of n then g n else cm (.eM b o) (Hh f g n) := cV (.eM b o) (P4.of n) (g n) (Hh f g n)
  rw [e, if_neg (by intro e; cases e), lM f g b o n]
theorem td (f : Nat → Nat → Obj) (g : Nat → Obj) (a b c d : H) : ∀ n, n ≤ 65536 → cm (.mk a b c d) (Hh f g n) = if mF (.mk a b c d) < n then g (mF (.mk a b c d)) else .none
 | 0, _ => by
  rw [if_neg (by omega)]
  show O1.get d (O2.get c (O3.get b (O4.get a .nil))) = _
  rw [O4.get_nil, O3.get_nil, O2.get_nil, O1.get_nil]
 | m + 1, hm => by
  have e : cm (.mk a b c d) (Hh f g (m + 1)) = if P4.mk a b c d = P4.of m then g m else cm (.mk a b c d) (Hh f g m) := cV (.mk a b c d) (P4.of m) (g m) (Hh f g m)
  rw [e, td f g a b c d m (by omega)]
  by_cases h : P4.mk a b c d = P4.of m
  ·rw [if_pos h, h, uF (by omega), if_pos (by omega)]
  ·rw [if_neg h]
   have h1 : mF (.mk a b c d) ≠ m := fun e => h (by rw [← e, yh])
   by_cases h2 : mF (.mk a b c d) < m
   ·rw [if_pos h2, if_pos (by omega)]
   ·rw [if_neg h2, if_neg (by omega)]
theorem KY (a b c d : H) : mF (.mk a b c d) < 65536 := by
 have ha := a.eP
 have hb := b.eP
 have hc := c.eP
 have hd := d.eP
 show a.nat * 4096 + b.nat * 256 + c.nat * 16 + d.nat < 65536
 omega
theorem zL (g : P4 → Obj) : ∃ h : Hp, ∀ q, ah q h = g q := by
 obtain ⟨n, hn⟩ : ∃ n, n = 65536 := ⟨_, rfl⟩
 refine ⟨.mk (Hh (fun b o => g (.eM b o)) (fun j => g (P4.of j)) n) (.eM 0 0), fun q => ?_⟩
 cases q with
 | eM b o => exact lM _ _ b o n
 | mk a b c d =>
  have e : ah (.mk a b c d) (.mk (Hh (fun b o => g (.eM b o)) (fun j => g (P4.of j)) n) (.eM 0 0)) = _ := td (fun b o => g (.eM b o)) (fun j => g (P4.of j)) a b c d n (by omega)
  rw [e, if_pos (by rw [hn]; exact KY a b c d), yh]
variable {p : Pg} {h h' h1 : Hp} {r r' : A2} {v x y : AV} {q : P4} {o n m es el : Nat} {l : List AV} {s : RS} {k : AV → Hp → RS}
theorem vZ {f : (AV → Hp → RS) → RS} : Seat.gD (.bool true) true f h k = f k := rfl
theorem HL {f : (AV → Hp → RS) → RS} : Seat.gD (.bool false) false f h k = f k := rfl
theorem sO {f : (AV → Hp → RS) → RS} : Seat.gD (.bool false) true f h k = k cu h := rfl
theorem zM {f : (AV → Hp → RS) → RS} : Seat.gD (.bool true) false f h k = k cu h := rfl
theorem od {a b : AV} : dJ (.c (.bool true)) (.c a) (.c b) .nil h = .ok a h := rfl
theorem qx {a b : AV} : dJ (.c (.bool false)) (.c a) (.c b) .nil h = .ok b h := rfl
theorem HM (s : List Nat) (n : Nat) (hn : n ≤ s.length) : eO (.c (.str s)) .none (.some (.c (Seat.pi n))) .nil h = .ok (.str (s.take n)) h := by
 show (@Bool.rec (fun _ => RV) (.err 49) (@Bool.rec (fun _ => RV) (.err 49) (.ok (.str (List.take (Nat.sub n 0) (List.drop 0 s))) h) (Nat.ble n s.length)) (Nat.ble 0 n)) = _
 rw [Nat.ble_eq_true_of_le hn, Nat.ble_eq_true_of_le (Nat.zero_le n)]
 rfl
theorem qJ (W : Wf h) (sl : zq x es n q o) {i : Nat} (hi : i < n) (c : Cs h q (o + i * es) l) (hl : l.length = es) {c0 : Cl} (hc : Gd c0) (hr : es ≤ bp c0) :
  ∃ j h', (∀ K : AV → Hp → RS, Seat.X es x (.int .i64 (i : Int)) h (fun g h => Seat.M es g h fun k h => Seat.O el es c0 h fun l h => Seat.S es l k h fun _ h => K l h) = K (.ptr j 0) h') ∧ ah j h = .none ∧ Ob h' j el true .plain l ∧ Old h h' ∧ Wf h' ∧ ∀ k, k ≠ j → ah k h' = ah k h := by
 obtain ⟨j, h1, e1, e2, e3, e4, e5, e6⟩ := qu (el := el) W hc hr
 have hg : (bn es c0 0).length = es := bM es c0 0
 obtain ⟨h2, f1, f2, f3, f4⟩ := nZ (k := 0) (m := es) (l' := l) e3 hl (by omega)
 refine ⟨j, h2, fun K => ?_, e2, ?_, fun k hk => ?_, e5.of f4 fun k hk => ?_, fun k hk => ?_⟩
 ·rw [dg (dc sl hi), fM (dC c hl), qv e1, qw f1]
 ·have : (bn es c0 0).take 0 ++ (l ++ (bn es c0 0).drop (0 + es)) = l := by
   rw [List.drop_of_length_le (by omega)]; simp
  rw [this] at f2; exact f2
 ·have : k ≠ j := fun g => by rw [g] at hk; exact hk e2
  rw [f3 k this, e4 k hk]
 ·by_cases g : k = j
  ·rw [g] at hk; exact absurd hk e3.ne
  ·rw [f3 k g]; exact hk
 ·rw [f3 k hk, e6 k hk]
def Os (p : Pg) (l : List GI) (r : A2) (h : Hp) (s : RS) : Prop := Ev fun m => eG p (exec p m) l r h = s
theorem Rn.ops {l : List GI} (e : Os p l r h s) : Rn p (.ops l) r h s := Ev.succ e
theorem Os.nil : Os p [] r h (.nm r h) := .all fun _ => rfl
variable {gs : List GI} {d : bO} {aop : mG} {f : Nat} {xs : List AO} {a b : H} {w : Bool} {i : AI}
theorem Os.step (e : aop.run r h = .ok v h') (g : Os p gs (cN d v r) h' s) : Os p (.o d (.op aop) :: gs) r h s := g.mono fun m g => by
 show zo d (eG p (exec p m) gs) r (aop.run r h) = s
 rw [e]; exact g
theorem Os.call (e : Cv p f (fm xs r) h v h') (g : Os p gs (cN d v r) h' s) : Os p (.o d (.call f xs) :: gs) r h s := e.Bd g fun m e g => by
 show stepT d (eG p (exec p m) gs) r (ar p (exec p m) f (fm xs r) h) = s
 rw [e]; exact g
theorem Os.on (hb : aq a b r = .bool w) (g : Os p (.o d i :: gs) r h s) : Os p (.g a b w d i :: gs) r h s := g.mono fun m g => by
 show AV.bu (gb w (aq a b r)) (ik d (eG p (exec p m) gs) r h i p (exec p m) w) (.err 210) = s
 rw [hb, ← g]
 cases w <;> rfl
theorem Os.off (hb : aq a b r = .bool (!w)) (g : Os p gs (cN d cu r) h s) : Os p (.g a b w d i :: gs) r h s := g.mono fun m g => by
 show AV.bu (gb w (aq a b r)) (ik d (eG p (exec p m) gs) r h i p (exec p m) w) (.err 210) = s
 rw [hb, ← g]
 cases w <;> rfl
end
noncomputable section
variable {p : Pg} {h h' : Hp} {r r' : A2} {s : RS} {body x : AC}
theorem Rn.to {k : Cf → Iv → (A2 → Hp → RS) → A2 → Hp → RS} (e : Ev fun m => ∀ K : A2 → Hp → RS, k (ar p (exec p m)) (aF p (exec p m)) K r h = K r' h') (g : Rn p x r' h' s) : Rn p (.ag k x) r h s :=
 .ag (e.Bd g fun _ e g => (e _).trans g)
theorem Rn.dQ {k : Cf → Iv → (A2 → Hp → RS) → A2 → Hp → RS} (e : ∀ c i (K : A2 → Hp → RS), k c i K r h = K r' h') (g : Rn p x r' h' s) : Rn p (.ag k x) r h s := .to (.all fun _ K => e _ _ K) g
theorem Rn.bI {k : Cf → Iv → (A2 → Hp → RS) → A2 → Hp → RS} (e : ∀ c i (K : A2 → Hp → RS), k c i K r h = s) : Rn p (.ag k x) r h s := .ag (.all fun _ => e _ _ _)
theorem dt (n : Nat) {Inv : Nat → A2 → Hp → Prop} {S : RS → Prop} (step : ∀ i r h, i < n → Inv i r h → (∃ r' h', Rn p body r h (.nm r' h') ∧ Inv (i + 1) r' h') ∨ ∃ s, S s ∧ Rn p (.loop body) r h s)
  (fin : ∀ r h, Inv n r h → ∃ s, S s ∧ Rn p (.loop body) r h s) : ∀ k i r h, i + k = n → Inv i r h → ∃ s, S s ∧ Rn p (.loop body) r h s
 | 0, i, r, h, e, I => by
  rw [show i = n by omega] at I
  exact fin r h I
 | k + 1, i, r, h, e, I => by
  rcases step i r h (by omega) I with ⟨r', h', g, I⟩ | g
  ·obtain ⟨s, hs, g'⟩ := dt n step fin k (i + 1) r' h' (by omega) I
   exact ⟨s, hs, .loop g g'⟩
  ·exact g
theorem wu (n : Nat) {Inv : Nat → A2 → Hp → Prop} {l : Nat} (step : ∀ i r h, i < n → Inv i r h → ∃ r' h', Rn p body r h (.nm r' h') ∧ Inv (i + 1) r' h')
  (fin : ∀ r h, Inv n r h → Rn p body r h (.ex l r h)) (I : Inv 0 r h) : ∃ r' h', Inv n r' h' ∧ Rn p (.loop body) r h (.ex l r' h') := by
 obtain ⟨s, ⟨r', h', e, I⟩, g⟩ := dt (p := p) (body := body) n (Inv := Inv) (S := fun s => ∃ r' h', s = .ex l r' h' ∧ Inv n r' h') (fun i r h hi I => .inl (step i r h hi I)) (fun r h I => ⟨_, ⟨r, h, rfl, I⟩, .de (fin r h I)⟩) n 0 r h (by omega) I
 exact ⟨r', h', I, e ▸ g⟩
theorem kZ (n : Nat) {Inv : Nat → A2 → Hp → Prop} {l : Nat} {Re : A2} (step : ∀ i r h, i < n → Inv i r h → ∃ r' h', Rn p body r h (.nm r' h') ∧ Inv (i + 1) r' h')
  (fin : ∀ r h, Inv n r h → Rn p body r h (.ex l Re h)) (I : Inv 0 r h) : ∃ r' h', Inv n r' h' ∧ Rn p (.loop body) r h (.ex l Re h') := by
 obtain ⟨s, ⟨r', h', e, I⟩, g⟩ := dt (p := p) (body := body) n (Inv := Inv) (S := fun s => ∃ r' h', s = .ex l Re h' ∧ Inv n r' h') (fun i r h hi I => .inl (step i r h hi I)) (fun r h I => ⟨_, ⟨r, h, rfl, I⟩, .de (fin r h I)⟩) n 0 r h (by omega) I
 exact ⟨r', h', I, e ▸ g⟩
end
noncomputable section
variable {p : Pg} {h h' h1 h1' h2 h2' g g' : Hp} {r r' : A2} {s : RS} {v v' x : AV} {hs : List Hp}
def Ds (p : Pg) (l : List DI) (r : A2) (h g : Hp) (hs : List Hp) (s : RS) : Prop := Ev fun m => dZ p (exec p m) l r h g hs = s
theorem Rn.pL {l : List DI} (e : Ds p l r h h [] s) : Rn p (.pL l) r h s := Ev.succ e
theorem Ds.nil : Ds p [] r h g hs (.nm r h) := .all fun _ => rfl
variable {l : List DI} {d : bO} {aop : mG} {f : Nat} {xs : List AO} {a b : H} {w : Bool} {i : AI} {bk : Bk}
theorem uG : ∀ hs : List Hp, eS aop r v hs 0 = true
 | [] => rfl
 | _ :: _ => rfl
theorem Ds.ur (e : aop.run r g = .ok v g') (k : Ds p l (cN d v r) h g hs s) : Ds p (.mk (.rd 0) (.o d (.op aop)) :: l) r h g hs s := k.mono fun m k => by
 show vX d aop 0 (dZ p (exec p m) l) r h g hs (aop.run r g) = s
 rw [e]
 show (@Bool.rec (fun _ => RS) (.err 211) (dZ p (exec p m) l (cN d v r) h g hs) (eS aop r v hs 0)) = s
 rw [uG]; exact k
theorem Ds.MB (e : aop.run r g = .ok v g') (e1 : aop.run r h1 = .ok v h1') (sv : same v v = true) (k : Ds p l (cN d v r) h g (h1 :: hs) s) : Ds p (.mk (.rd 1) (.o d (.op aop)) :: l) r h g (h1 :: hs) s := k.mono fun m k => by
 show vX d aop 1 (dZ p (exec p m) l) r h g (h1 :: hs) (aop.run r g) = s
 rw [e]
 show (@Bool.rec (fun _ => RS) (.err 211) (dZ p (exec p m) l (cN d v r) h g (h1 :: hs)) (@RV.rec (fun _ => Bool) (fun v' _ => @Bool.rec (fun _ => Bool) false (eS aop r v hs 0) (same v v')) (fun _ => false) (aop.run r h1))) = s
 rw [e1]
 show (@Bool.rec (fun _ => RS) (.err 211) (dZ p (exec p m) l (cN d v r) h g (h1 :: hs)) (@Bool.rec (fun _ => Bool) false (eS aop r v hs 0) (same v v))) = s
 rw [sv, uG]; exact k
theorem Ds.PG (e : aop.run r g = .ok v g') (e1 : aop.run r h1 = .ok v h1') (e2 : aop.run r h2 = .ok v h2') (sv : same v v = true) (k : Ds p l (cN d v r) h g (h1 :: h2 :: hs) s) : Ds p (.mk (.rd 2) (.o d (.op aop)) :: l) r h g (h1 :: h2 :: hs) s := k.mono fun m k => by
 show vX d aop 2 (dZ p (exec p m) l) r h g (h1 :: h2 :: hs) (aop.run r g) = s
 rw [e]
 show (@Bool.rec (fun _ => RS) (.err 211) (dZ p (exec p m) l (cN d v r) h g (h1 :: h2 :: hs)) (@RV.rec (fun _ => Bool) (fun v' _ => @Bool.rec (fun _ => Bool) false (@RV.rec (fun _ => Bool) (fun v' _ => @Bool.rec (fun _ => Bool) false (eS aop r v hs 0) (same v v')) (fun _ => false) (aop.run r h2)) (same v v')) (fun _ => false) (aop.run r h1))) = s
 rw [e1, e2]
 show (@Bool.rec (fun _ => RS) (.err 211) (dZ p (exec p m) l (cN d v r) h g (h1 :: h2 :: hs)) (@Bool.rec (fun _ => Bool) false (@Bool.rec (fun _ => Bool) false (eS aop r v hs 0) (same v v)) (same v v))) = s
 rw [sv, uG]; exact k
theorem Ds.call (e : Cv p f (fm xs r) h v h') (k : Ds p l (cN d v r) h' h' (g :: hs) s) : Ds p (.mk .eg (.o d (.call f xs)) :: l) r h g hs s := e.Bd k fun m e k => by
 show mb d (dZ p (exec p m) l) r g hs (ar p (exec p m) f (fm xs r) h) = s
 rw [e]; exact k
theorem Ds.on (hb : aq a b r = .bool w) (k : Ds p (.mk bk (.o d i) :: l) r h g hs s) : Ds p (.mk bk (.g a b w d i) :: l) r h g hs s := k.mono fun m k => by
 show AV.bu (gb w (aq a b r)) (HN bk d i (dZ p (exec p m) l) r h g hs p (exec p m) w) (.err 212) = s
 rw [hb, ← k]
 cases w <;> rfl
theorem qK (q : P4) : nS q q = true := gY.2 rfl
theorem Be (q : P4) (o : Nat) : jM (.ptr q o) (.ptr q o) = true := by
 show (Bool.and (nS q q) (Nat.beq o o)) = true
 rw [Nat.beq_refl, qK]; rfl
theorem lb (k : IntKind) (n : Int) : jM (.int k n) (.int k n) = true := by
 show (@Bool.rec (fun _ => Bool) false (sn n n) (kx k k)) = true
 rw [wo, ij, decide_eq_true rfl]
theorem oy (s : List Nat) : jM (.str s) (.str s) = true := by
 show iI s s = true
 rw [kz, decide_eq_true rfl]
theorem qy {es n : Nat} {q : P4} {o : Nat} (sl : zq x es n q o) : jM x x = true := by
 rcases sl with ⟨cap, rfl⟩ | rfl | ⟨rfl, _⟩
 ·show (Bool.and (nS q q) (Bool.and (Nat.beq o o) (Bool.and (Nat.beq n n) (Nat.beq cap cap)))) = true
  simp only [Nat.beq_refl, qK]; rfl
 ·show (Bool.and (nS q q) (Bool.and (Nat.beq o o) (Bool.and (Nat.beq n n) (Nat.beq es es)))) = true
  simp only [Nat.beq_refl, qK]; rfl
 ·rfl
theorem qL (q : P4) (o : Nat) : same (.ptr q o) (.ptr q o) = true := Be q o
theorem wv (k : IntKind) (n : Int) : same (.int k n) (.int k n) = true := lb k n
theorem Dz (s : List Nat) : same (.str s) (.str s) = true := oy s
theorem qM : ∀ {l : List AV}, (∀ v, v ∈ l → jM v v = true) → pk l l = true
 | [], _ => rfl
 | v :: l, g => by
  show (@Bool.rec (fun _ => Bool) false (pk l l) (jM v v)) = true
  rw [g v (by simp), qM fun w hw => g w (by simp [hw])]
theorem DU {l : List AV} (g : ∀ v, v ∈ l → jM v v = true) : same (.agg l) (.agg l) = true := by
 show pk l l = true
 exact qM g
end
end Go.Am
namespace Go.Cod
abbrev Bs := List UInt8
def le : Nat → Nat → Bs
 | 0, _ => []
 | k + 1, n => UInt8.ofNat n :: le k (n / 256)
def un : Bs → Nat
 | [] => 0
 | b :: l => b.toNat + 256 * un l
theorem aX : ∀ k n, (le k n).length = k
 | 0, _ => rfl
 | k + 1, n => by simp [le, aX k]
def u64 (n : Int) : Nat := (n % 18446744073709551616).toNat
def gS (n : Int) : Bs := le 8 (u64 n)
def text (s : Bs) : Bs := le 2 s.length ++ s
abbrev Rd := Option Bs
def take (k : Nat) : Rd → Bs × Rd
 | none => ([], none)
 | some l => if l.length < k then ([], none) else (l.take k, some (l.drop k))
def get (k : Nat) (r : Rd) : Nat × Rd := (un (take k r).1, (take k r).2)
structure pS where
 kind : Int
 n : Int
 s : Bs
deriving DecidableEq
structure sj where
 table : Bs
 row : List pS
 remove : Bool
deriving DecidableEq
structure vx where
 aB : Int
 seq : Int
 kind : Int
 name : Bs
 text : Bs
 bL : List (Bs × Int)
 changes : List sj
deriving DecidableEq
def small (n : Int) : Bool := decide (-2147483648 ≤ n) && decide (n ≤ 2147483647)
def short (s : Bs) : Bool := decide (s.length ≤ 65535)
def fw (n : Int) : Prop := -9223372036854775808 ≤ n ∧ n ≤ 9223372036854775807
def eT (v : pS) : Bool := small v.kind && short v.s
def gF (c : sj) : Bool := short c.table && decide (c.row.length ≤ 255) && c.row.all eT
def takes (e : vx) : Bool := small e.aB && small e.seq && small e.kind && short e.name && short e.text && decide (e.bL.length ≤ 255) && decide (e.changes.length ≤ 255) &&
 e.bL.all (fun c => short c.1 && small c.2) && e.changes.all gF
def oz (v : pS) : Bs := gS v.kind ++ gS v.n ++ Cod.text v.s
def oA (c : sj) : Bs := Cod.text c.table ++ le 1 c.row.length ++ c.row.flatMap oz ++ le 1 (if c.remove then 1 else 0)
def oB (c : Bs × Int) : Bs := Cod.text c.1 ++ gS c.2
def enc (e : vx) : Bs := gS e.aB ++ gS e.seq ++ gS e.kind ++ Cod.text e.name ++ Cod.text e.text ++ le 1 e.bL.length ++ e.bL.flatMap oB ++ le 1 e.changes.length ++ e.changes.flatMap oA
def many {α : Type} (f : Rd → α × Rd) : Nat → Rd → List α × Rd
 | 0, r => ([], r)
 | k + 1, r => let (a, r1) := f r; let (l, r2) := many f k r1; (a :: l, r2)
theorem Dt {n : Int} (h : small n = true) : -9223372036854775808 ≤ n ∧ n ≤ 9223372036854775807 := by
 unfold small at h
 simp only [Bool.and_eq_true, decide_eq_true_eq] at h
 omega
def fits (e : vx) : Prop := ∀ c, c ∈ e.changes → ∀ v, v ∈ c.row → fw v.n
end Go.Cod
namespace Go.Cod
structure lK where
 kind : Int
 aB : Int
 node : Int
 n : Int
 name : Bs
 entry : vx
deriving DecidableEq
def gh (k : Int) : Int := if k < -1000 ∨ 1000 < k then 0 else k
def pD (v : pS) : pS := ⟨gh v.kind, v.n, v.s.take 41⟩
def kq (c : sj) : sj := ⟨c.table.take 20, (c.row.take 7).map pD, c.remove⟩
def aG (e : vx) : vx := ⟨e.aB, e.seq, e.kind, e.name.take 20, e.text.take 700, ((e.bL.take 8).takeWhile fun c => decide (c.1.length ≤ 20)).map fun c => (c.1, gh c.2), (e.changes.take 9).map kq⟩
def aL (s : lK) : lK := { s with entry := aG s.entry }
def dX (s : lK) : Bool := !(decide (s.kind < 1) || decide (9 < s.kind) || !small s.aB || !small s.node || !small s.n || decide (255 < s.name.length) || !small s.entry.aB || !small s.entry.seq || !small s.entry.kind || decide (255 < s.entry.bL.length) || decide (255 < s.entry.changes.length)) &&
 (s.entry.bL.all fun c => small c.2) && (s.entry.changes.all fun c => !decide (255 < c.row.length) && c.row.all fun v => small v.kind)
def eo (s : lK) : Bool := small s.aB && small s.node && small s.n && (decide (1 ≤ s.kind) && decide (s.kind ≤ 9) && decide (s.name.length ≤ 255) && takes s.entry)
def gP (s : lK) : Bs := le 1 (u64 s.kind) ++ (gS s.aB ++ (gS s.node ++ (gS s.n ++ (Cod.text s.name ++ Cod.text (enc s.entry)))))
theorem mf (k : Int) : small (gh k) = true := by
 unfold gh small
 split <;> simp <;> omega
theorem yi (v : pS) : eT (pD v) = true := by
 unfold eT pD short
 simp only [mf, List.length_take, Bool.true_and, decide_eq_true_eq]
 omega
theorem yj (c : sj) : gF (kq c) = true := by
 unfold gF kq short
 simp only [List.length_take, List.length_map, Bool.and_eq_true, decide_eq_true_eq, List.all_eq_true, List.mem_map]
 refine ⟨⟨by omega, by omega⟩, ?_⟩
 rintro v ⟨x, _, rfl⟩
 exact yi x
theorem il {α : Type} {p : α → Bool} : ∀ {l : List α} {a : α}, a ∈ l.takeWhile p → p a = true
 | [], _, h => by simp at h
 | b :: l, a, h => by
  rw [List.takeWhile_cons] at h
  split at h
  ·rename_i hb
   rcases List.mem_cons.1 h with rfl | h
   ·exact hb
   ·exact il h
  ·simp at h
theorem xZ (s : lK) : eo (aL s) = dX (aL s) := by
 have h1 : (aG s.entry).bL.all (fun c => short c.1 && small c.2) = true := by
  unfold aG short
  simp only [List.all_eq_true, List.mem_map, Bool.and_eq_true, decide_eq_true_eq]
  rintro c ⟨x, hx, rfl⟩
  have := il hx
  simp only [decide_eq_true_eq] at this
  exact ⟨by simp only; omega, mf _⟩
 have h2 : (aG s.entry).changes.all gF = true := by
  unfold aG
  simp only [List.all_eq_true, List.mem_map]
  rintro c ⟨x, _, rfl⟩
  exact yj x
 have h3 : (aG s.entry).bL.all (fun c => small c.2) = true := by
  rw [List.all_eq_true] at h1 ⊢
  intro c hc
  have := h1 c hc
  rw [Bool.and_eq_true] at this
  exact this.2
 have h4 : (aG s.entry).changes.all (fun c => !decide (255 < c.row.length) && c.row.all fun v => small v.kind) = true := by
  rw [List.all_eq_true] at h2 ⊢
  intro c hc
  have := h2 c hc
  unfold gF eT at this
  simp only [Bool.and_eq_true, decide_eq_true_eq, List.all_eq_true] at this
  simp only [Bool.and_eq_true, Bool.not_eq_true', decide_eq_false_iff_not, List.all_eq_true]
  exact ⟨by omega, fun v hv => (this.2 v hv).1⟩
 have h5 : (aG s.entry).bL.length ≤ 8 := by
  unfold aG
  simp only [List.length_map]
  exact Nat.le_trans (List.takeWhile_sublist _).length_le (by simp; omega)
 have h6 : (aG s.entry).changes.length ≤ 9 := by
  unfold aG
  simp only [List.length_map, List.length_take]
  omega
 have h7 : (aG s.entry).name.length ≤ 20 ∧ (aG s.entry).text.length ≤ 700 := by
  unfold aG
  simp only [List.length_take]
  omega
 have e : (aL s).entry = aG s.entry := rfl
 unfold eo dX takes
 rw [e, h1, h2, h3, h4]
 have a1 : decide (255 < (aG s.entry).bL.length) = false := by simp; omega
 have a2 : decide (255 < (aG s.entry).changes.length) = false := by simp; omega
 have a3 : decide ((aG s.entry).bL.length ≤ 255) = true := by simp; omega
 have a4 : decide ((aG s.entry).changes.length ≤ 255) = true := by simp; omega
 have a5 : short (aG s.entry).name = true := by unfold short; simp; omega
 have a6 : short (aG s.entry).text = true := by unfold short; simp; omega
 have b1 : decide ((aL s).kind < 1) = !decide (1 ≤ (aL s).kind) := by
  by_cases h : 1 ≤ (aL s).kind <;> simp [h] <;> omega
 have b2 : decide (9 < (aL s).kind) = !decide ((aL s).kind ≤ 9) := by
  by_cases h : (aL s).kind ≤ 9 <;> simp [h] <;> omega
 have b3 : decide (255 < (aL s).name.length) = !decide ((aL s).name.length ≤ 255) := by
  by_cases h : (aL s).name.length ≤ 255 <;> simp [h] <;> omega
 rw [a1, a2, a3, a4, a5, a6, b1, b2, b3]
 cases small (aL s).aB <;> cases small (aL s).node <;> cases small (aL s).n <;> cases decide (1 ≤ (aL s).kind) <;> cases decide ((aL s).kind ≤ 9) <;> cases decide ((aL s).name.length ≤ 255) <;>
  cases small (aG s.entry).aB <;> cases small (aG s.entry).seq <;> cases small (aG s.entry).kind <;> rfl
theorem aC (n : Int) : (gS n).length = 8 := aX 8 _
theorem aJ (s : Bs) : (Cod.text s).length = 2 + s.length := by unfold Cod.text; simp [aX]
theorem qB {α : Type} {f : α → Bs} {k : Nat} : ∀ {l : List α}, (∀ a, a ∈ l → (f a).length ≤ k) → (l.flatMap f).length ≤ l.length * k
 | [], _ => by simp
 | a :: l, h => by
  have h1 := h a (by simp)
  have h2 := qB (l := l) fun b hb => h b (by simp [hb])
  simp only [List.flatMap_cons, List.length_append, List.length_cons, Nat.add_mul]
  omega
theorem AW (e : vx) : (enc (aG e)).length ≤ 65535 := by
 have h5 : (aG e).bL.length ≤ 8 := by
  unfold aG
  simp only [List.length_map]
  exact Nat.le_trans (List.takeWhile_sublist _).length_le (by simp; omega)
 have h6 : (aG e).changes.length ≤ 9 := by
  unfold aG
  simp only [List.length_map, List.length_take]
  omega
 have h7 : (aG e).name.length ≤ 20 ∧ (aG e).text.length ≤ 700 := by
  unfold aG
  simp only [List.length_take]
  omega
 have c1 : ((aG e).bL.flatMap oB).length ≤ (aG e).bL.length * 30 := qB fun c hc => by
  unfold aG at hc
  simp only [List.mem_map] at hc
  obtain ⟨x, hx, rfl⟩ := hc
  have := il hx
  simp only [decide_eq_true_eq] at this
  unfold oB
  simp only [List.length_append, aJ, aC]
  omega
 have c2 : ((aG e).changes.flatMap oA).length ≤ (aG e).changes.length * 500 := qB fun c hc => by
  unfold aG at hc
  simp only [List.mem_map] at hc
  obtain ⟨x, _, rfl⟩ := hc
  have h1 : ((kq x).row.flatMap oz).length ≤ (kq x).row.length * 59 := qB fun v hv => by
   unfold kq at hv
   simp only [List.mem_map] at hv
   obtain ⟨y, _, rfl⟩ := hv
   unfold oz pD
   simp only [List.length_append, aJ, aC, List.length_take]
   omega
  have h2 : (kq x).row.length ≤ 7 := by unfold kq; simp; omega
  have h3 : (kq x).table.length ≤ 20 := by unfold kq; simp; omega
  unfold oA
  simp only [List.length_append, aJ, aX]
  omega
 unfold enc
 simp only [List.length_append, aJ, aC, aX]
 omega
end Go.Cod
namespace Go.Am
open Go.Cod
noncomputable section
def dD {α : Type} (h : Hp) (es : Nat) (f : List AV → α → Prop) (x : AV) (xs : List α) : Prop :=
 ∃ q o, ((∃ cap, xs.length ≤ cap ∧ x = .slice q o xs.length cap) ∨ x = .fN q o xs.length es ∨ (x = .ak ∧ xs = [])) ∧ ∀ i (hi : i < xs.length), ∃ l, l.length = es ∧ Cs h q (o + i * es) l ∧ f l xs[i]
abbrev cD (s : Bs) : AV := .str (s.map UInt8.toNat)
abbrev i64 (n : Int) : AV := .int .i64 n
def lN (v : pS) : List AV := [i64 v.kind, i64 v.n, cD v.s]
def eL (h : Hp) (x : AV) (r : List pS) : Prop := dD h 3 (fun l v => l = lN v) x r
def OW (x : AV) (c : sj) : List AV := [cD c.table, x, .bool c.remove]
def fP (h : Hp) (l : List AV) (c : sj) : Prop := ∃ x, l = OW x c ∧ eL h x c.row
def bw (h : Hp) (x : AV) (l : List sj) : Prop := dD h 3 (fP h) x l
def aN (h : Hp) (x : AV) (l : List (Bs × Int)) : Prop := dD h 2 (fun l c => l = [cD c.1, i64 c.2]) x l
def dY (x y : AV) (e : vx) : List AV := [i64 e.aB, i64 e.seq, i64 e.kind, cD e.name, cD e.text, x, y]
def DV (h : Hp) (l : List AV) (e : vx) : Prop := ∃ x y, l = dY x y e ∧ aN h x e.bL ∧ bw h y e.changes
def gu (x y : AV) (s : lK) : List AV := [i64 s.kind, i64 s.aB, i64 s.node, i64 s.n, cD s.name] ++ dY x y s.entry
def en (h : Hp) (l : List AV) (s : lK) : Prop := ∃ x y, l = gu x y s ∧ aN h x s.entry.bL ∧ bw h y s.entry.changes
def du (h : Hp) (x : AV) (l : List lK) : Prop := dD h 12 (en h) x l
def dL (P : Program) (t : TypeId) : Option (List TypeId) := match P.underlying t with
 | some (.struct fs) => some (fs.toList.map (·.type))
 | _ => none
def gw (P : Program) (t : TypeId) : Option (TypeId × Nat) := match P.underlying t with
 | some (.slice e) => some (e, P.cellsOf e)
 | _ => none
section
variable {H : Type} {P : Program} {h : Hp} {rec : TypeId → List AV → DataW H → Prop} {t : TypeId} {cs : List AV} {d : DataW H}
inductive Ct (rec : TypeId → List AV → DataW H → Prop) : List TypeId → List (List AV) → List (DataW H) → Prop
 | nil : Ct rec [] [] []
 | cons (t : TypeId) (l : List AV) (p : DataW H) (ts : List TypeId) (ls : List (List AV)) (ps : List (DataW H)) : rec t l p → Ct rec ts ls ps → Ct rec (t :: ts) (l :: ls) (p :: ps)
theorem Ct.of : ∀ {ts : List TypeId} {ls : List (List AV)} {ps : List (DataW H)}, ls.length = ts.length → ps.length = ts.length → (∀ (i : Nat) (t : TypeId), ts[i]? = some t → ∃ l p, ls[i]? = some l ∧ ps[i]? = some p ∧ rec t l p) → Ct rec ts ls ps
 | [], [], [], _, _, _ => .nil
 | t :: ts, l :: ls, p :: ps, h1, h2, g => by
  obtain ⟨l', p', e1, e2, e3⟩ := g 0 t rfl
  simp at e1 e2
  subst e1 e2
  exact .cons t l p ts ls ps e3 (Ct.of (by simpa using h1) (by simpa using h2) fun i u hu => by simpa using g (i + 1) u (by simpa using hu))
 | [], _ :: _, _, h1, _, _ => by simp at h1
 | [], [], _ :: _, _, h2, _ => by simp at h2
 | _ :: _, [], _, h1, _, _ => by simp at h1
 | _ :: _, _ :: _, [], _, h2, _ => by simp at h2
theorem Ct.inv {ts : List TypeId} {ls : List (List AV)} {ps : List (DataW H)} (a : Ct rec (t :: ts) ls ps) : ∃ l ls' p ps', ls = l :: ls' ∧ ps = p :: ps' ∧ rec t l p ∧ Ct rec ts ls' ps' := by
 cases a with | cons _ l p _ ls ps h1 h2 => exact ⟨l, ls, p, ps, rfl, rfl, h1, h2⟩
theorem Ct.none {ls : List (List AV)} {ps : List (DataW H)} (a : Ct rec [] ls ps) : ls = [] ∧ ps = [] := by cases a; exact ⟨rfl, rfl⟩
theorem fE.struct {ts : List TypeId} (hs : dL P t = some ts) (r : fE P h rec t cs d) : ∃ ls ps, cs = ls.flatten ∧ d = .agg ps ∧ Ct rec ts ls ps := by
 unfold dL at hs
 unfold fE at r
 split at hs
 ·rename_i fs hu
  rw [hu] at r
  obtain ⟨ps, ls, e1, e2, e3, e4, g⟩ := r
  cases hs
  refine ⟨ls, ps, e1, e2, .of (by simp [e4]) (by simp [e3]) fun i t ht => ?_⟩
  simp only [List.getElem?_map, Option.map_eq_some_iff] at ht
  obtain ⟨f, hf, rfl⟩ := ht
  obtain ⟨l, p, a, b, _, c⟩ := g i f (by simpa using hf)
  exact ⟨l, p, a, b, c⟩
 ·cases hs
theorem fE.int {k : IntKind} (hu : P.underlying t = some (.int k)) (r : fE P h rec t cs d) : ∃ z, cs = [.int k z] ∧ d = .lit (.int k z) ∧ (Lit.int k z).wf = true := by
 unfold fE at r
 rw [hu] at r
 exact r
theorem fE.str (hu : P.underlying t = some .string) (r : fE P h rec t cs d) : ∃ s : List UInt8, cs = [cD s] ∧ d = .lit (.string s) := by
 unfold fE at r
 rw [hu] at r
 exact r
theorem fE.bool (hu : P.underlying t = some .bool) (r : fE P h rec t cs d) : ∃ b, cs = [.bool b] ∧ d = .lit (.bool b) := by
 unfold fE at r
 rw [hu] at r
 exact r
structure lA (bk : DataW H → Nat) (bkA : List (DataW H) → Nat) : Prop where
 str : ∀ b, bk (.lit (.string b)) = b.length + 1
 slice : ∀ e s, bk (.slice e s) = bkA e + bkA s + 1
 agg : ∀ p, bk (.agg p) = bkA p + 1
 nil : bkA [] = 0
 cons : ∀ d r, bkA (d :: r) = bk d + bkA r
 pos : ∀ d, 1 ≤ bk d
variable {bk : DataW H → Nat} {bkA : List (DataW H) → Nat}
theorem lA.len (K : lA bk bkA) : ∀ l : List (DataW H), l.length ≤ bkA l
 | [] => by simp
 | d :: l => by
  have := K.len l
  have := K.pos d
  rw [K.cons]
  simp
  omega
theorem lA.mem (K : lA bk bkA) {d : DataW H} : ∀ {l : List (DataW H)}, d ∈ l → bk d ≤ bkA l
 | e :: l, hm => by
  rw [K.cons]
  rcases List.mem_cons.1 hm with rfl | hm
  ·omega
  ·have := K.mem hm
   omega
theorem fE.slice (K : lA bk bkA) {α : Type} {f : List AV → α → Prop} {Q : α → Prop} {e : TypeId} {es B : Nat} (hs : gw P t = some (e, es)) (r : fE P h rec t cs d) (hB : bk d ≤ B)
  (g : ∀ l d, rec e l d → bk d ≤ B → ∃ a, f l a ∧ Q a) : ∃ x xs, cs = [x] ∧ dD h es f x xs ∧ xs.length ≤ B ∧ ∀ a, a ∈ xs → Q a := by
 unfold gw at hs
 unfold fE at r
 split at hs
 ·rename_i e' hu
  rw [hu] at r
  cases hs
  rcases r with ⟨rfl, rfl⟩ | ⟨p, cap, elems, rest, ls, rfl, hcap, rfl, hl, hr⟩
  ·exact ⟨.ak, [], rfl, ⟨.eM 0 0, 0, .inr (.inr ⟨rfl, rfl⟩), fun i hi => by simp at hi⟩, by simp, fun a ha => by simp at ha⟩
  ·have hel := K.len elems
   rw [K.slice] at hB
   have mk : ∀ (k : Nat), k ≤ elems.length → ∃ xs : List α, xs.length = k ∧ (∀ i (hi : i < xs.length), ∃ l, l.length = P.cellsOf e ∧ Cs h p (i * P.cellsOf e) l ∧ f l xs[i]) ∧ ∀ a, a ∈ xs → Q a := by
    intro k
    induction k with
    | zero => exact fun _ => ⟨[], rfl, fun i hi => by simp at hi, fun a ha => by simp at ha⟩
    | succ k ih =>
     intro hk
     obtain ⟨xs, e1, e2, e3⟩ := ih (by omega)
     obtain ⟨c1, c2, c3⟩ := hr k (by omega) (by omega)
     have hm := K.mem (List.getElem_mem (show k < elems.length by omega))
     obtain ⟨a, ha, hq⟩ := g _ _ c3 (by omega)
     refine ⟨xs ++ [a], by simp [e1], fun i hi => ?_, fun b hb => ?_⟩
     ·by_cases hik : i < xs.length
      ·obtain ⟨l, l1, l2, l3⟩ := e2 i hik
       exact ⟨l, l1, l2, by rw [List.getElem_append_left hik]; exact l3⟩
      ·have : i = k := by simp [e1] at hi; omega
       subst this
       refine ⟨_, c2, c1, ?_⟩
       rw [List.getElem_append_right (by omega)]
       simp only [e1, Nat.sub_self, List.getElem_cons_zero]
       exact ha
     ·rcases List.mem_append.1 hb with hb | hb
      ·exact e3 b hb
      ·simp at hb
       rw [hb]; exact hq
   obtain ⟨xs, e1, e2, e3⟩ := mk elems.length (Nat.le_refl _)
   refine ⟨_, xs, rfl, ⟨p, 0, .inl ⟨cap, by omega, by rw [e1]⟩, fun i hi => ?_⟩, by omega, e3⟩
   obtain ⟨l, l1, l2, l3⟩ := e2 i hi
   exact ⟨l, l1, by rw [Nat.zero_add]; exact l2, l3⟩
 ·cases hs
theorem lO {z : Int} (h : (Lit.int .i64 z).wf = true) : fw z := by
 simp only [Lit.wf, Bool.and_eq_true, decide_eq_true_eq] at h
 exact ⟨h.1, h.2⟩
structure eJ (P : Program) (tI tN tT tB tV tR tG tGs tC tCs tE tS tL : TypeId) : Prop where
 i : P.underlying tI = some (.int .i64)
 n : P.underlying tN = some (.int .i64)
 t : P.underlying tT = some .string
 b : P.underlying tB = some .bool
 v : dL P tV = some [tI, tN, tT]
 r : gw P tR = some (tV, 3)
 g : dL P tG = some [tT, tR, tB]
 gs : gw P tGs = some (tG, 3)
 c : dL P tC = some [tT, tI]
 cs : gw P tCs = some (tC, 2)
 e : dL P tE = some [tI, tI, tI, tT, tT, tCs, tGs]
 s : dL P tS = some [tI, tI, tI, tI, tT, tE]
 l : gw P tL = some (tS, 12)
def OX (B : Nat) (v : pS) : Prop := fw v.kind ∧ fw v.n ∧ v.s.length ≤ B
def PH (B : Nat) (c : sj) : Prop := c.table.length ≤ B ∧ c.row.length ≤ B ∧ ∀ v, v ∈ c.row → OX B v
def Dv (B : Nat) (e : vx) : Prop := fw e.aB ∧ fw e.seq ∧ fw e.kind ∧ e.name.length ≤ B ∧ e.text.length ≤ B ∧ e.bL.length ≤ B ∧ (∀ c, c ∈ e.bL → c.1.length ≤ B ∧ fw c.2) ∧ e.changes.length ≤ B ∧ ∀ c, c ∈ e.changes → PH B c
def HB (B : Nat) (s : lK) : Prop := fw s.kind ∧ fw s.aB ∧ fw s.node ∧ fw s.n ∧ s.name.length ≤ B ∧ Dv B s.entry
variable {tI tN tT tB tV tR tG tGs tC tCs tE tS tL : TypeId} {B n : Nat}
theorem rd_val (T : eJ P tI tN tT tB tV tR tG tGs tC tCs tE tS tL) (K : lA bk bkA) {l : List AV} (r : sk P h (n + 2) tV l d) (hB : bk d ≤ B) : ∃ v, l = lN v ∧ OX B v := by
 obtain ⟨ls, ps, rfl, rfl, a⟩ := fE.struct T.v r
 obtain ⟨_, _, _, _, rfl, rfl, a0, a⟩ := a.inv; obtain ⟨_, _, _, _, rfl, rfl, a1, a⟩ := a.inv; obtain ⟨_, _, _, _, rfl, rfl, a2, a⟩ := a.inv; obtain ⟨rfl, rfl⟩ := a.none
 obtain ⟨z0, rfl, rfl, w0⟩ := fE.int T.i a0
 obtain ⟨z1, rfl, rfl, w1⟩ := fE.int T.n a1
 obtain ⟨s, rfl, rfl⟩ := fE.str T.t a2
 rw [K.agg] at hB
 have := K.mem (l := [DataW.lit (.int .i64 z0), .lit (.int .i64 z1), .lit (.string s)]) (d := .lit (.string s)) (by simp)
 rw [K.str] at this
 exact ⟨⟨z0, z1, s⟩, rfl, lO w0, lO w1, by simp only; omega⟩
theorem KZ (T : eJ P tI tN tT tB tV tR tG tGs tC tCs tE tS tL) (K : lA bk bkA) {l : List AV} (r : sk P h (n + 3) tR l d) (hB : bk d ≤ B) : ∃ x row, l = [x] ∧ eL h x row ∧ row.length ≤ B ∧ ∀ v, v ∈ row → OX B v :=
 fE.slice K T.r r hB fun _ _ r hb => rd_val T K r hb
theorem La (T : eJ P tI tN tT tB tV tR tG tGs tC tCs tE tS tL) (K : lA bk bkA) {l : List AV} (r : sk P h (n + 4) tG l d) (hB : bk d ≤ B) : ∃ c, fP h l c ∧ PH B c := by
 obtain ⟨ls, ps, rfl, rfl, a⟩ := fE.struct T.g r
 obtain ⟨_, _, p0, _, rfl, rfl, a0, a⟩ := a.inv; obtain ⟨_, _, p1, _, rfl, rfl, a1, a⟩ := a.inv; obtain ⟨_, _, p2, _, rfl, rfl, a2, a⟩ := a.inv; obtain ⟨rfl, rfl⟩ := a.none
 rw [K.agg] at hB
 have h0 := K.mem (l := [p0, p1, p2]) (d := p0) (by simp)
 have h1 := K.mem (l := [p0, p1, p2]) (d := p1) (by simp)
 obtain ⟨s, rfl, rfl⟩ := fE.str T.t a0
 obtain ⟨x, row, rfl, hr, hl, hv⟩ := KZ T K a1 (B := B) (by omega)
 obtain ⟨b, rfl, rfl⟩ := fE.bool T.b a2
 rw [K.str] at h0
 exact ⟨⟨s, row, b⟩, ⟨x, rfl, hr⟩, by simp only; omega, hl, hv⟩
theorem Lc (T : eJ P tI tN tT tB tV tR tG tGs tC tCs tE tS tL) (K : lA bk bkA) {l : List AV} (r : sk P h (n + 2) tC l d) (hB : bk d ≤ B) : ∃ c : Bs × Int, l = [cD c.1, i64 c.2] ∧ c.1.length ≤ B ∧ fw c.2 := by
 obtain ⟨ls, ps, rfl, rfl, a⟩ := fE.struct T.c r
 obtain ⟨_, _, p0, _, rfl, rfl, a0, a⟩ := a.inv; obtain ⟨_, _, p1, _, rfl, rfl, a1, a⟩ := a.inv; obtain ⟨rfl, rfl⟩ := a.none
 rw [K.agg] at hB
 have h0 := K.mem (l := [p0, p1]) (d := p0) (by simp)
 obtain ⟨s, rfl, rfl⟩ := fE.str T.t a0
 obtain ⟨z, rfl, rfl, w⟩ := fE.int T.i a1
 rw [K.str] at h0
 exact ⟨(s, z), rfl, by simp only; omega, lO w⟩
theorem Ld (T : eJ P tI tN tT tB tV tR tG tGs tC tCs tE tS tL) (K : lA bk bkA) {l : List AV} (r : sk P h (n + 6) tE l d) (hB : bk d ≤ B) : ∃ e, DV h l e ∧ Dv B e := by
 obtain ⟨ls, ps, rfl, rfl, a⟩ := fE.struct T.e r
 obtain ⟨_, _, p0, _, rfl, rfl, a0, a⟩ := a.inv; obtain ⟨_, _, p1, _, rfl, rfl, a1, a⟩ := a.inv; obtain ⟨_, _, p2, _, rfl, rfl, a2, a⟩ := a.inv; obtain ⟨_, _, p3, _, rfl, rfl, a3, a⟩ := a.inv; obtain ⟨_, _, p4, _, rfl, rfl, a4, a⟩ := a.inv; obtain ⟨_, _, p5, _, rfl, rfl, a5, a⟩ := a.inv; obtain ⟨_, _, p6, _, rfl, rfl, a6, a⟩ := a.inv; obtain ⟨rfl, rfl⟩ := a.none
 rw [K.agg] at hB
 have h3 := K.mem (l := [p0, p1, p2, p3, p4, p5, p6]) (d := p3) (by simp)
 have h4 := K.mem (l := [p0, p1, p2, p3, p4, p5, p6]) (d := p4) (by simp)
 have h5 := K.mem (l := [p0, p1, p2, p3, p4, p5, p6]) (d := p5) (by simp)
 have h6 := K.mem (l := [p0, p1, p2, p3, p4, p5, p6]) (d := p6) (by simp)
 obtain ⟨z0, rfl, rfl, w0⟩ := fE.int T.i a0
 obtain ⟨z1, rfl, rfl, w1⟩ := fE.int T.i a1
 obtain ⟨z2, rfl, rfl, w2⟩ := fE.int T.i a2
 obtain ⟨s, rfl, rfl⟩ := fE.str T.t a3
 obtain ⟨s', rfl, rfl⟩ := fE.str T.t a4
 obtain ⟨x, bL, rfl, hx, hl, hc⟩ := fE.slice (f := fun l (c : Bs × Int) => l = [cD c.1, i64 c.2]) (Q := fun c : Bs × Int => c.1.length ≤ B ∧ fw c.2) K T.cs a5 (B := B) (by omega) fun _ _ r hb => Lc (n := n + 2) T K r hb
 obtain ⟨y, chs, rfl, hy, hm, hg⟩ := fE.slice K T.gs a6 (B := B) (by omega) fun _ _ r hb => La T K r hb
 rw [K.str] at h3 h4
 exact ⟨⟨z0, z1, z2, s, s', bL, chs⟩, ⟨x, y, rfl, hx, hy⟩, lO w0, lO w1, lO w2, by simp only; omega, by simp only; omega, hl, hc, hm, hg⟩
theorem Le (T : eJ P tI tN tT tB tV tR tG tGs tC tCs tE tS tL) (K : lA bk bkA) {l : List AV} (r : sk P h (n + 7) tS l d) (hB : bk d ≤ B) : ∃ s, en h l s ∧ HB B s := by
 obtain ⟨ls, ps, rfl, rfl, a⟩ := fE.struct T.s r
 obtain ⟨_, _, p0, _, rfl, rfl, a0, a⟩ := a.inv; obtain ⟨_, _, p1, _, rfl, rfl, a1, a⟩ := a.inv; obtain ⟨_, _, p2, _, rfl, rfl, a2, a⟩ := a.inv; obtain ⟨_, _, p3, _, rfl, rfl, a3, a⟩ := a.inv; obtain ⟨_, _, p4, _, rfl, rfl, a4, a⟩ := a.inv; obtain ⟨_, _, p5, _, rfl, rfl, a5, a⟩ := a.inv; obtain ⟨rfl, rfl⟩ := a.none
 rw [K.agg] at hB
 have h4 := K.mem (l := [p0, p1, p2, p3, p4, p5]) (d := p4) (by simp)
 have h5 := K.mem (l := [p0, p1, p2, p3, p4, p5]) (d := p5) (by simp)
 obtain ⟨z0, rfl, rfl, w0⟩ := fE.int T.i a0
 obtain ⟨z1, rfl, rfl, w1⟩ := fE.int T.i a1
 obtain ⟨z2, rfl, rfl, w2⟩ := fE.int T.i a2
 obtain ⟨z3, rfl, rfl, w3⟩ := fE.int T.i a3
 obtain ⟨s, rfl, rfl⟩ := fE.str T.t a4
 obtain ⟨e, ⟨x, y, rfl, hx, hy⟩, he⟩ := Ld T K a5 (B := B) (by omega)
 rw [K.str] at h4
 exact ⟨⟨z0, z1, z2, z3, s, e⟩, ⟨x, y, by simp [gu, dY, i64], hx, hy⟩, lO w0, lO w1, lO w2, lO w3, by simp only; omega, he⟩
theorem HD (T : eJ P tI tN tT tB tV tR tG tGs tC tCs tE tS tL) (K : lA bk bkA) {l : List AV} (r : sk P h (n + 8) tL l d) (hB : bk d ≤ B) : ∃ x xs, l = [x] ∧ du h x xs ∧ xs.length ≤ B ∧ ∀ s, s ∈ xs → HB B s :=
 fE.slice K T.l r hB fun _ _ r hb => Le T K r hb
end
end
end Go.Am
namespace Go.Am.Seat
open Go.Cod
noncomputable section
structure Bg (p : Pg) : Prop where
 e12 : aw 12 p.fs = f12
 e13 : aw 13 p.fs = f13
 e15 : aw 15 p.fs = f15
 e16 : aw 16 p.fs = f16
 e18 : aw 18 p.fs = f18
 e27 : aw 27 p.fs = f27
 e28 : aw 28 p.fs = f28
 e29 : aw 29 p.fs = f29
def bc (s : Bs) : List AV := s.map fun b => AV.int .u8 (b.toNat : Int)
theorem ef (s : Bs) : (bc s).length = s.length := by simp [bc]
theorem DW (s t : Bs) : bc (s ++ t) = bc s ++ bc t := by simp [bc]
structure Wr (h0 h : Hp) (q : P4) (s : Bs) : Prop where
 old : Old h0 h
 wf : Wf h
 new : ah q h0 = .none
 ob : ∃ sv, sv.one = true ∧ Ob h q 78 true .plain [sv] ∧ jR h sv 5 1 (bc s) fun j => ah j h0 = .none ∧ j ≠ q
variable {p : Pg} {h0 h h' : Hp} {q : P4} {s : Bs}
theorem uH {x : AV} {el es : Nat} {l : List AV} {b : P4 → Prop} (w : jR h x el es l b) : x.one = true := by
 rcases w with ⟨_, rfl | ⟨q, rfl⟩⟩ | ⟨q, n, rfl, _⟩ <;> rfl
theorem Wr.app (w : Wr h0 h q s) {sv : AV} (ho : Ob h q 78 true .plain [sv]) (hw : jR h sv 5 1 (bc s) fun j => ah j h0 = .none ∧ j ≠ q) (t : Bs) (hl : s.length + t.length ≤ 16777216) :
  ∃ x h1 h2, kE 5 1 t.length (bc t) sv h = .ok x h1 ∧ sT (.ptr q 0) x h1 = .ok .undef h2 ∧ Wr h0 h2 q (s ++ t) := by
 obtain ⟨x, h1, e1, e2, e3, e4⟩ := iK (m := t.length) w.wf hw (by omega) (new := bc t) (by simp [ef]) (by simpa [ef] using hl)
 have hq : ah q h1 = ah q h := e4 q ho.ne (fun g => g.2 rfl)
 have ho1 := ho.eq hq
 obtain ⟨h2, f1, f2, f3, f4⟩ := jL (k := 0) ho1 (by simp) (uH e2)
 refine ⟨x, h1, h2, e1, f1, ⟨fun j hj => ?_, ?_, w.new, x, uH e2, f2, ?_⟩⟩
 ·have hjq : j ≠ q := fun g => by rw [g] at hj; exact hj w.new
  rw [f3 j hjq, e4 j (by rw [w.old j hj]; exact hj) (fun g => hj g.1), w.old j hj]
 ·exact e3.of f4 fun j hj => by
   by_cases g : j = q
   ·rw [g, hq] at hj
    exact absurd hj ho.ne
   ·rw [f3 j g]; exact hj
 ·rw [DW]
  refine (e2.mono fun j hj => ?_).old fun j hj _ => f3 j hj.2
  rcases hj with hj | hj
  ·exact hj
  ·exact ⟨w.old.none hj, fun g => by rw [g] at hj; exact ho.ne hj⟩
theorem Wr.up (w : Wr h0 h q s) (O : Old h h') (W : Wf h') : Wr h0 h' q s := by
 obtain ⟨sv, e1, e2, e3⟩ := w.ob
 exact ⟨w.old.trans O, W, w.new, sv, e1, e2.old O, e3.old fun j _ hj => O j hj⟩
theorem Wr.qN (w : Wr h0 h q s) (t : Bs) {m : Nat} (hm : t.length = m) {z : List AV} {ps : List Part} (hf : fits ps .nil = true) (hz : fill ps .nil z = bc t) (hl : s.length + t.length ≤ 16777216) :
  ∃ sv l h1 x h2 h3, Seat.lD (.ptr q 0) h = .ok sv h ∧ Seat.bs 5 1 m z ps h = .ok l h1 ∧ dW 5 1 sv l h1 = .ok x h2 ∧ sT (.ptr q 0) x h2 = .ok .undef h3 ∧ Wr h0 h3 q (s ++ t) := by
 subst hm
 obtain ⟨sv, e1, e2, e3⟩ := w.ob
 obtain ⟨j, h1, f1, f2, f3, f4, f5, f6⟩ := iD (el := 5) (es := 1) (n := t.length) w.wf hf hz (by simp [ef]; omega)
 have w1 := w.up f4 f5
 obtain ⟨x, h2, h3, g1, g2, g3⟩ := w1.app (e2.old f4) (e3.old fun j _ hj => f4 j hj) t hl
 refine ⟨sv, _, h1, x, h2, h3, yf (e2.cs (k := 0) (m := [sv]) (fun j hj => ⟨by omega, by simp⟩) (by simp)) (by simp), f1, ?_, g2, g3⟩
 rw [gU (m := t.length) (q := j) (o := 0) (l := bc t) (.inl ⟨_, rfl⟩) (by omega) (fun _ => f3.cs (k := 0) (fun j hj => ⟨by omega, by simp⟩) (by simp)) (by simp [ef]) (by omega)]
 exact g1
theorem w8 (n : Int) : IntKind.u8.wrap n = n % 256 := rfl
theorem w64 (n : Int) : IntKind.u64.wrap n = n % 18446744073709551616 := rfl
theorem Bh (n : Int) (h : fw n) : IntKind.i64.wrap n = n := by
 unfold fw at h
 unfold IntKind.wrap
 dsimp only
 split
 ·rename_i g
  rw [Bool.and_eq_true, decide_eq_true_eq] at g
  have g1 : n % 18446744073709551616 ≥ 9223372036854775808 := g.2
  show n % 18446744073709551616 - 18446744073709551616 = n
  omega
 ·rename_i g
  rw [Bool.and_eq_true, decide_eq_true_eq] at g
  have g1 : ¬ n % 18446744073709551616 ≥ 9223372036854775808 := fun x => g ⟨rfl, x⟩
  show n % 18446744073709551616 = n
  omega
theorem OY (n : Nat) : bK .shr (.int .u64 n) (.int .u64 (.ofNat 8)) h = .ok (.int .u64 (n / 256 : Nat)) h := rfl
theorem DX (k : Nat) : ∀ {n : Nat} {h : Hp} {s : Bs} {c : AC} {r0 : A2}, (∀ s, Rn p (.ag pd .skip) (T42 (.ptr q 0) (.int .u64 n) (.int .i64 k)) h s → Rn p c r0 h s) → Wr h0 h q s → n < 18446744073709551616 → s.length + k ≤ 16777216 → k ≤ 1000 →
  ∃ h', Rn p (.sat (.ag k27_0 (.seq (.label 0) (.ag pd .skip))) c) r0 h (.ret T9 h') ∧ Wr h0 h' q (s ++ le k n) := by
 induction k with
 | zero =>
  intro n h s c r0 hc w _ _ _
  refine ⟨h, .HO (hc _ (.ag (.all fun m => ?_))), by simpa [le] using w⟩
  simp only [pd, K3, t42_0, t42_1, t42_6, i0]
  rw [JW, bJ, if_pos (by rfl)]
 | succ k ih =>
  intro n h s c r0 hc w hn hs hk
  obtain ⟨sv, l, h1, x, h2, h3, e1, e2, e3, e4, e5⟩ := w.qN [UInt8.ofNat n] (m := 1) rfl (z := [.int .u8 (.ofNat 0)]) (ps := [.mk 0 1 (.c (.int .u8 ((n : Int) % 256)))]) rfl (by simp [bc]; rfl) (by simp; omega)
  obtain ⟨h', f1, f2⟩ := ih (n := n / 256) (h := h3) (s := s ++ [UInt8.ofNat n]) (c := .seq .skip (.ag pd .skip)) (fun _ e => .seq .skip e) e5 (by omega) (by simp; omega) (by omega)
  refine ⟨h', .Lf (i := 0) (hc _ (.ag (.all fun m => ?_))) rfl f1, by simpa [le] using f2⟩
  simp only [pd, K3, t42_0, t42_1, t42_6, i0, i1]
  rw [JW, bJ, if_neg (by simp; omega), ta, az, aE e1, gi, w8, aV, aR e2, aR e3, ta, az, iH e4, OY, aV, Nf, Bh _ (by unfold fw; simp; omega)]
  simp
section
variable {a b c d : AV}
theorem dK : y0 (bG [a] 0 .nil) = a := rfl
theorem mV : y0 (bG [a, b] 0 .nil) = a := rfl
theorem mW : y1 (bG [a, b] 0 .nil) = b := rfl
theorem rp3_0 : y0 (bG [a, b, c] 0 .nil) = a := rfl
theorem rp3_1 : y1 (bG [a, b, c] 0 .nil) = b := rfl
theorem rp3_2 : y2 (bG [a, b, c] 0 .nil) = c := rfl
end
theorem yk (T : Bg p) (w : Wr h0 h q s) {n k : Nat} (hn : n < 18446744073709551616) (hs : s.length + k ≤ 16777216) (hk : k ≤ 1000) :
  ∃ h', Cv p 27 [.ptr q 0, .int .u64 n, .int .i64 k] h cu h' ∧ Wr h0 h' q (s ++ le k n) := by
 have hc : ∀ s, Rn p (.ag pd .skip) (T42 (.ptr q 0) (.int .u64 n) (.int .i64 k)) h s → Rn p (.ag k27_0 (.seq (.label 0) (.ag pd .skip))) (bG [.ptr q 0, .int .u64 n, .int .i64 k] 0 .nil) h s := by
  intro s e
  refine .ag (Ev.mono (Rn.seq (a := .label 0) .label e) fun m e => ?_)
  simp only [k27_0, K3, rp3_0, rp3_1, rp3_2]
  exact e
 obtain ⟨h', e1, e2⟩ := DX k hc w hn hs hk
 exact ⟨h', .of T.e27 (by simp) (.scope e1) rfl, e2⟩
theorem mX (T : Bg p) (w : Wr h0 h q s) {n : Int} (hs : s.length + 1 ≤ 16777216) :
  ∃ h', Cv p 13 [.ptr q 0, i64 n] h cu h' ∧ Wr h0 h' q (s ++ le 1 (u64 n)) := by
 obtain ⟨h', e1, e2⟩ := yk T w (n := u64 n) (k := 1) (by unfold u64; omega) hs (by omega)
 refine ⟨h', .zN (r' := T9) (h1 := h') T.e13 (by simp) (.ag ?_) rfl, e2⟩
 refine Ev.mono e1 fun m e => ?_
 simp only [k13_0, K2, mV, mW, i1, i64]
 rw [gi, w64, aV]
 have g : n % 18446744073709551616 = (u64 n : Int) := by unfold u64; omega
 rw [g]
 exact bm e
theorem DY (T : Bg p) (w : Wr h0 h q s) {n : Int} (hs : s.length + 2 ≤ 16777216) :
  ∃ h', Cv p 28 [.ptr q 0, i64 n] h cu h' ∧ Wr h0 h' q (s ++ le 2 (u64 n)) := by
 obtain ⟨h', e1, e2⟩ := yk T w (n := u64 n) (k := 2) (by unfold u64; omega) hs (by omega)
 refine ⟨h', .zN (r' := T9) (h1 := h') T.e28 (by simp) (.ag ?_) rfl, e2⟩
 refine Ev.mono e1 fun m e => ?_
 simp only [k28_0, K2, mV, mW, pi, i64]
 rw [gi, w64, aV]
 have g : n % 18446744073709551616 = (u64 n : Int) := by unfold u64; omega
 rw [g]
 exact bm e
theorem js (T : Bg p) (w : Wr h0 h q s) {n : Int} (hs : s.length + 8 ≤ 16777216) :
  ∃ h', Cv p 15 [.ptr q 0, i64 n] h cu h' ∧ Wr h0 h' q (s ++ gS n) := by
 obtain ⟨h', e1, e2⟩ := yk T w (n := u64 n) (k := 8) (by unfold u64; omega) hs (by omega)
 refine ⟨h', .zN (r' := T9) (h1 := h') T.e15 (by simp) (.ag ?_) rfl, e2⟩
 refine Ev.mono e1 fun m e => ?_
 simp only [k15_0, K2, mV, mW, pi, i64]
 rw [gi, w64, aV]
 have g : n % 18446744073709551616 = (u64 n : Int) := by unfold u64; omega
 rw [g]
 exact bm e
theorem lh (n : Nat) (h : n < 18446744073709551616) : u64 n = n := by unfold u64; omega
theorem jt (T : Bg p) (w : Wr h0 h q s) {t : Bs} (hs : s.length + (2 + t.length) ≤ 16777216) :
  ∃ h', Cv p 16 [.ptr q 0, cD t] h cu h' ∧ Wr h0 h' q (s ++ Cod.text t) := by
 obtain ⟨h1, e1, w1⟩ := DY T w (n := t.length) (by omega)
 obtain ⟨sv, g1, g2, g3⟩ := w1.ob
 have hl2 : (s ++ le 2 (u64 (t.length : Int))).length = s.length + 2 := by simp [aX]
 obtain ⟨x, h2, h3, f1, f2, f3⟩ := w1.app g2 g3 t (by rw [hl2]; omega)
 refine ⟨h3, .zN (r' := T9) (h1 := h3) T.e16 (by simp) (.ag ?_) rfl, ?_⟩
 ·refine Ev.mono e1 fun m e => ?_
  simp only [k16_0, K2, mV, mW, cD]
  simp only [i64] at e
  have ec : (t.map UInt8.toNat).map (fun b : Nat => AV.int .u8 (b : Int)) = bc t := by simp [bc]
  rw [zI, aV, List.length_map, bm e, ta, az, aE (yf (g2.cs (k := 0) (m := [sv]) (fun j hj => ⟨by omega, by simp⟩) (by simp)) (by simp)), aR (by rw [zK, ec, List.length_map]; exact f1), ta, az, iH f2]
 ·rw [lh _ (by omega)] at f3
  simpa [Cod.text] using f3
end
open Go.Cod
noncomputable section
variable {p : Pg} {h0 h h' h1 : Hp} {q : P4} {s : Bs}
theorem Wr.base (w : Wr h0 h q s) (O : Old h h1) (W : Wf h1) : ∃ h0', Old h0 h0' ∧ Wr h0' h1 q s ∧ ∀ j, ah j h = .none → ah j h0' = ah j h1 := by
 classical
 obtain ⟨h0', g⟩ := zL fun j => if ah j h = .none then ah j h1 else ah j h0
 have g1 : ∀ j, ah j h = .none → ah j h0' = ah j h1 := fun j hj => by rw [g, if_pos hj]
 have g2 : ∀ j, ah j h ≠ .none → ah j h0' = ah j h0 := fun j hj => by rw [g, if_neg hj]
 obtain ⟨sv, e1, e2, e3⟩ := w.ob
 refine ⟨h0', fun j hj => g2 j (by rw [w.old j hj]; exact hj), ⟨fun j hj => ?_, W, by rw [g2 q e2.ne]; exact w.new, sv, e1, e2.old O, ?_⟩, g1⟩
 ·by_cases hn : ah j h = .none
  ·rw [g1 j hn]
  ·rw [g2 j hn] at hj ⊢
   rw [O j hn, w.old j hj]
 ·rcases e3 with e3 | ⟨q', n, f1, f2, f3, f4⟩
  ·exact .inl e3
  ·exact .inr ⟨q', n, f1, f2, f3.old O, by rw [g2 q' f3.ne]; exact f4.1, f4.2⟩
theorem Wr.Ov {h0' : Hp} (w : Wr h0' h q s) (O : Old h0 h0') : Wr h0 h q s := by
 obtain ⟨sv, e1, e2, e3⟩ := w.ob
 exact ⟨O.trans w.old, w.wf, O.none w.new, sv, e1, e2, e3.mono fun j hj => ⟨O.none hj.1, hj.2⟩⟩
variable {α : Type} {es : Nat} {f : List AV → α → Prop} {x : AV} {xs : List α}
theorem dD.sl (r : dD h es f x xs) : ∃ q o, zq x es xs.length q o ∧ ∀ i (hi : i < xs.length), ∃ l, l.length = es ∧ Cs h q (o + i * es) l ∧ f l xs[i] := by
 obtain ⟨q, o, e, g⟩ := r
 refine ⟨q, o, ?_, g⟩
 rcases e with ⟨c, _, e⟩ | e | ⟨e, rfl⟩
 ·exact .inl ⟨c, e⟩
 ·exact .inr (.inl e)
 ·exact .inr (.inr ⟨e, rfl⟩)
theorem dD.up {f' : List AV → α → Prop} (r : dD h es f x xs) (O : Old h h') (g : ∀ l a, a ∈ xs → f l a → f' l a) : dD h' es f' x xs := by
 obtain ⟨q, o, e, k⟩ := r
 refine ⟨q, o, e, fun i hi => ?_⟩
 obtain ⟨l, a, b, c⟩ := k i hi
 exact ⟨l, a, b.old O, g _ _ (by simp) c⟩
theorem eL.up {r : List pS} (a : eL h x r) (O : Old h h') : eL h' x r := dD.up a O fun _ _ _ e => e
theorem fP.up {l : List AV} {c : sj} (a : fP h l c) (O : Old h h') : fP h' l c := let ⟨x, e, r⟩ := a; ⟨x, e, eL.up r O⟩
theorem bw.up {r : List sj} (a : bw h x r) (O : Old h h') : bw h' x r := dD.up a O fun _ _ _ e => fP.up e O
theorem aN.up {r : List (Bs × Int)} (a : aN h x r) (O : Old h h') : aN h' x r := dD.up a O fun _ _ _ e => e
theorem en.up {l : List AV} {e : lK} (a : en h l e) (O : Old h h') : en h' l e := let ⟨x, y, g, r1, r2⟩ := a; ⟨x, y, g, aN.up r1 O, bw.up r2 O⟩
theorem du.up {r : List lK} (a : du h x r) (O : Old h h') : du h' x r := dD.up a O fun _ _ _ e => en.up e O
theorem yl (s : Bs) : ∀ (k : List Nat → RV) (e : RV), eU (bc s) k e = k (s.map UInt8.toNat) := by
 induction s with
 | nil => intro k e; rfl
 | cons b s ih =>
  intro k e
  show eU (.int .u8 (b.toNat : Int) :: bc s) k e = _
  rw [mY]
  show (@Bool.rec (fun _ => RV) e (eU (bc s) (fun s => k (b.toNat :: s)) e) (Nat.ble b.toNat 255)) = _
  have hb := b.toNat_lt
  rw [Nat.ble_eq_true_of_le (by omega), ih]
  rfl
def qz (h : Hp) (x : AV) (s : Bs) : Prop := ∃ q o n, zq x 1 n q o ∧ s.length = n ∧ (n ≠ 0 → Cs h q o (bc s))
theorem jR.MW {b : P4 → Prop} (w : jR h x 5 1 (bc s) b) : qz h x s := by
 obtain ⟨q, n, e1, e2, e3⟩ := w.sl (by omega)
 exact ⟨q, 0, n, e1, by rw [ef] at e2; omega, e3⟩
theorem qA (r : qz h x s) : cK .Hl x h = .ok (cD s) h := by
 obtain ⟨q, o, n, e1, e2, e3⟩ := r
 show elems 1 x h (fun l => eU l (fun s => .ok (.str s) h) (.err 33)) (.err 34) = _
 rw [wq e1 (by omega) e3 (by rw [ef]; omega), yl]
theorem qz.len (r : qz h x s) : Am.len x h = .ok (.int .i64 (s.length : Int)) h := by
 obtain ⟨q, o, n, e1, e2, e3⟩ := r
 rw [gC e1, e2]
theorem qz.up (r : qz h x s) (O : Old h h') : qz h' x s := by
 obtain ⟨q, o, n, e1, e2, e3⟩ := r
 exact ⟨q, o, n, e1, e2, fun g => (e3 g).old O⟩
theorem te (T : Bg p) (W : Wf h) : ∃ q h', Cv p 12 [] h (.ptr q 0) h' ∧ Wr h h' q [] ∧ Old h h' := by
 obtain ⟨q, h1, e1, e2, e3, e4, e5, e6⟩ := qt (el := 78) (l := [.ak]) W (by simp)
 refine ⟨q, h1, .of (r' := T12 (.ptr q 0)) (h1 := h1) T.e12 (by simp) (.ag (.all fun m => ?_)) rfl, ⟨e4, e5, e2, .ak, rfl, e3, .inl ⟨rfl, .inl rfl⟩⟩, e4⟩
 simp only [k12_0]
 rw [Nd (v := .agg [.ak]) (h' := h) rfl, mP e1]
theorem DZ (e29 : aw 29 p.fs = f29) (W : Wf h) {b : P4 → Prop} (w : jR h x 5 1 (bc s) b) (hl : s.length ≤ 16777216) : ∃ v h', Cv p 29 [x] h v h' ∧ jR h' v 5 1 (bc s) (fun j => ah j h = .none) ∧ Old h h' ∧ Wf h' := by
 by_cases hx : x = .ak
 ·subst hx
  refine ⟨.ak, h, .of (r' := T5 .ak) (h1 := h) e29 (by simp) (.ag (.all fun m => ?_)) rfl, ?_, .refl h, W⟩
  ·have hn : bK (.jW .s) .ak .ak h = .ok (.bool true) h := rfl
   simp only [k29_0, K1, dK]
   rw [aR hn, nY]
  ·rcases w with ⟨w, _⟩ | ⟨q, n, g, _⟩
   ·exact .inl ⟨w, .inl rfl⟩
   ·cases g
 ·have hn : bK (.jW .s) x .ak h = .ok (.bool false) h := by
   rcases w with ⟨_, rfl | ⟨q, rfl⟩⟩ | ⟨q, n, rfl, _⟩
   ·exact absurd rfl hx
   ·rfl
   ·rfl
  obtain ⟨j, h1, f1, f2, f3, f4, f5, f6⟩ := iD (el := 5) (es := 1) (n := 0) (z := []) (ps := []) (l := []) W rfl rfl (by simp)
  obtain ⟨q, o, n, g1, g2, g3⟩ := qz.up (jR.MW w) f4
  obtain ⟨v, h2, c1, c2, c3, c4⟩ := iK (m := n) (es := 1) f5 (x := .slice j 0 0 0) (b := fun _ => False) (el := 5) (l := []) (.inl ⟨rfl, .inr ⟨j, rfl⟩⟩) (by omega) (new := bc s) (by rw [ef]; omega) (by simp [ef]; omega)
  refine ⟨v, h2, .of (r' := T5 v) (h1 := h2) e29 (by simp) (.ag (.all fun m => ?_)) rfl, ?_, fun k hk => ?_, c3⟩
  ·simp only [k29_0, K1, dK]
   rw [aR hn, mO, aR f1, aR (by rw [gU g1 (by omega) g3 (by rw [ef]; omega) (by omega)]; exact c1)]
  ·refine jR.mono c2 fun k hk => ?_
   rcases hk with hk | hk
   ·exact hk.elim
   ·exact f4.none hk
  ·have := f4 k hk
   rw [c4 k (by rw [this]; exact hk) (fun g => g), this]
theorem zO (T : Bg p) (e29 : aw 29 p.fs = f29) (w : Wr h0 h q s) (hl : s.length ≤ 16777216) : ∃ v h', Cv p 18 [.ptr q 0] h v h' ∧ jR h' v 5 1 (bc s) (fun j => ah j h0 = .none) ∧ Old h0 h' ∧ Wf h' := by
 obtain ⟨sv, e1, e2, e3⟩ := w.ob
 obtain ⟨v, h', f1, f2, f3, f4⟩ := DZ (p := p) e29 w.wf e3 hl
 refine ⟨v, h', .of (r' := T5 v) (h1 := h') T.e18 (by simp) (.ag (f1.mono fun m e => ?_)) rfl, jR.mono f2 fun j hj => w.old.none hj, w.old.trans f3, f4⟩
 simp only [k18_0, K1, dK]
 rw [ta, az, aE (yf (e2.cs (k := 0) (m := [sv]) (fun j hj => ⟨by omega, by simp⟩) (by simp)) (by simp))]
 exact (bm e)
end
open Go.Cod
noncomputable section
variable {p : Pg} {h0 h h' h1 : Hp} {q : P4} {s : Bs} {x y : AV}
theorem av {h : Hp} {q : P4} {o : Nat} {l : List AV} (c : Cs h q o l) (k : Nat) {v : AV} (e : l[k]? = some v) : lD (.ptr q (o + k)) h = .ok v h := by
 obtain ⟨hk, e⟩ := List.getElem?_eq_some_iff.1 e
 rw [JX c k hk, e]
theorem bz {h : Hp} {q : P4} {o : Nat} {l : List AV} (c : Cs h q o l) {v : AV} (e : l[0]? = some v) : lD (.ptr q o) h = .ok v h := av c 0 e
theorem fL (e : aw 10 p.fs = f10) (n : Int) : Cv p 10 [i64 n] h (.bool (small n)) h := by
 refine .of (r' := T5 (.bool (small n))) (h1 := h) e (by simp) (.bI fun c i K => ?_) rfl
 simp only [k10_0, K1, dK, i64, ni, pi]
 (rw [JV, aV]; try rfl)
 by_cases hc : Int.negSucc 2147483647 ≤ n
 ·(rewrite [decide_eq_true hc]; (try dsimp only); rewrite [vZ]; (try dsimp only); rewrite [vZ]; (try dsimp only); rewrite [bq]; (try dsimp only); rewrite [od]; (try dsimp only); rewrite [aV]; (try dsimp only); try rfl)
  congr 3
  unfold small
  rw [decide_eq_true (show -2147483648 ≤ n from hc), Bool.true_and, decide_eq_decide]
  show n < 2147483648 ↔ n ≤ 2147483647
  omega
 ·(rw [decide_eq_false hc, sO, sO, qx, aV]; try rfl)
  congr 3
  unfold small
  rw [decide_eq_false (show ¬ -2147483648 ≤ n from hc)]
  rfl
theorem uI (e : aw 24 p.fs = f24) (n : Int) : Cv p 24 [i64 n] h (i64 (gh n)) h := by
 refine .of (r' := T5 (i64 (gh n))) (h1 := h) e (by simp) (.ag (Ev.succ (.all fun m => ?_))) rfl
 simp only [k24_0, K1, dK, i64, ni, pi]
 (rw [bq]; try rfl)
 by_cases hc : n < Int.negSucc 999
 ·(rw [decide_eq_true hc, zM, zM, od, aV, nY, i0]; try rfl)
  unfold gh
  rw [if_pos (.inl hc)]
  rfl
 ·(rewrite [decide_eq_false hc]; (try dsimp only); rewrite [HL]; (try dsimp only); rewrite [HL]; (try dsimp only); rewrite [fp]; (try dsimp only); rewrite [aV]; (try dsimp only); rewrite [qx]; (try dsimp only); rewrite [aV]; (try dsimp only); rewrite [bJ]; (try dsimp only); try rfl)
  have hc' : ¬ n < -1000 := hc
  by_cases hd : (1000 : Int) < n
  ·rw [if_pos (show Int.ofNat 1000 < n from hd), i0]
   unfold gh
   rw [if_pos (.inr hd)]
   rfl
  ·rw [if_neg (show ¬ Int.ofNat 1000 < n from hd)]
   unfold gh
   rw [if_neg (by omega)]
   rfl
theorem eh {α : Type} {f : α → Bool} {l : List α} {i : Nat} (hi : i < l.length) : (l.take (i + 1)).all f = ((l.take i).all f && f l[i]) := by
 rw [List.take_succ_eq_append_getElem hi, List.all_append]; simp
theorem all_false {α : Type} {f : α → Bool} {l : List α} {i : Nat} (hi : i < l.length) (h : f l[i] = false) : l.all f = false := by
 rw [List.all_eq_false]; exact ⟨_, List.getElem_mem hi, by simp [h]⟩
theorem tf {n : Int} (K : AV → Hp → RS) : Seat.Y (.int .i64 n) (.int .i64 (.negSucc 2147483647)) h (fun j h => gD j false (fun k => k (.int .i64 n) h) h fun k h => gD j false (fun l => tR (eN k (.int .i64 (.ofNat 2147483647)) h) fun m h => l m h) h fun l h =>
  tR (dJ (.c j) (.c (.bool true)) (.c l) .nil h) fun m h => K m h) = K (.bool (!small n)) h := by
 (rw [bq]; try rfl)
 by_cases hc : n < Int.negSucc 2147483647
 ·(rw [decide_eq_true hc, zM, zM, od, aV]; try rfl)
  have : small n = false := by
   unfold small
   rw [decide_eq_false (show ¬ -2147483648 ≤ n from fun g => by have : n < -2147483648 := hc; omega)]; rfl
  rw [this]; rfl
 ·(rewrite [decide_eq_false hc]; (try dsimp only); rewrite [HL]; (try dsimp only); rewrite [HL]; (try dsimp only); rewrite [fp]; (try dsimp only); rewrite [aV]; (try dsimp only); rewrite [qx]; (try dsimp only); rewrite [aV]; (try dsimp only); try rfl)
  have hc' : -2147483648 ≤ n := by have : ¬ n < -2147483648 := hc; omega
  congr 2
  unfold small
  rw [decide_eq_true hc', Bool.true_and, ← decide_not, decide_eq_decide]
  show (2147483647 : Int) < n ↔ _
  omega
theorem oC (e : aw 38 p.fs = f38) {ns : List Int} (r : dD h 1 (fun l n => l = [i64 n]) x ns) (hn : ns.length < 9223372036854775807) : Cv p 38 [x] h (.bool (ns.all small)) h := by
 obtain ⟨q, o, sl, g⟩ := dD.sl r
 have key : ∃ s, (s = .ret (T5 (.bool (ns.all small))) h ∨ (∃ r', s = .ex 0 r' h) ∧ ns.all small = true) ∧ Rn p (.loop (.ag sM (.ag vC .skip))) (T43 x (i64 ns.length) i0) h s := by
  refine dt ns.length (Inv := fun i r h' => r = T43 x (i64 ns.length) (i64 i) ∧ h' = h ∧ (ns.take i).all small = true) (fun i r h' hi I => ?_) (fun r h' I => ?_) ns.length 0 _ h (by omega) ⟨rfl, rfl, by simp⟩
  ·obtain ⟨rfl, rfl, I⟩ := I
   obtain ⟨l, l1, l2, rfl⟩ := g i hi
   cases hs : small ns[i] with
   | true =>
    left
    refine ⟨_, _, .dQ (r' := T43 x (i64 ns.length) (i64 i)) (h' := h') (fun c i' K => ?_) (.ag (Ev.succ (.all fun m => ?_))), rfl, rfl, by rw [eh hi, I, hs]; rfl⟩
    ·simp only [sM, K3, qF, qG, qH, i64, ni, pi]
     (rw [bq, bJ, if_pos (by omega), dg (dc sl hi), aE (bz l2 rfl), tf, hs, Bool.not_true, mO]; try rfl)
    ·show vC (ar p (exec p (m + 1))) (aF p (exec p (m + 1))) (fun r h => exec p (m + 1) .skip r h) _ h' = _
     simp only [vC, K3, qF, qG, qH, i64, i1]
     (rw [zH, Bh _ (by unfold fw; simp; omega)]; try rfl)
   | false =>
    right
    refine ⟨_, .inl rfl, .ei (.bI fun c i' K => ?_)⟩
    simp only [sM, K3, qF, qG, qH, i64, ni, pi]
    (rw [bq, bJ, if_pos (by omega), dg (dc sl hi), aE (bz l2 rfl), tf, hs, Bool.not_false, nY, all_false hi hs]; try rfl)
  ·obtain ⟨rfl, rfl, I⟩ := I
   refine ⟨_, .inr ⟨⟨T9, rfl⟩, by simpa using I⟩, .de (.bI fun c i' K => ?_)⟩
   simp only [sM, K3, qF, qG, qH, i64]
   (rw [bq, bJ, if_neg (by omega)]; try rfl)
 obtain ⟨s, hs, k⟩ := key
 have k1 : Rn p (.ag k38_1 (.block 0 (.loop (.ag sM (.ag vC .skip))))) (T12 x) h (RS.rec (fun _ _ => s) (fun _ r h => .nm r h) (fun _ _ _ => s) (fun _ _ => s) (fun _ => s) (fun _ _ _ => s) s) := by
  refine .dQ (r' := T43 x (i64 ns.length) i0) (h' := h) (fun c i' K => ?_) ?_
  ·simp only [k38_1, K1, t12_0]
   (rw [bP (gC sl)]; try rfl)
  ·rcases hs with rfl | ⟨⟨r', rfl⟩, _⟩
   ·exact .bT k
   ·exact .bA k
 rcases hs with rfl | ⟨⟨r', rfl⟩, ha⟩
 ·exact .of (r' := T5 (.bool (ns.all small))) (h1 := h) e (by simp) (.dQ (r' := T12 x) (h' := h) (fun c i' K => by simp only [k38_0, K1, dK]) (.cR k1)) rfl
 ·refine .of (r' := T5 (.bool (ns.all small))) (h1 := h) e (by simp) (.dQ (r' := T12 x) (h' := h) (fun c i' K => by simp only [k38_0, K1, dK]) (.seq k1 (.bI fun c i' K => ?_))) rfl
  rw [ha]; rfl
end
open Go.Cod
noncomputable section
variable {p : Pg} {h0 h h' h1 : Hp} {q : P4} {s : Bs} {x y : AV}
theorem cZ (s : Bs) : hX (cD s) h = .ok (.int .i64 (s.length : Int)) h := by rw [cD, zI, List.length_map]
theorem mZ (e : aw 39 p.fs = f39) {ns : List Bs} (r : dD h 1 (fun l n => l = [cD n]) x ns) (hn : ns.length < 9223372036854775807) : Cv p 39 [x] h (.bool (ns.all Cod.short)) h := by
 obtain ⟨q, o, sl, g⟩ := dD.sl r
 have key : ∃ s, (s = .ret (T5 (.bool (ns.all Cod.short))) h ∨ (∃ r', s = .ex 0 r' h) ∧ ns.all Cod.short = true) ∧ Rn p (.loop (.ag sN .skip)) (T43 x (i64 ns.length) i0) h s := by
  refine dt ns.length (Inv := fun i r h' => r = T43 x (i64 ns.length) (i64 i) ∧ h' = h ∧ (ns.take i).all Cod.short = true) (fun i r h' hi I => ?_) (fun r h' I => ?_) ns.length 0 _ h (by omega) ⟨rfl, rfl, by simp⟩
  ·obtain ⟨rfl, rfl, I⟩ := I
   obtain ⟨l, l1, l2, rfl⟩ := g i hi
   cases hs : Cod.short ns[i] with
   | true =>
    left
    refine ⟨_, _, .bI fun c i' K => ?_, rfl, rfl, by rw [eh hi, I, hs]; rfl⟩
    simp only [sN, K3, qF, qG, qH]
    (rw [bq, bJ, if_pos (by omega), dg (dc sl hi), aE (bz l2 rfl), cZ, aV, fp, aV, bJ, if_neg (by unfold Cod.short at hs; simp at hs; show ¬ (65535 : Int) < _; omega), zH, Bh _ (by unfold fw; simp; omega)]; try rfl)
   | false =>
    right
    refine ⟨_, .inl rfl, .ei (.bI fun c i' K => ?_)⟩
    simp only [sN, K3, qF, qG, qH]
    (rw [bq, bJ, if_pos (by omega), dg (dc sl hi), aE (bz l2 rfl), cZ, aV, fp, aV, bJ, if_pos (by unfold Cod.short at hs; simp at hs; show (65535 : Int) < _; omega), all_false hi hs]; try rfl)
  ·obtain ⟨rfl, rfl, I⟩ := I
   refine ⟨_, .inr ⟨⟨T43 x (i64 ns.length) (i64 ns.length), rfl⟩, by simpa using I⟩, .de (.bI fun c i' K => ?_)⟩
   simp only [sN, K3, qF, qG, qH]
   (rw [bq, bJ, if_neg (by omega)]; try rfl)
 obtain ⟨s, hs, k⟩ := key
 have k1 : Rn p (.ag k39_1 (.block 0 (.loop (.ag sN .skip)))) (T12 x) h (RS.rec (fun _ _ => s) (fun _ r h => .nm r h) (fun _ _ _ => s) (fun _ _ => s) (fun _ => s) (fun _ _ _ => s) s) := by
  refine .dQ (r' := T43 x (i64 ns.length) i0) (h' := h) (fun c i' K => ?_) ?_
  ·simp only [k39_1, K1, t12_0]
   (rw [bP (gC sl)]; try rfl)
  ·rcases hs with rfl | ⟨⟨r', rfl⟩, _⟩
   ·exact .bT k
   ·exact .bA k
 rcases hs with rfl | ⟨⟨r', rfl⟩, ha⟩
 ·exact .of (r' := T5 (.bool (ns.all Cod.short))) (h1 := h) e (by simp) (.dQ (r' := T12 x) (h' := h) (fun c i' K => by simp only [k39_0, K1, dK]) (.cR k1)) rfl
 ·refine .of (r' := T5 (.bool (ns.all Cod.short))) (h1 := h) e (by simp) (.dQ (r' := T12 x) (h' := h) (fun c i' K => by simp only [k39_0, K1, dK]) (.seq k1 (.bI fun c i' K => ?_))) rfl
  rw [ha]; rfl
theorem Ea (W : Wf h) {el : Nat} {v z : AV} (hv : v.one = true) (hc : AV.cs v = [v]) (ha : v.asAgg = .no) : ∃ j h', Seat.bs el 1 1 [z] [.mk 0 1 (.c v)] h = .ok (.slice j 0 1 1) h' ∧ Cs h' j 0 [v] ∧ Old h h' ∧ Wf h' := by
 obtain ⟨j, h1, f1, f2, f3, f4, f5, f6⟩ := iD (el := el) (es := 1) (n := 1) (z := [z]) (ps := [.mk 0 1 (.c v)]) (l := [v]) W (by
  show (OL.rec (@Bool.rec (fun _ => Bool) false true (Bool.and v.one (Nat.beq 1 1))) (fun l => @Bool.rec (fun _ => Bool) false true (Nat.beq l.length 1)) v.asAgg : Bool) = true
  rw [ha, hv]; rfl) (by show lP (AV.cs v) 0 [z] = [v]; rw [hc]; rfl) (by simp)
 exact ⟨j, h1, f1, f3.cs (k := 0) (fun j hj => ⟨by omega, by simp⟩) (by simp), f4, f5⟩
theorem zP (W : Wf h) {el : Nat} {z : AV} (n : Int) : ∃ x h', Seat.bs el 1 1 [z] [.mk 0 1 (.c (i64 n))] h = .ok x h' ∧ dD h' 1 (fun l n => l = [i64 n]) x [n] ∧ Old h h' ∧ Wf h' := by
 obtain ⟨j, h1, f1, f2, f3, f4⟩ := Ea W (el := el) (v := i64 n) (z := z) rfl rfl rfl
 refine ⟨_, h1, f1, ⟨j, 0, .inl ⟨1, by simp, rfl⟩, fun i hi => ⟨_, rfl, ?_, rfl⟩⟩, f3, f4⟩
 have : i = 0 := by simpa using hi
 subst this
 simpa using f2
theorem uJ (W : Wf h) {el : Nat} {z : AV} (n : Bs) : ∃ x h', Seat.bs el 1 1 [z] [.mk 0 1 (.c (cD n))] h = .ok x h' ∧ dD h' 1 (fun l n => l = [cD n]) x [n] ∧ Old h h' ∧ Wf h' := by
 obtain ⟨j, h1, f1, f2, f3, f4⟩ := Ea W (el := el) (v := cD n) (z := z) rfl rfl rfl
 refine ⟨_, h1, f1, ⟨j, 0, .inl ⟨1, by simp, rfl⟩, fun i hi => ⟨_, rfl, ?_, rfl⟩⟩, f3, f4⟩
 have : i = 0 := by simpa using hi
 subst this
 simpa using f2
end
open Go.Cod
noncomputable section
variable {p : Pg} {h0 h h' h1 : Hp} {q j : P4} {s : Bs} {x y a b d : AV}
theorem HP (e38 : aw 38 p.fs = f38) (e39 : aw 39 p.fs = f39) {v : pS} (W : Wf h) (c : Cs h j 0 (lN v)) : ∃ r' h', Os p [of d14 0 r4, ol d15 r14, o d16 (.cB 3 1 1 [i0] [.mk 0 1 r15]), oc d17 38 [r16], o d18 (.un .not r17), m d19 r18,
   .g .h1 .h3 false d20 (.op (.ly 2 r4)), .g .h1 .h3 false d21 (.op (.jV r20)), .g .h1 .h3 false d22 (.op (.cB 9 1 1 [iS] [.mk 0 1 r21])), .g .h1 .h3 false d23 (.call 39 [r22]), .g .h1 .h3 false d24 (.op (.un .not r23)),
   o d25 (.pick r19 (.c (.bool true)) r24)] (T45 (.ptr j 0) a b d) h (.nm r' h') ∧ y8 r' = a ∧ y9 r' = b ∧ y10 r' = d ∧ y25 r' = .bool (!eT v) ∧ Old h h' ∧ Wf h' := by
 obtain ⟨x1, h1, f1, f2, f3, f4⟩ := zP W (el := 3) (z := i0) v.kind
 have n1 := oC (h := h1) e38 f2 (by simp)
 cases hk : small v.kind with
 | true =>
  have n1 : Cv p 38 [x1] h1 (.bool true) h1 := by simpa [hk] using n1
  obtain ⟨x2, h2, g1, g2, g3, g4⟩ := uJ f4 (el := 9) (z := iS) v.s
  have n2 : Cv p 39 [x2] h2 (.bool (Cod.short v.s)) h2 := by simpa using mZ (h := h2) e39 g2 (by simp)
  refine ⟨_, h2, .step (v := .ptr j 0) (h' := h) rfl <| .step (v := i64 v.kind) (h' := h) (bz c rfl) <| .step (v := x1) (h' := h1) f1 <| .call (v := .bool true) (h' := h1) n1 <|
   .step (v := .bool false) (h' := h1) rfl <| .step (v := .bool false) (h' := h1) rfl <| .on rfl <| .step (v := .ptr j 2) (h' := h1) rfl <| .on rfl <| .step (v := cD v.s) (h' := h1) (av (c.old f3) 2 rfl) <|
   .on rfl <| .step (v := x2) (h' := h2) g1 <| .on rfl <| .call (v := .bool (Cod.short v.s)) (h' := h2) n2 <| .on rfl <| .step (v := .bool (!Cod.short v.s)) (h' := h2) (fu _) <| .step (v := .bool (!Cod.short v.s)) (h' := h2) rfl <| .nil,
   rfl, rfl, rfl, ?_, f3.trans g3, g4⟩
  unfold eT
  rw [hk]; rfl
 | false =>
  have n1 : Cv p 38 [x1] h1 (.bool false) h1 := by simpa [hk] using n1
  refine ⟨_, h1, .step (v := .ptr j 0) (h' := h) rfl <| .step (v := i64 v.kind) (h' := h) (bz c rfl) <| .step (v := x1) (h' := h1) f1 <| .call (v := .bool false) (h' := h1) n1 <|
   .step (v := .bool true) (h' := h1) rfl <| .step (v := .bool true) (h' := h1) rfl <| .off rfl <| .off rfl <| .off rfl <| .off rfl <| .off rfl <| .step (v := .bool true) (h' := h1) rfl <| .nil,
   rfl, rfl, rfl, ?_, f3, f4⟩
  unfold eT
  rw [hk]; rfl
theorem HQ {body c A : AC} {bb : Bool} {i : Nat} {r r0 : A2} {P : Hp → Prop} (key : ∃ s, (∃ h', P h' ∧ ((∃ r', s = .ex i r' h' ∧ bb = true) ∨ (s = .ret (T5 (.bool false)) h' ∧ bb = false))) ∧ Rn p (.loop body) r h s)
  (fin : ∀ r' h', Rn p A r' h' (.ret (T5 (.bool true)) h')) (pre : ∀ s, Rn p (.block i (.loop body)) r h s → Rn p c r0 h1 s) : ∃ h', P h' ∧ Rn p (.seq c A) r0 h1 (.ret (T5 (.bool bb)) h') := by
 obtain ⟨s, ⟨h', hp, ⟨r', rfl, rfl⟩ | ⟨rfl, rfl⟩⟩, k⟩ := key
 ·exact ⟨h', hp, .seq (pre _ (.bA k)) (fin _ _)⟩
 ·exact ⟨h', hp, .cR (pre _ (.bT k))⟩
def bh : AC → AC
 | .ag _ x => x
 | .seq _ x => x
 | c => c
theorem Lg (e38 : aw 38 p.fs = f38) (e39 : aw 39 p.fs = f39) (e40 : aw 40 p.fs = f40) (W : Wf h) {row : List pS} (r : eL h x row) (hn : row.length < 9223372036854775807) :
  ∃ h', Cv p 40 [x] h (.bool (decide (row.length ≤ 255) && row.all eT)) h' ∧ Old h h' ∧ Wf h' := by
 obtain ⟨q, o', sl, g⟩ := dD.sl r
 by_cases hl : row.length ≤ 255
 ·have fin : ∃ h', (Old h h' ∧ Wf h') ∧ Rn p (bh x40) (T12 x) h (.ret (T5 (.bool (row.all eT))) h') := by
   refine HQ (r := T44 x (i64 row.length) i0) (h := h) ?_ (fun r' h' => .bI fun c i K => rfl) (fun s e => .dQ (r' := T44 x (i64 row.length) i0) (h' := h) (fun c i K => ?_) e)
   ·refine dt row.length (Inv := fun i r h' => r = T44 x (i64 row.length) (i64 i) ∧ (Old h h' ∧ Wf h') ∧ (row.take i).all eT = true) (fun i r h' hi I => ?_) (fun r h' I => ?_) row.length 0 _ h (by omega) ⟨rfl, ⟨.refl h, W⟩, by simp⟩
    ·obtain ⟨rfl, ⟨O, W'⟩, I⟩ := I
     obtain ⟨l, l1, l2, rfl⟩ := g i hi
     obtain ⟨j, h2, c1, c2, c3, c4, c5, _⟩ := qJ (el := 47) W' sl hi (l2.old O) l1 (c0 := .k1 (Y3 i0 i0 iS)) trivial (by decide)
     obtain ⟨r3, h3, o1, o2, o3, o4, o5, o6, o7⟩ := HP (p := p) (a := x) (b := i64 row.length) (d := i64 i) e38 e39 c5 (c3.cs (k := 0) (m := lN row[i]) (fun j hj => ⟨by omega, by simp⟩) (by simp))
     have s1 : ∀ c i' (K : A2 → Hp → RS), k40_2 c i' K (T44 x (i64 row.length) (i64 i)) h' = K (T44 x (i64 row.length) (i64 i)) h' := fun c i' K => by
      simp only [k40_2, K3, t44_8, t44_9, t44_10]
      (rw [bq, bJ, if_pos (by omega)]; try rfl)
     have s2 : ∀ c i' (K : A2 → Hp → RS), k40_3 c i' K (T44 x (i64 row.length) (i64 i)) h' = K (T45 (.ptr j 0) x (i64 row.length) (i64 i)) h2 := fun c i' K => by
      simp only [k40_3, K3, t44_8, t44_9, t44_10]
      (rw [c1]; try rfl)
     have s3 : ∀ c i' (K : A2 → Hp → RS), k40_4 c i' K r3 h3 = Seat.I (.bool (!eT row[i])) (.ret (T5 (.bool false)) h3) (.nm (T44 x (i64 row.length) (i64 i)) h3) := fun c i' K => by
      simp only [k40_4, K4, o2, o3, o4, o5]
     cases hs : eT row[i] with
     | true =>
      refine .inl ⟨_, h3, .dQ s1 (.seq (.block (.dQ s2 (.seq (.ops o1) (.bI fun c i' K => by rw [s3, hs, Bool.not_true, mO])))) (.bI (s := .nm (T44 x (i64 row.length) (i64 (i + 1))) h3) fun c i' K => ?_)), rfl, ⟨(O.trans c4).trans o6, o7⟩, by rw [eh hi, I, hs]; rfl⟩
      simp only [k40_5, K3, t44_8, t44_9, t44_10]
      (rw [zH, Bh _ (by unfold fw; simp; omega)]; try rfl)
     | false =>
      exact .inr ⟨_, ⟨h3, ⟨(O.trans c4).trans o6, o7⟩, .inr ⟨rfl, all_false hi hs⟩⟩, .ei (.dQ s1 (.cR (.bT (.dQ s2 (.seq (.ops o1) (.bI fun c i' K => by rw [s3, hs, Bool.not_false, nY]))))))⟩
    ·obtain ⟨rfl, O, I⟩ := I
     refine ⟨_, ⟨h', O, .inl ⟨T9, rfl, by simpa using I⟩⟩, .de (.bI fun c i' K => ?_)⟩
     simp only [k40_2, K3, t44_8, t44_9, t44_10]
     (rw [bq, bJ, if_neg (by omega)]; try rfl)
   ·simp only [k40_1, K1, t12_0]
    (rw [bP (gC sl)]; try rfl)
  obtain ⟨h', O, k⟩ := fin
  refine ⟨h', .of (r' := T5 (.bool (row.all eT))) (h1 := h') e40 (by simp) (.dQ (r' := T12 x) (h' := h) (fun c i K => ?_) k) (by rw [decide_eq_true hl]; rfl), O⟩
  simp only [k40_0, K1, dK]
  (rw [bP (gC sl), fp, aV, bJ, if_neg (by show ¬ (255 : Int) < _; omega)]; try rfl)
 ·refine ⟨h, .of (r' := T5 (.bool false)) (h1 := h) e40 (by simp) (.bI fun c i K => ?_) (by rw [decide_eq_false hl]; rfl), .refl h, W⟩
  simp only [k40_0, K1, dK]
  (rw [bP (gC sl), fp, aV, bJ, if_pos (by show (255 : Int) < _; omega)]; try rfl)
end
open Go.Cod
noncomputable section
variable {p : Pg} {h0 h h' h1 : Hp} {q j : P4} {s : Bs} {x y a b d : AV}
theorem HS (W : Wf h) {el : Nat} {z : AV} (a b c : Int) : ∃ x h', Seat.bs el 1 3 [z, z, z] [.mk 0 1 (.c (i64 a)), .mk 1 1 (.c (i64 b)), .mk 2 1 (.c (i64 c))] h = .ok x h' ∧ dD h' 1 (fun l n => l = [i64 n]) x [a, b, c] ∧ Old h h' ∧ Wf h' := by
 obtain ⟨j, h1, f1, f2, f3, f4, f5, f6⟩ := iD (el := el) (es := 1) (n := 3) (z := [z, z, z]) (ps := [.mk 0 1 (.c (i64 a)), .mk 1 1 (.c (i64 b)), .mk 2 1 (.c (i64 c))]) (l := [i64 a, i64 b, i64 c]) W rfl rfl (by simp)
 refine ⟨_, h1, f1, ⟨j, 0, .inl ⟨3, by simp, rfl⟩, fun i hi => ⟨_, rfl, f3.cs (k := 0 + i * 1) (m := [i64 ([a, b, c][i])]) (fun k hk => ?_) (by simp at hi ⊢; omega), rfl⟩⟩, f4, f5⟩
 have hk : k = 0 := by simpa using hk
 subst hk
 have hi : i < 3 := hi
 match i, hi with
 | 0, _ => exact ⟨by simp, rfl⟩
 | 1, _ => exact ⟨by simp, rfl⟩
 | 2, _ => exact ⟨by simp, rfl⟩
theorem HT (W : Wf h) {el : Nat} {z : AV} (a b : Bs) : ∃ x h', Seat.bs el 1 2 [z, z] [.mk 0 1 (.c (cD a)), .mk 1 1 (.c (cD b))] h = .ok x h' ∧ dD h' 1 (fun l n => l = [cD n]) x [a, b] ∧ Old h h' ∧ Wf h' := by
 obtain ⟨j, h1, f1, f2, f3, f4, f5, f6⟩ := iD (el := el) (es := 1) (n := 2) (z := [z, z]) (ps := [.mk 0 1 (.c (cD a)), .mk 1 1 (.c (cD b))]) (l := [cD a, cD b]) W rfl rfl (by simp)
 refine ⟨_, h1, f1, ⟨j, 0, .inl ⟨2, by simp, rfl⟩, fun i hi => ⟨_, rfl, f3.cs (k := 0 + i * 1) (m := [cD ([a, b][i])]) (fun k hk => ?_) (by simp at hi ⊢; omega), rfl⟩⟩, f4, f5⟩
 have hk : k = 0 := by simpa using hk
 subst hk
 have hi : i < 2 := hi
 match i, hi with
 | 0, _ => exact ⟨by simp, rfl⟩
 | 1, _ => exact ⟨by simp, rfl⟩
theorem dD.len {α : Type} {es : Nat} {f : List AV → α → Prop} {x : AV} {xs : List α} (r : dD h es f x xs) : Am.len x h = .ok (.int .i64 (xs.length : Int)) h := by
 obtain ⟨q, o, sl, _⟩ := dD.sl r
 exact gC sl
def fst : AC → AC
 | .seq a _ => a
 | .ag _ a => a
 | .block _ a => a
 | .loop a => a
 | c => c
def dp : Nat → AC → AC
 | 0, c => c
 | n + 1, c => dp n (fst c)
def opsL : AC → List GI
 | .ops l => l
 | _ => []
theorem JZ (n : Nat) : bK .gt (i64 n) (pi 255) h = .ok (.bool (!decide (n ≤ 255))) h := by
 show eN (.int .i64 n) (.int .i64 (.ofNat 255)) h = _
 rw [fp, ← decide_not]
 congr 2
 rw [decide_eq_decide]
 show (255 : Int) < _ ↔ _
 omega
def jv (e : vx) : Bool := (small e.aB && small e.seq && small e.kind) && (Cod.short e.name && Cod.short e.text) && decide (e.bL.length ≤ 255) && decide (e.changes.length ≤ 255)
theorem HU (e38 : aw 38 p.fs = f38) (e39 : aw 39 p.fs = f39) {e : vx} (W : Wf h) (c : Cs h j 0 (dY x y e)) (r1 : aN h x e.bL) (r2 : bw h y e.changes) :
  ∃ r' h', Os p (opsL (fst (fst (bh x26)))) (T23 (.ptr j 0)) h (.nm r' h') ∧ y1 r' = .ptr j 0 ∧ y36 r' = .bool (!jv e) ∧ Old h h' ∧ Wf h' := by
 obtain ⟨x1, h1, f1, f2, f3, f4⟩ := HS W (el := 3) (z := i0) e.aB e.seq e.kind
 have n1 := oC (h := h1) e38 f2 (by simp)
 cases hk : [e.aB, e.seq, e.kind].all small with
 | false =>
  rw [hk] at n1
  refine ⟨_, h1, .step (v := .ptr j 0) (h' := h) rfl <| .step (v := i64 e.aB) (h' := h) (bz c rfl) <| .step (v := .ptr j 1) (h' := h) rfl <| .step (v := i64 e.seq) (h' := h) (av c 1 rfl) <| .step (v := .ptr j 2) (h' := h) rfl <| .step (v := i64 e.kind) (h' := h) (av c 2 rfl) <| .step (v := x1) (h' := h1) f1 <| .call (v := .bool false) (h' := h1) n1 <| .step (v := .bool true) (h' := h1) rfl <| .step (v := .bool true) (h' := h1) rfl <| .off rfl <| .off rfl <| .off rfl <| .off rfl <| .off rfl <| .off rfl <| .off rfl <| .step (v := .bool true) (h' := h1) rfl <| .step (v := .bool true) (h' := h1) rfl <| .off rfl <| .off rfl <| .off rfl <| .off rfl <| .step (v := .bool true) (h' := h1) rfl <| .step (v := .bool true) (h' := h1) rfl <| .off rfl <| .off rfl <| .off rfl <| .off rfl <| .step (v := .bool true) (h' := h1) rfl <| .nil, rfl, ?_, f3, f4⟩
  have : (small e.aB && small e.seq && small e.kind) = false := by simpa [Bool.and_assoc] using hk
  unfold jv; rw [this]; rfl
 | true =>
  rw [hk] at n1
  have k1 : (small e.aB && small e.seq && small e.kind) = true := by simpa [Bool.and_assoc] using hk
  obtain ⟨x2, h2, g1, g2, g3, g4⟩ := HT f4 (el := 9) (z := iS) e.name e.text
  have n2 := mZ (h := h2) e39 g2 (by simp)
  cases hk2 : [e.name, e.text].all Cod.short with
  | false =>
   rw [hk2] at n2
   refine ⟨_, h2, .step (v := .ptr j 0) (h' := h) rfl <| .step (v := i64 e.aB) (h' := h) (bz c rfl) <| .step (v := .ptr j 1) (h' := h) rfl <| .step (v := i64 e.seq) (h' := h) (av c 1 rfl) <| .step (v := .ptr j 2) (h' := h) rfl <| .step (v := i64 e.kind) (h' := h) (av c 2 rfl) <| .step (v := x1) (h' := h1) f1 <| .call (v := .bool true) (h' := h1) n1 <| .step (v := .bool false) (h' := h1) rfl <| .step (v := .bool false) (h' := h1) rfl <| .on rfl <| .step (v := .ptr j 3) (h' := h1) rfl <| .on rfl <| .step (v := cD e.name) (h' := h1) (av (c.old f3) 3 rfl) <| .on rfl <| .step (v := .ptr j 4) (h' := h1) rfl <| .on rfl <| .step (v := cD e.text) (h' := h1) (av (c.old f3) 4 rfl) <| .on rfl <| .step (v := x2) (h' := h2) g1 <| .on rfl <| .call (v := .bool false) (h' := h2) n2 <| .on rfl <| .step (v := .bool true) (h' := h2) rfl <| .step (v := .bool true) (h' := h2) rfl <| .step (v := .bool true) (h' := h2) rfl <| .off rfl <| .off rfl <| .off rfl <| .off rfl <| .step (v := .bool true) (h' := h2) rfl <| .step (v := .bool true) (h' := h2) rfl <| .off rfl <| .off rfl <| .off rfl <| .off rfl <| .step (v := .bool true) (h' := h2) rfl <| .nil, rfl, ?_, f3.trans g3, g4⟩
   have : (Cod.short e.name && Cod.short e.text) = false := by simpa using hk2
   unfold jv; rw [k1, this]; rfl
  | true =>
   rw [hk2] at n2
   have k2 : (Cod.short e.name && Cod.short e.text) = true := by simpa using hk2
   have gt3 := JZ (h := h2) e.bL.length
   have gt4 := JZ (h := h2) e.changes.length
   cases hk3 : decide (e.bL.length ≤ 255) with
   | false =>
    rw [hk3] at gt3
    refine ⟨_, h2, .step (v := .ptr j 0) (h' := h) rfl <| .step (v := i64 e.aB) (h' := h) (bz c rfl) <| .step (v := .ptr j 1) (h' := h) rfl <| .step (v := i64 e.seq) (h' := h) (av c 1 rfl) <| .step (v := .ptr j 2) (h' := h) rfl <| .step (v := i64 e.kind) (h' := h) (av c 2 rfl) <| .step (v := x1) (h' := h1) f1 <| .call (v := .bool true) (h' := h1) n1 <| .step (v := .bool false) (h' := h1) rfl <| .step (v := .bool false) (h' := h1) rfl <| .on rfl <| .step (v := .ptr j 3) (h' := h1) rfl <| .on rfl <| .step (v := cD e.name) (h' := h1) (av (c.old f3) 3 rfl) <| .on rfl <| .step (v := .ptr j 4) (h' := h1) rfl <| .on rfl <| .step (v := cD e.text) (h' := h1) (av (c.old f3) 4 rfl) <| .on rfl <| .step (v := x2) (h' := h2) g1 <| .on rfl <| .call (v := .bool true) (h' := h2) n2 <| .on rfl <| .step (v := .bool false) (h' := h2) rfl <| .step (v := .bool false) (h' := h2) rfl <| .step (v := .bool false) (h' := h2) rfl <| .on rfl <| .step (v := .ptr j 5) (h' := h2) rfl <| .on rfl <| .step (v := x) (h' := h2) (av (c.old (f3.trans g3)) 5 rfl) <| .on rfl <| .step (v := i64 e.bL.length) (h' := h2) (dD.len (aN.up r1 (f3.trans g3))) <| .on rfl <| .step (v := .bool true) (h' := h2) gt3 <| .step (v := .bool true) (h' := h2) rfl <| .step (v := .bool true) (h' := h2) rfl <| .off rfl <| .off rfl <| .off rfl <| .off rfl <| .step (v := .bool true) (h' := h2) rfl <| .nil, rfl, ?_, f3.trans g3, g4⟩
    unfold jv; rw [k1, k2, hk3]; rfl
   | true =>
    rw [hk3] at gt3
    refine ⟨_, h2, .step (v := .ptr j 0) (h' := h) rfl <| .step (v := i64 e.aB) (h' := h) (bz c rfl) <| .step (v := .ptr j 1) (h' := h) rfl <| .step (v := i64 e.seq) (h' := h) (av c 1 rfl) <| .step (v := .ptr j 2) (h' := h) rfl <| .step (v := i64 e.kind) (h' := h) (av c 2 rfl) <| .step (v := x1) (h' := h1) f1 <| .call (v := .bool true) (h' := h1) n1 <| .step (v := .bool false) (h' := h1) rfl <| .step (v := .bool false) (h' := h1) rfl <| .on rfl <| .step (v := .ptr j 3) (h' := h1) rfl <| .on rfl <| .step (v := cD e.name) (h' := h1) (av (c.old f3) 3 rfl) <| .on rfl <| .step (v := .ptr j 4) (h' := h1) rfl <| .on rfl <| .step (v := cD e.text) (h' := h1) (av (c.old f3) 4 rfl) <| .on rfl <| .step (v := x2) (h' := h2) g1 <| .on rfl <| .call (v := .bool true) (h' := h2) n2 <| .on rfl <| .step (v := .bool false) (h' := h2) rfl <| .step (v := .bool false) (h' := h2) rfl <| .step (v := .bool false) (h' := h2) rfl <| .on rfl <| .step (v := .ptr j 5) (h' := h2) rfl <| .on rfl <| .step (v := x) (h' := h2) (av (c.old (f3.trans g3)) 5 rfl) <| .on rfl <| .step (v := i64 e.bL.length) (h' := h2) (dD.len (aN.up r1 (f3.trans g3))) <| .on rfl <| .step (v := .bool false) (h' := h2) gt3 <| .step (v := .bool false) (h' := h2) rfl <| .step (v := .bool false) (h' := h2) rfl <| .on rfl <| .step (v := .ptr j 6) (h' := h2) rfl <| .on rfl <| .step (v := y) (h' := h2) (av (c.old (f3.trans g3)) 6 rfl) <| .on rfl <| .step (v := i64 e.changes.length) (h' := h2) (dD.len (bw.up r2 (f3.trans g3))) <| .on rfl <| .step (v := .bool (!decide (e.changes.length ≤ 255))) (h' := h2) gt4 <| .step (v := .bool (!decide (e.changes.length ≤ 255))) (h' := h2) rfl <| .nil, rfl, ?_, f3.trans g3, g4⟩
    unfold jv; rw [k1, k2, hk3]; rfl
theorem HV (e38 : aw 38 p.fs = f38) (e39 : aw 39 p.fs = f39) {cl : Bs × Int} (W : Wf h) (c : Cs h j 0 [cD cl.1, i64 cl.2]) :
  ∃ r' h', Os p (opsL (dp 9 (bh (bh x26)))) (T39 a (.ptr j 0) b d y) h (.nm r' h') ∧ y1 r' = a ∧ y38 r' = b ∧ y39 r' = d ∧ y40 r' = y ∧ y55 r' = .bool (!(Cod.short cl.1 && small cl.2)) ∧ Old h h' ∧ Wf h' := by
 obtain ⟨x1, h1, f1, f2, f3, f4⟩ := zP W (el := 3) (z := i0) cl.2
 have n1 := oC (h := h1) e38 f2 (by simp)
 cases hk : small cl.2 with
 | true =>
  have n1 : Cv p 38 [x1] h1 (.bool true) h1 := by simpa [hk] using n1
  obtain ⟨x2, h2, g1, g2, g3, g4⟩ := uJ f4 (el := 9) (z := iS) cl.1
  have n2 : Cv p 39 [x2] h2 (.bool (Cod.short cl.1)) h2 := by simpa using mZ (h := h2) e39 g2 (by simp)
  refine ⟨_, h2, .step (v := .ptr j 1) (h' := h) rfl <| .step (v := i64 cl.2) (h' := h) (av c 1 rfl) <| .step (v := x1) (h' := h1) f1 <| .call (v := .bool true) (h' := h1) n1 <| .step (v := .bool false) (h' := h1) rfl <| .step (v := .bool false) (h' := h1) rfl <| .on rfl <| .step (v := .ptr j 0) (h' := h1) rfl <| .on rfl <| .step (v := cD cl.1) (h' := h1) (bz (c.old f3) rfl) <| .on rfl <| .step (v := x2) (h' := h2) g1 <| .on rfl <| .call (v := .bool (Cod.short cl.1)) (h' := h2) n2 <| .on rfl <| .step (v := .bool (!Cod.short cl.1)) (h' := h2) (fu _) <| .step (v := .bool (!Cod.short cl.1)) (h' := h2) rfl <| .nil, rfl, rfl, rfl, rfl, ?_, f3.trans g3, g4⟩
  rw [Bool.and_true]; rfl
 | false =>
  have n1 : Cv p 38 [x1] h1 (.bool false) h1 := by simpa [hk] using n1
  refine ⟨_, h1, .step (v := .ptr j 1) (h' := h) rfl <| .step (v := i64 cl.2) (h' := h) (av c 1 rfl) <| .step (v := x1) (h' := h1) f1 <| .call (v := .bool false) (h' := h1) n1 <| .step (v := .bool true) (h' := h1) rfl <| .step (v := .bool true) (h' := h1) rfl <| .off rfl <| .off rfl <| .off rfl <| .off rfl <| .off rfl <| .step (v := .bool true) (h' := h1) rfl <| .nil, rfl, rfl, rfl, rfl, ?_, f3, f4⟩
  rw [Bool.and_false]; rfl
def Lh (r : List pS) : Bool := decide (r.length ≤ 255) && r.all eT
theorem HW (e38 : aw 38 p.fs = f38) (e39 : aw 39 p.fs = f39) (e40 : aw 40 p.fs = f40) {cg : sj} (W : Wf h) (c : Cs h j 0 (OW x cg)) (r : eL h x cg.row) (hn : cg.row.length < 9223372036854775807) :
  ∃ r' h', Os p (opsL (dp 9 (bh (bh (bh x26))))) (T41 (.ptr j 0) a b d) h (.nm r' h') ∧ y58 r' = a ∧ y59 r' = b ∧ y60 r' = d ∧ y74 r' = .bool (!gF cg) ∧ Old h h' ∧ Wf h' := by
 obtain ⟨x1, h1, f1, f2, f3, f4⟩ := uJ W (el := 9) (z := iS) cg.table
 have n1 := mZ (h := h1) e39 f2 (by simp)
 cases hk : Cod.short cg.table with
 | true =>
  have n1 : Cv p 39 [x1] h1 (.bool true) h1 := by simpa [hk] using n1
  obtain ⟨h2, n2, g3, g4⟩ := Lg (p := p) e38 e39 e40 f4 (eL.up r f3) hn
  refine ⟨_, h2, .step (v := .ptr j 0) (h' := h) rfl <| .step (v := cD cg.table) (h' := h) (bz c rfl) <| .step (v := x1) (h' := h1) f1 <| .call (v := .bool true) (h' := h1) n1 <| .step (v := .bool false) (h' := h1) rfl <| .step (v := .bool false) (h' := h1) rfl <| .on rfl <| .step (v := .ptr j 1) (h' := h1) rfl <| .on rfl <| .step (v := x) (h' := h1) (av (c.old f3) 1 rfl) <| .on rfl <| .call (v := .bool (Lh cg.row)) (h' := h2) n2 <| .on rfl <| .step (v := .bool (!Lh cg.row)) (h' := h2) (fu _) <| .step (v := .bool (!Lh cg.row)) (h' := h2) rfl <| .nil, rfl, rfl, rfl, ?_, f3.trans g3, g4⟩
  unfold gF; rw [hk, Bool.true_and]; rfl
 | false =>
  have n1 : Cv p 39 [x1] h1 (.bool false) h1 := by simpa [hk] using n1
  refine ⟨_, h1, .step (v := .ptr j 0) (h' := h) rfl <| .step (v := cD cg.table) (h' := h) (bz c rfl) <| .step (v := x1) (h' := h1) f1 <| .call (v := .bool false) (h' := h1) n1 <| .step (v := .bool true) (h' := h1) rfl <| .step (v := .bool true) (h' := h1) rfl <| .off rfl <| .off rfl <| .off rfl <| .off rfl <| .step (v := .bool true) (h' := h1) rfl <| .nil, rfl, rfl, rfl, ?_, f3, f4⟩
  unfold gF; rw [hk]; rfl
theorem wx {α : Type} {f : List AV → α → Prop} {es el : Nat} {c0 : Cl} {xs : List α} {pred : α → Bool} {R : Nat → A2} {Rc : Nat → AV → A2} {kA kB kC kD : KF} {O : List GI} {bl lab : Nat} (rd : dD h es f x xs) (W : Wf h) (g0 : Gd c0) (g1 : es ≤ bp c0)
  (hA : ∀ i h c i' K, i < xs.length → kA c i' K (R i) h = K (R i) h) {Re : A2} (hE : ∀ h c i' K, kA c i' K (R xs.length) h = .ex lab Re h)
  (hB : ∀ i h c i' K, i < xs.length → kB c i' K (R i) h = Seat.X es x (.int .i64 (i : Int)) h (fun g h => Seat.M es g h fun k h => Seat.O el es c0 h fun l h => Seat.S es l k h fun _ h => K (Rc i l) h))
  (hO : ∀ i h2 j l a, i < xs.length → a ∈ xs → f l a → Old h h2 → Wf h2 → Cs h2 j 0 l → ∃ r' h3, Os p O (Rc i (.ptr j 0)) h2 (.nm r' h3) ∧ Old h2 h3 ∧ Wf h3 ∧ ∀ c i' K, kC c i' K r' h3 = Seat.I (.bool (!pred a)) (.ret (T5 (.bool false)) h3) (.nm (R i) h3))
  (hD : ∀ i h c i' K, i < xs.length → kD c i' K (R i) h = .nm (R (i + 1)) h) :
  ∃ s, (∃ h', (Old h h' ∧ Wf h') ∧ ((s = .ex lab Re h' ∧ xs.all pred = true) ∨ (s = .ret (T5 (.bool false)) h' ∧ xs.all pred = false))) ∧ Rn p (.loop (.ag kA (.seq (.block bl (.ag kB (.seq (.ops O) (.ag kC .skip)))) (.ag kD .skip)))) (R 0) h s := by
 obtain ⟨q, o', sl, g⟩ := dD.sl rd
 refine dt xs.length (Inv := fun i r h' => r = R i ∧ (Old h h' ∧ Wf h') ∧ (xs.take i).all pred = true) (fun i r h' hi I => ?_) (fun r h' I => ?_) xs.length 0 _ h (by omega) ⟨rfl, ⟨.refl h, W⟩, by simp⟩
 ·obtain ⟨rfl, ⟨O, W'⟩, I⟩ := I
  obtain ⟨l, l1, l2, l3⟩ := g i hi
  obtain ⟨j, h2, c1, c2, c3, c4, c5, _⟩ := qJ (el := el) W' sl hi (l2.old O) l1 (c0 := c0) g0 g1
  obtain ⟨r3, h3, o1, o6, o7, o8⟩ := hO i h2 j l xs[i] hi (by simp) l3 (O.trans c4) c5 (c3.cs (k := 0) (m := l) (fun j hj => ⟨by omega, by simp⟩) (by simp))
  have s2 : ∀ c i' (K : A2 → Hp → RS), kB c i' K (R i) h' = K (Rc i (.ptr j 0)) h2 := fun c i' K => by rw [hB i h' c i' K hi, c1]
  cases hs : pred xs[i] with
  | true =>
   exact .inl ⟨_, h3, .dQ (fun c i' K => hA i h' c i' K hi) (.seq (.block (.dQ s2 (.seq (.ops o1) (.bI fun c i' K => by rw [o8, hs, Bool.not_true, mO])))) (.bI fun c i' K => hD i h3 c i' K hi)), rfl, ⟨(O.trans c4).trans o6, o7⟩, by rw [eh hi, I, hs]; rfl⟩
  | false =>
   exact .inr ⟨_, ⟨h3, ⟨(O.trans c4).trans o6, o7⟩, .inr ⟨rfl, all_false hi hs⟩⟩, .ei (.dQ (fun c i' K => hA i h' c i' K hi) (.cR (.bT (.dQ s2 (.seq (.ops o1) (.bI fun c i' K => by rw [o8, hs, Bool.not_false, nY]))))))⟩
 ·obtain ⟨rfl, O, I⟩ := I
  exact ⟨_, ⟨h', O, .inl ⟨rfl, by simpa using I⟩⟩, .de (.bI fun c i' K => hE h' c i' K)⟩
end
open Go.Cod
noncomputable section
variable {p : Pg} {h0 h h' h1 : Hp} {q j : P4} {s : Bs} {x y a b d : AV}
theorem Ob.c0 {el : Nat} {ex : Bool} {fl : Fl} {l : List AV} (o : Ob h j el ex fl l) : Cs h j 0 l := o.cs (k := 0) (m := l) (fun k hk => ⟨by omega, by simp⟩) (by simp)
structure Eb (p : Pg) : Prop where
 e10 : aw 10 p.fs = f10
 e26 : aw 26 p.fs = f26
 e38 : aw 38 p.fs = f38
 e39 : aw 39 p.fs = f39
 e40 : aw 40 p.fs = f40
theorem dB {h : Hp} {k : AV → Hp → RS} {i n : Nat} (hi : i < n) (hn : n < 9223372036854775807) : Seat.D (i64 (i : Int)) i1 h k = k (i64 ((i + 1 : Nat) : Int)) h := by
 rw [zH, Bh _ (by unfold fw; simp; omega)]; rfl
theorem wy (T : Eb p) (W : Wf h) {l : List AV} {e : vx} {B : Nat} (r : DV h l e) (bd : Dv B e) (hB : B < 9223372036854775807) : ∃ h', Cv p 26 [.agg l] h (.bool (takes e)) h' ∧ Old h h' ∧ Wf h' := by
 obtain ⟨x, y, rfl, r1, r2⟩ := r
 obtain ⟨b1, b2, b3, b4, b5, b6, b7, b8, b9⟩ := bd
 obtain ⟨j, h1, f1, f2, f3, f4, f5, f6⟩ := qt (el := 26) (l := dY x y e) W (by simp [dY])
 obtain ⟨r3, h3, o1, o2, o3, o4, o5⟩ := HU (p := p) T.e38 T.e39 f5 (Ob.c0 f3) (aN.up r1 f4) (bw.up r2 f4)
 have ht : takes e = (jv e && e.bL.all (fun c => Cod.short c.1 && small c.2) && e.changes.all gF) := by unfold takes jv; simp only [Bool.and_assoc]
 have s0 : ∀ c i' (K : A2 → Hp → RS), k26_0 c i' K (bG [.agg (dY x y e)] 0 .nil) h = K (T23 (.ptr j 0)) h1 := fun c i' K => by
  simp only [k26_0, K1, dK]
  (rw [mP f1]; try rfl)
 have s1 : ∀ c i' (K : A2 → Hp → RS), k26_1 c i' K r3 h3 = Seat.I (.bool (!jv e)) (.ret (T5 (.bool false)) h3) (.nm (T23 (.ptr j 0)) h3) := fun c i' K => by simp only [k26_1, K2, o2, o3]
 have out : ∀ (bb : Bool) (h' : Hp), Rn p (bh x26) (T23 (.ptr j 0)) h1 (.ret (T5 (.bool bb)) h') → Cv p 26 [.agg (dY x y e)] h (.bool bb) h' := fun bb h' k => .of T.e26 (by simp) (.dQ s0 k) rfl
 cases hk : jv e with
 | false =>
  refine ⟨h3, out _ _ (.cR (.seq (.ops o1) (.bI fun c i' K => ?_))), f4.trans o4, o5⟩
  rw [s1, hk, Bool.not_false, nY, ht, hk]; rfl
 | true =>
  have O3 := f4.trans o4
  have c3 := (Ob.c0 f3).old o4
  have rc := aN.up r1 O3
  have a1 : ∀ c i' (K : A2 → Hp → RS), k26_2 c i' K (T23 (.ptr j 0)) h3 = K (T38 (.ptr j 0) x (i64 e.bL.length) i0) h3 := fun c i' K => by
   simp only [k26_2, K1, t23_1]
   (rw [az, aE (av c3 5 rfl), bP (dD.len rc)]; try rfl)
  obtain ⟨s4, ⟨h4, ⟨O4, W4⟩, k4⟩, l4⟩ := wx (p := p) (c0 := .k1 (Y2 iS i0)) (el := 41) (pred := fun c : Bs × Int => Cod.short c.1 && small c.2) (R := fun i => T38 (.ptr j 0) x (i64 e.bL.length) (i64 i)) (Rc := fun i l => T39 (.ptr j 0) l x (i64 e.bL.length) (i64 i))
   (kA := k26_3) (kB := k26_4) (kC := k26_5) (kD := k26_6) (O := opsL (dp 9 (bh (bh x26)))) (bl := 1) (lab := 0) rc o5 trivial (by decide)
   (fun i h c i' K hi => by
    simp only [k26_3, K4, t38_1, t38_38, t38_39, t38_40]
    (rw [bq, bJ, if_pos (by omega)]; try rfl))
   (Re := T23 (.ptr j 0)) (fun h c i' K => by
    simp only [k26_3, K4, t38_1, t38_38, t38_39, t38_40]
    (rw [bq, bJ, if_neg (by omega)]; try rfl))
   (fun i h c i' K hi => by simp only [k26_4, K4, t38_1, t38_38, t38_39, t38_40])
   (fun i h2 j2 l cl hi hm hl O2 W2 c2 => by
    subst hl
    obtain ⟨r', h3, p1, p2, p3, p4, p5, p6, p7, p8⟩ := HV (p := p) (a := .ptr j 0) (b := x) (d := i64 e.bL.length) (y := i64 i) T.e38 T.e39 W2 c2
    exact ⟨r', h3, p1, p7, p8, fun c i' K => by simp only [k26_5, K5, p2, p3, p4, p5, p6]⟩)
   (fun i h c i' K hi => by
    simp only [k26_6, K4, t38_1, t38_38, t38_39, t38_40]
    (rw [dB hi (by omega)]; try rfl))
  rcases k4 with ⟨rfl, ha⟩ | ⟨rfl, ha⟩
  ·have O4' := O3.trans O4
   have c4 := c3.old O4
   have rg := bw.up r2 O4'
   have a2 : ∀ c i' (K : A2 → Hp → RS), k26_7 c i' K (T23 (.ptr j 0)) h4 = K (T40 y (i64 e.changes.length) i0) h4 := fun c i' K => by
    simp only [k26_7, K1, t23_1]
    (rw [az, aE (av c4 6 rfl), bP (dD.len rg)]; try rfl)
   obtain ⟨s5, ⟨h5, ⟨O5, W5⟩, k5⟩, l5⟩ := wx (p := p) (c0 := .k1 (Y3 iS .ak (.bool false))) (el := 45) (pred := gF) (R := fun i => T40 y (i64 e.changes.length) (i64 i)) (Rc := fun i l => T41 l y (i64 e.changes.length) (i64 i))
    (kA := k26_8) (kB := k26_9) (kC := k26_10) (kD := k26_11) (O := opsL (dp 9 (bh (bh (bh x26))))) (bl := 3) (lab := 2) rg W4 trivial (by decide)
    (fun i h c i' K hi => by
     simp only [k26_8, K3, t40_58, t40_59, t40_60]
     (rw [bq, bJ, if_pos (by omega)]; try rfl))
    (Re := T9) (fun h c i' K => by
     simp only [k26_8, K3, t40_58, t40_59, t40_60]
     (rw [bq, bJ, if_neg (by omega)]; try rfl))
    (fun i h c i' K hi => by simp only [k26_9, K3, t40_58, t40_59, t40_60])
    (fun i h2 j2 l cg hi hm hl O2 W2 c2 => by
     obtain ⟨z, rfl, hz⟩ := hl
     obtain ⟨r', h3, p1, p2, p3, p4, p5, p6, p7⟩ := HW (p := p) (a := y) (b := i64 e.changes.length) (d := i64 i) T.e38 T.e39 T.e40 W2 c2 (eL.up hz O2) (by have := (b9 cg hm).2.1; omega)
     exact ⟨r', h3, p1, p6, p7, fun c i' K => by simp only [k26_10, K4, p2, p3, p4, p5]⟩)
    (fun i h c i' K hi => by
     simp only [k26_11, K3, t40_58, t40_59, t40_60]
     (rw [dB hi (by omega)]; try rfl))
   have pre : ∀ bb h' , Rn p (bh (bh (bh x26))) (T23 (.ptr j 0)) h4 (.ret (T5 (.bool bb)) h') → Rn p (bh x26) (T23 (.ptr j 0)) h1 (.ret (T5 (.bool bb)) h') := fun bb h' k =>
    .seq (.seq (.ops o1) (.bI (s := .nm (T23 (.ptr j 0)) h3) fun c i' K => by rw [s1, hk, Bool.not_true, mO])) (.seq (.dQ a1 (.bA l4)) k)
   have hb : takes e = e.changes.all gF := by rw [ht, hk, ha]; simp
   rcases k5 with ⟨rfl, hc⟩ | ⟨rfl, hc⟩
   ·refine ⟨h5, out _ _ (pre _ _ (.seq (.dQ a2 (.bA l5)) (.bI fun c i' K => ?_))), O4'.trans O5, W5⟩
    rw [hb, hc]; rfl
   ·refine ⟨h5, out _ _ (pre _ _ (.cR (.dQ a2 (.bT ?_)))), O4'.trans O5, W5⟩
    rw [hb, hc]; exact l5
  ·refine ⟨h4, out _ _ (.seq (.seq (.ops o1) (.bI (s := .nm (T23 (.ptr j 0)) h3) fun c i' K => ?_)) (.cR (.dQ a1 (.bT ?_)))), O3.trans O4, W4⟩
   ·rw [s1, hk, Bool.not_true, mO]
   ·rw [ht, hk, ha]
    exact l4
end
open Go.Cod
noncomputable section
variable {p : Pg} {h0 h h' h1 : Hp} {q j : P4} {s : Bs} {x y a b d e f : AV}
theorem cQ {α : Type} {g : α → Bs} {l : List α} {i : Nat} (hi : i < l.length) : (l.take (i + 1)).flatMap g = (l.take i).flatMap g ++ g l[i] := by
 rw [List.take_succ_eq_append_getElem hi, List.flatMap_append]; simp
theorem eV {α : Type} {g : α → Bs} (l : List α) (i : Nat) : ((l.take i).flatMap g).length ≤ (l.flatMap g).length := by
 conv => rhs; rw [← List.take_append_drop i l, List.flatMap_append, List.length_append]
 omega
theorem Wr.copy (w : Wr h0 h q s) {es n el o i : Nat} {x : AV} {q' : P4} {l : List AV} (sl : zq x es n q' o) (hi : i < n) (c : Cs h0 q' (o + i * es) l) (hl : l.length = es) {c0 : Cl} (hc : Gd c0) (hr : es ≤ bp c0) :
  ∃ j h1 h0', (∀ K : AV → Hp → RS, Seat.X es x (.int .i64 (i : Int)) h (fun g h => Seat.M es g h fun k h => Seat.O el es c0 h fun l h => Seat.S es l k h fun _ h => K l h) = K (.ptr j 0) h1) ∧ Old h0 h0' ∧ Wr h0' h1 q s ∧ Cs h0' j 0 l := by
 obtain ⟨j, h1, c1, c2, c3, c4, c5, _⟩ := qJ (el := el) w.wf sl hi (c.old w.old) hl hc hr
 obtain ⟨h0', g1, g2, g3⟩ := w.base c4 c5
 exact ⟨j, h1, h0', c1, g1, g2, (Ob.c0 c3).eq (g3 j c2)⟩
theorem Ec (T : Bg p) {row : List pS} (w : Wr h0 h q s) (r : eL h0 x row) (hs : s.length + (row.flatMap oz).length ≤ 16777216) (hn : row.length < 9223372036854775807) :
  ∃ h', Rn p (.loop (.ag vB .skip)) (T29 (.ptr q 0) a b d e x (i64 row.length) i0) h (.ex 4 (T29 (.ptr q 0) a b d e x (i64 row.length) (i64 row.length)) h') ∧ Wr h0 h' q (s ++ row.flatMap oz) := by
 obtain ⟨q', o', sl, g⟩ := dD.sl r
 obtain ⟨r', h', ⟨_, I⟩, k⟩ := kZ (p := p) (body := .ag vB .skip) (r := T29 (.ptr q 0) a b d e x (i64 row.length) i0) (h := h) row.length
  (Inv := fun i r h => r = T29 (.ptr q 0) a b d e x (i64 row.length) (i64 i) ∧ Wr h0 h q (s ++ (row.take i).flatMap oz)) (l := 4) (Re := T29 (.ptr q 0) a b d e x (i64 row.length) (i64 row.length)) (fun i r h hi I => by
   obtain ⟨rfl, w⟩ := I
   obtain ⟨l, l1, l2, rfl⟩ := g i hi
   obtain ⟨j, h1, h0', c1, c2, c3, c4⟩ := w.copy (el := 47) sl hi l2 l1 (c0 := .k1 (Y3 i0 i0 iS)) trivial (by decide)
   have hz : (s ++ (row.take i).flatMap oz).length + (oz row[i]).length ≤ 16777216 := by
    have := eV (g := oz) row (i + 1)
    rw [cQ hi, List.length_append] at this
    rw [List.length_append]; omega
   have hv : (oz row[i]).length = 8 + 8 + (2 + row[i].s.length) := by unfold oz; simp only [List.length_append, aC, aJ]
   obtain ⟨h2, a1, w2⟩ := js T c3 (n := row[i].kind) (by omega)
   obtain ⟨h3, a2, w3⟩ := js T w2 (n := row[i].n) (by rw [List.length_append, aC]; omega)
   obtain ⟨h4, a3, w4⟩ := jt T w3 (t := row[i].s) (by rw [List.length_append, List.length_append, aC, aC]; omega)
   refine ⟨T29 (.ptr q 0) a b d e x (i64 row.length) (i64 (i + 1 : Nat)), h4, .ag ((a1.and (a2.and a3)).mono fun m g => ?_), rfl, ?_⟩
   ·obtain ⟨g1, g2, g3⟩ := g
    simp only [vB, K8, t29_3, t29_7, t29_62, t29_63, t29_64, t29_78, t29_79, t29_80]
    (rw [bq, bJ, if_pos (by omega), c1, az, aE (bz (c4.old c3.old) rfl), bm g1, az, aE (av (c4.old w2.old) 1 rfl), bm g2, az, aE (av (c4.old w3.old) 2 rfl), bm g3, dB hi hn]; try rfl)
   ·have := w4.Ov c2
    rw [cQ hi, oz]
    simpa only [List.append_assoc] using this) (fun r h I => by
   obtain ⟨rfl, w⟩ := I
   refine .bI fun c i K => ?_
   simp only [vB, K8, t29_3, t29_7, t29_62, t29_63, t29_64, t29_78, t29_79, t29_80]
   (rw [bq, bJ, if_neg (by omega)]; try rfl)) ⟨rfl, by simpa using w⟩
 exact ⟨h', k, by simpa using I⟩
theorem wz (c : sj) : (oA c).length = (2 + c.table.length) + 1 + (c.row.flatMap oz).length + 1 := by unfold oA; simp only [List.length_append, aJ, aX]
theorem Ed (T : Bg p) {cs : List sj} (w : Wr h0 h q s) (r : bw h0 x cs) (hs : s.length + (cs.flatMap oA).length ≤ 16777216) (hn : cs.length < 9223372036854775807) (hr : ∀ c, c ∈ cs → c.row.length < 9223372036854775807) :
  ∃ h', Rn p (dp 3 (bh (bh (bh (bh x17))))) (T27 (.ptr q 0) x (i64 cs.length) i0) h (.ex 2 (T7 (.ptr q 0)) h') ∧ Wr h0 h' q (s ++ cs.flatMap oA) := by
 obtain ⟨q', o', sl, g⟩ := dD.sl r
 obtain ⟨r', h', ⟨_, I⟩, k⟩ := kZ (p := p) (body := dp 4 (bh (bh (bh (bh x17))))) (r := T27 (.ptr q 0) x (i64 cs.length) i0) (h := h) cs.length
  (Inv := fun i r h => r = T27 (.ptr q 0) x (i64 cs.length) (i64 i) ∧ Wr h0 h q (s ++ (cs.take i).flatMap oA)) (l := 2) (Re := T7 (.ptr q 0)) (fun i r h hi I => by
   obtain ⟨rfl, w⟩ := I
   obtain ⟨l, l1, l2, z, rfl, hrow⟩ := g i hi
   obtain ⟨j, h1, h0', c1, c2, c3, c4⟩ := w.copy (el := 45) sl hi l2 l1 (c0 := .k1 (Y3 iS .ak (.bool false))) trivial (by decide)
   have hz : (s ++ (cs.take i).flatMap oA).length + (oA cs[i]).length ≤ 16777216 := by
    have := eV (g := oA) cs (i + 1)
    rw [cQ hi, List.length_append] at this
    rw [List.length_append]; omega
   rw [wz] at hz
   have hl := hr cs[i] (by simp)
   obtain ⟨h2, a1, w2⟩ := jt T c3 (t := cs[i].table) (by omega)
   obtain ⟨h3, a2, w3⟩ := mX T w2 (n := cs[i].row.length) (by rw [List.length_append, aJ]; omega)
   have hrow' : eL h0' z cs[i].row := eL.up hrow c2
   obtain ⟨h4, a3, w4⟩ := Ec (p := p) (a := .ptr j 0) (b := x) (d := i64 cs.length) (e := i64 i) T w3 hrow' (by rw [List.length_append, List.length_append, aJ, aX]; omega) hl
   obtain ⟨h5, a4, w5⟩ := mX T w4 (n := if cs[i].remove then 1 else 0) (by rw [List.length_append, List.length_append, List.length_append, aJ, aX]; omega)
   have s1 : ∀ c i' (K : A2 → Hp → RS), k17_6 c i' K (T27 (.ptr q 0) x (i64 cs.length) (i64 i)) h = K (T27 (.ptr q 0) x (i64 cs.length) (i64 i)) h := fun c i' K => by
    simp only [k17_6, K4, t27_3, t27_62, t27_63, t27_64]
    (rw [bq, bJ, if_pos (by omega)]; try rfl)
   have s2 : Ev fun m => ∀ K : A2 → Hp → RS, k17_7 (ar p (exec p m)) (aF p (exec p m)) K (T27 (.ptr q 0) x (i64 cs.length) (i64 i)) h = K (T28 (.ptr q 0) (.ptr j 0) x (i64 cs.length) (i64 i)) h3 := (a1.and a2).mono fun m g K => by
    obtain ⟨g1, g2⟩ := g
    simp only [k17_7, K4, t27_3, t27_62, t27_63, t27_64]
    (rw [c1, az, aE (bz (c4.old c3.old) rfl), bm g1, az, aE (av (c4.old w2.old) 1 rfl), bP (dD.len (eL.up hrow' w2.old)), bm g2]; try rfl)
   have s3 : ∀ c i' (K : A2 → Hp → RS), k17_8 c i' K (T28 (.ptr q 0) (.ptr j 0) x (i64 cs.length) (i64 i)) h3 = K (T29 (.ptr q 0) (.ptr j 0) x (i64 cs.length) (i64 i) z (i64 cs[i].row.length) i0) h3 := fun c i' K => by
    simp only [k17_8, K5, t28_3, t28_7, t28_62, t28_63, t28_64]
    (rw [az, aE (av (c4.old w3.old) 1 rfl), bP (dD.len (eL.up hrow' w3.old))]; try rfl)
   have s4 : Rn p (.ag k17_10 .skip) (T29 (.ptr q 0) (.ptr j 0) x (i64 cs.length) (i64 i) z (i64 cs[i].row.length) (i64 cs[i].row.length)) h4 (.nm (T27 (.ptr q 0) x (i64 cs.length) (i64 i)) h5) := .ag (a4.mono fun m g4 => by
    simp only [k17_10, K5, t29_3, t29_7, t29_62, t29_63, t29_64]
    (rw [az, aE (av (c4.old w4.old) 2 rfl), OV]; try rfl)
    cases hb : cs[i].remove with
    | true =>
     rw [hb] at g4
     rw [if_pos rfl]
     exact bm g4
    | false =>
     rw [hb] at g4
     rw [if_neg (by simp)]
     exact bm g4)
   have s5 : ∀ c i' (K : A2 → Hp → RS), k17_11 c i' K (T27 (.ptr q 0) x (i64 cs.length) (i64 i)) h5 = .nm (T27 (.ptr q 0) x (i64 cs.length) (i64 (i + 1 : Nat))) h5 := fun c i' K => by
    simp only [k17_11, K4, t27_3, t27_62, t27_63, t27_64]
    (rw [dB hi hn]; try rfl)
   refine ⟨_, h5, .dQ s1 (.seq (.block (.to s2 (.seq (.dQ s3 (.bA a3)) s4))) (.bI s5)), rfl, ?_⟩
   have w6 := w5.Ov c2
   rw [lh _ (by omega)] at w6
   have hb : u64 (if cs[i].remove then 1 else 0) = if cs[i].remove then 1 else 0 := by split <;> rfl
   rw [hb] at w6
   rw [cQ hi, oA]
   simpa only [List.append_assoc] using w6) (fun r h I => by
   obtain ⟨rfl, w⟩ := I
   refine .bI fun c i K => ?_
   simp only [k17_6, K4, t27_3, t27_62, t27_63, t27_64]
   (rw [bq, bJ, if_neg (by omega)]; try rfl)) ⟨rfl, by simpa using w⟩
 exact ⟨h', k, by simpa using I⟩
theorem Ee (T : Bg p) {cs : List (Bs × Int)} (w : Wr h0 h q s) (r : aN h0 x cs) (hs : s.length + (cs.flatMap oB).length ≤ 16777216) (hn : cs.length < 9223372036854775807) :
  ∃ h', Rn p (dp 3 (bh (bh x17))) (T26 a (.ptr q 0) x (i64 cs.length) i0) h (.ex 0 (T26 a (.ptr q 0) x (i64 cs.length) (i64 cs.length)) h') ∧ Wr h0 h' q (s ++ cs.flatMap oB) := by
 obtain ⟨q', o', sl, g⟩ := dD.sl r
 obtain ⟨r', h', ⟨_, I⟩, k⟩ := kZ (p := p) (body := dp 4 (bh (bh x17))) (r := T26 a (.ptr q 0) x (i64 cs.length) i0) (h := h) cs.length
  (Inv := fun i r h => r = T26 a (.ptr q 0) x (i64 cs.length) (i64 i) ∧ Wr h0 h q (s ++ (cs.take i).flatMap oB)) (l := 0) (Re := T26 a (.ptr q 0) x (i64 cs.length) (i64 cs.length)) (fun i r h hi I => by
   obtain ⟨rfl, w⟩ := I
   obtain ⟨l, l1, l2, rfl⟩ := g i hi
   obtain ⟨j, h1, h0', c1, c2, c3, c4⟩ := w.copy (el := 41) sl hi l2 l1 (c0 := .k1 (Y2 iS i0)) trivial (by decide)
   have hz : (s ++ (cs.take i).flatMap oB).length + (oB cs[i]).length ≤ 16777216 := by
    have := eV (g := oB) cs (i + 1)
    rw [cQ hi, List.length_append] at this
    rw [List.length_append]; omega
   have hv : (oB cs[i]).length = (2 + cs[i].1.length) + 8 := by unfold oB; simp only [List.length_append, aC, aJ]
   obtain ⟨h2, a1, w2⟩ := jt T c3 (t := cs[i].1) (by omega)
   obtain ⟨h3, a2, w3⟩ := js T w2 (n := cs[i].2) (by rw [List.length_append, aJ]; omega)
   refine ⟨T26 a (.ptr q 0) x (i64 cs.length) (i64 (i + 1 : Nat)), h3, .ag ((a1.and a2).mono fun m g => ?_), rfl, ?_⟩
   ·obtain ⟨g1, g2⟩ := g
    simp only [k17_3, K5, t26_1, t26_3, t26_41, t26_42, t26_43]
    (rw [bq, bJ, if_pos (by omega), c1, az, aE (bz (c4.old c3.old) rfl), bm g1, az, aE (av (c4.old w2.old) 1 rfl), bm g2, dB hi hn]; try rfl)
   ·have := w3.Ov c2
    rw [cQ hi, oB]
    simpa only [List.append_assoc] using this) (fun r h I => by
   obtain ⟨rfl, w⟩ := I
   refine .bI fun c i K => ?_
   simp only [k17_3, K5, t26_1, t26_3, t26_41, t26_42, t26_43]
   (rw [bq, bJ, if_neg (by omega)]; try rfl)) ⟨rfl, by simpa using w⟩
 exact ⟨h', k, by simpa using I⟩
end
open Go.Cod
noncomputable section
variable {p : Pg} {h0 h h' h1 : Hp} {q j : P4} {s : Bs} {x y a b d e f : AV}
theorem tg (T : Bg p) (TT : Eb p) (e17 : aw 17 p.fs = f17) (e29 : aw 29 p.fs = f29) (W : Wf h) {l : List AV} {e : vx} {B : Nat} (r : DV h l e) (bd : Dv B e) (hB : B < 9223372036854775807) (hs : (enc e).length ≤ 16777216) :
  ∃ v h', Cv p 17 [.agg l] h v h' ∧ jR h' v 5 1 (bc (if takes e = true then enc e else [])) (fun j => ah j h = .none) ∧ Old h h' ∧ Wf h' := by
 obtain ⟨x, y, rfl, r1, r2⟩ := r
 obtain ⟨j, h1, f1, f2, f3, f4, f5, f6⟩ := qt (el := 26) (l := dY x y e) W (by simp [dY])
 obtain ⟨h2, t1, t2, t3⟩ := wy (p := p) TT f5 (l := dY x y e) (e := e) ⟨x, y, rfl, aN.up r1 f4, bw.up r2 f4⟩ bd hB
 have M1 := dC (m := 7) (Ob.c0 f3) (by simp [dY])
 cases ht : takes e with
 | false =>
  rw [ht] at t1
  refine ⟨.ak, h2, .of (r' := T5 .ak) (h1 := h2) e17 (by simp) (.ag (t1.mono fun m g => ?_)) rfl, ?_, f4.trans t2, t3⟩
  ·simp only [k17_0, K1, dK]
   (rw [mP f1, fM M1, bm g, fu, aV, Bool.not_false, nY]; try rfl)
  ·rw [if_neg (by simp)]
   exact .inl ⟨rfl, .inl rfl⟩
 | true =>
  rw [ht] at t1
  rw [if_pos rfl]
  obtain ⟨b1, b2, b3, b4, b5, b6, b7, b8, b9⟩ := bd
  have O2 := f4.trans t2
  have c2 := (Ob.c0 f3).old t2
  have rc := aN.up r1 O2
  have rg := bw.up r2 O2
  obtain ⟨q, h3, a0, w3, _⟩ := te T t3
  have hz : (enc e).length = 8 + 8 + 8 + (2 + e.name.length) + (2 + e.text.length) + 1 + (e.bL.flatMap oB).length + 1 + (e.changes.flatMap oA).length := by
   unfold enc; simp only [List.length_append, aC, aJ, aX]
  obtain ⟨h4, a1, w4⟩ := js T w3 (n := e.aB) (by simp)
  obtain ⟨h5, a2, w5⟩ := js T w4 (n := e.seq) (by simp [aC])
  obtain ⟨h6, a3, w6⟩ := js T w5 (n := e.kind) (by simp [aC])
  obtain ⟨h7, a4, w7⟩ := jt T w6 (t := e.name) (by simp only [List.length_append, List.length_nil, aC]; omega)
  obtain ⟨h8, a5, w8⟩ := jt T w7 (t := e.text) (by simp only [List.length_append, List.length_nil, aC, aJ]; omega)
  obtain ⟨h9, a6, w9⟩ := mX T w8 (n := e.bL.length) (by simp only [List.length_append, List.length_nil, aC, aJ]; omega)
  obtain ⟨ha, a7, wa⟩ := Ee (p := p) (a := .ptr j 0) T w9 rc (by simp only [List.length_append, List.length_nil, aC, aJ, aX]; omega) (by omega)
  obtain ⟨hb, a8, wb⟩ := mX T wa (n := e.changes.length) (by simp only [List.length_append, List.length_nil, aC, aJ, aX]; omega)
  obtain ⟨hc, a9, wc⟩ := Ed (p := p) T wb rg (by simp only [List.length_append, List.length_nil, aC, aJ, aX]; omega) (by omega) (fun c hc => by have := (b9 c hc).2.1; omega)
  obtain ⟨v, hd, aa, wd, Od, Wd⟩ := zO T e29 wc (by simp only [List.length_append, List.length_nil, aC, aJ, aX]; omega)
  have s0 : Ev fun m => ∀ K : A2 → Hp → RS, k17_0 (ar p (exec p m)) (aF p (exec p m)) K (bG [.agg (dY x y e)] 0 .nil) h = K (T6 (.ptr j 0) (.ptr q 0)) h6 := (t1.and (a0.and (a1.and (a2.and a3)))).mono fun m g K => by
   obtain ⟨g0, g1, g2, g3, g4⟩ := g
   simp only [k17_0, K1, dK]
   (rw [mP f1, fM M1, bm g0, fu, aV, Bool.not_true, mO, bm g1, az, aE (bz (c2.old w3.old) rfl), bm g2, az, aE (av (c2.old w4.old) 1 rfl), bm g3, az, aE (av (c2.old w5.old) 2 rfl), bm g4]; try rfl)
  have s1 : Ev fun m => ∀ K : A2 → Hp → RS, k17_1 (ar p (exec p m)) (aF p (exec p m)) K (T6 (.ptr j 0) (.ptr q 0)) h6 = K (T6 (.ptr j 0) (.ptr q 0)) h9 := (a4.and (a5.and a6)).mono fun m g K => by
   obtain ⟨g0, g1, g2⟩ := g
   simp only [k17_1, K2, t6_1, t6_3]
   (rw [az, aE (av (c2.old w6.old) 3 rfl), bm g0, az, aE (av (c2.old w7.old) 4 rfl), bm g1, az, aE (av (c2.old w8.old) 5 rfl), bP (dD.len (aN.up rc w8.old)), bm g2]; try rfl)
  have s2 : ∀ c i' (K : A2 → Hp → RS), k17_2 c i' K (T6 (.ptr j 0) (.ptr q 0)) h9 = K (T26 (.ptr j 0) (.ptr q 0) x (i64 e.bL.length) i0) h9 := fun c i' K => by
   simp only [k17_2, K2, t6_1, t6_3]
   (rw [az, aE (av (c2.old w9.old) 5 rfl), bP (dD.len (aN.up rc w9.old))]; try rfl)
  have s4 : Ev fun m => ∀ K : A2 → Hp → RS, k17_4 (ar p (exec p m)) (aF p (exec p m)) K (T26 (.ptr j 0) (.ptr q 0) x (i64 e.bL.length) (i64 e.bL.length)) ha = K (T6 (.ptr j 0) (.ptr q 0)) hb := a8.mono fun m g K => by
   simp only [k17_4, K2, t26_1, t26_3]
   (rw [az, aE (av (c2.old wa.old) 6 rfl), bP (dD.len (bw.up rg wa.old)), bm g]; try rfl)
  have s5 : ∀ c i' (K : A2 → Hp → RS), k17_5 c i' K (T6 (.ptr j 0) (.ptr q 0)) hb = K (T27 (.ptr q 0) y (i64 e.changes.length) i0) hb := fun c i' K => by
   simp only [k17_5, K2, t6_1, t6_3]
   (rw [az, aE (av (c2.old wb.old) 6 rfl), bP (dD.len (bw.up rg wb.old))]; try rfl)
  have s6 : Rn p (.ag k17_12 .skip) (T7 (.ptr q 0)) hc (.ret (T5 v) hd) := .ag (aa.mono fun m g => by
   simp only [k17_12, K1, t7_3]
   (rw [bm g]; try rfl))
  refine ⟨v, hd, .of (r' := T5 v) (h1 := hd) e17 (by simp) (.to s0 (.to s1 (.seq (.dQ s2 (.bA a7)) (.to s4 (.seq (.dQ s5 (.bA a9)) s6))))) rfl, ?_, O2.trans Od, Wd⟩
  have k1 := lh e.bL.length (by omega)
  have k2 := lh e.changes.length (by omega)
  rw [k1, k2] at wd
  refine jR.mono (b := fun j => ah j h2 = .none) ?_ fun j hj => O2.none hj
  simpa only [enc, List.nil_append, List.append_assoc] using wd
end
open Go.Cod
noncomputable section
variable {p : Pg} {h0 h h' h1 : Hp} {q j : P4} {s : Bs} {x y a b d e f : AV}
theorem qO (e14 : aw 14 p.fs = f14) (W : Wf h) : ∃ k h', Cv p 14 [.ptr j 0] h (.slice k 0 3 3) h' ∧ Cs h' k 0 [.ptr j 1, .ptr j 2, .ptr j 3] ∧ Old h h' ∧ Wf h' ∧ ah k h = .none := by
 obtain ⟨k, h1, f1, f2, f3, f4, f5, f6⟩ := iD (el := 54) (es := 1) (n := 3) (z := [.ct, .ct, .ct]) (ps := [.mk 0 1 (.c (.ptr j 1)), .mk 1 1 (.c (.ptr j 2)), .mk 2 1 (.c (.ptr j 3))]) (l := [.ptr j 1, .ptr j 2, .ptr j 3]) W rfl rfl (by simp)
 refine ⟨k, h1, .of (r' := T5 (.slice k 0 3 3)) (h1 := h1) e14 (by simp) (.bI fun c i K => ?_) rfl, Ob.c0 f3, f4, f5, f2⟩
 simp only [k14_0, K1, dK]
 have n1 : nC (.ptr j 0) h = .ok (.ptr j 0) h := rfl
 have a1 : fA 1 (.ptr j 0) h = .ok (.ptr j 1) h := rfl
 have a2 : fA 2 (.ptr j 0) h = .ok (.ptr j 2) h := rfl
 have a3 : fA 3 (.ptr j 0) h = .ok (.ptr j 3) h := rfl
 (rw [sZ n1, sZ a1, sZ n1, sZ a2, sZ n1, sZ a3, f1]; try rfl)
theorem HX {k : Nat} {n : Int} (c : Cs h j k [i64 n]) : ∃ r', Os p (opsL (dp 9 (bh x11))) (T25 a (.ptr j k) b d e) h (.nm r' h) ∧ y1 r' = a ∧ y5 r' = b ∧ y6 r' = d ∧ y7 r' = e ∧ y20 r' = .bool (!small n) := by
 have lt : bK .lt (i64 n) (ni 2147483647) h = .ok (.bool (decide (n < Int.negSucc 2147483647))) h := tc _ _ _
 have gt : bK .gt (i64 n) (pi 2147483647) h = .ok (.bool (decide (Int.ofNat 2147483647 < n))) h := fp _ _ _
 by_cases hc : n < Int.negSucc 2147483647
 ·rw [decide_eq_true hc] at lt
  refine ⟨_, .step (v := .ptr j k) (h' := h) rfl <| .step (v := .ptr j k) (h' := h) rfl <| .step (v := i64 n) (h' := h) (bz c rfl) <| .step (v := .bool true) (h' := h) lt <| .step (v := .bool true) (h' := h) rfl <| .off rfl <| .off rfl <| .off rfl <| .off rfl <| .step (v := .bool true) (h' := h) rfl <| .nil, rfl, rfl, rfl, rfl, ?_⟩
  have : small n = false := by
   unfold small
   rw [decide_eq_false (show ¬ -2147483648 ≤ n from fun g => by have : n < -2147483648 := hc; omega)]; rfl
  rw [this]; rfl
 ·rw [decide_eq_false hc] at lt
  have hc' : -2147483648 ≤ n := by have : ¬ n < -2147483648 := hc; omega
  have gt : bK .gt (i64 n) (pi 2147483647) h = .ok (.bool (!small n)) h := by
   rw [gt]
   congr 2
   unfold small
   rw [decide_eq_true hc', Bool.true_and, ← decide_not, decide_eq_decide]
   show (2147483647 : Int) < n ↔ _
   omega
  exact ⟨_, .step (v := .ptr j k) (h' := h) rfl <| .step (v := .ptr j k) (h' := h) rfl <| .step (v := i64 n) (h' := h) (bz c rfl) <| .step (v := .bool false) (h' := h) lt <| .step (v := .bool false) (h' := h) rfl <| .on rfl <| .step (v := .ptr j k) (h' := h) rfl <| .on rfl <| .step (v := .ptr j k) (h' := h) rfl <| .on rfl <| .step (v := i64 n) (h' := h) (bz c rfl) <| .on rfl <| .step (v := .bool (!small n)) (h' := h) gt <| .step (v := .bool (!small n)) (h' := h) rfl <| .nil, rfl, rfl, rfl, rfl, rfl⟩
theorem Ng (a b c d e : AV) (E : List AV) (k : Nat) (hk : k < E.length) : ([a, b, c, d, e] ++ E)[5 + k]'(by simp; omega) = E[k] := by
 rw [List.getElem_append_right (by simp)]
 simp
theorem Ef (TT : Eb p) {s : lK} {B : Nat} (W : Wf h) (c : Cs h j 0 (gu x y s)) (r1 : aN h x s.entry.bL) (r2 : bw h y s.entry.changes) (bd : Dv B s.entry) (hB : B < 9223372036854775807) :
  ∃ r' h', Os p (opsL (fst (bh (bh x11)))) (T23 (.ptr j 0)) h (.nm r' h') ∧ y2 r' = .bool (decide (1 ≤ s.kind) && decide (s.kind ≤ 9) && decide (s.name.length ≤ 255) && takes s.entry) ∧ Old h h' ∧ Wf h' := by
 have ge : bK .ge (i64 s.kind) (pi 1) h = .ok (.bool (decide (1 ≤ s.kind))) h := JV _ _ _
 have le9 : bK .le (i64 s.kind) (pi 9) h = .ok (.bool (decide (s.kind ≤ 9))) h := DR _ _ _
 have le255 : bK .le (i64 s.name.length) (pi 255) h = .ok (.bool (decide (s.name.length ≤ 255))) h := by
  show AH (.int .i64 s.name.length) (.int .i64 (.ofNat 255)) h = _
  rw [DR]
  congr 2
  rw [decide_eq_decide]
  show _ ≤ (255 : Int) ↔ _
  omega
 obtain ⟨h', tk, tO, tW⟩ := wy (p := p) TT W (l := dY x y s.entry) ⟨x, y, rfl, r1, r2⟩ bd hB
 have c5 : Cs h j 5 (dY x y s.entry) := by
  have := c.sub 5 (dY x y s.entry) (by simp [gu, dY]) (fun k hk => Ng _ _ _ _ _ _ k hk)
  simpa using this
 cases k1 : decide (1 ≤ s.kind) with
 | false =>
  rw [k1] at ge
  exact ⟨_, h, .step (v := .ptr j 0) (h' := h) rfl <| .step (v := i64 s.kind) (h' := h) (bz c rfl) <| .step (v := .bool false) (h' := h) ge <| .step (v := .bool false) (h' := h) rfl <| .off rfl <| .off rfl <| .off rfl <| .step (v := .bool false) (h' := h) rfl <| .step (v := .bool false) (h' := h) rfl <| .off rfl <| .off rfl <| .off rfl <| .off rfl <| .step (v := .bool false) (h' := h) rfl <| .step (v := .bool false) (h' := h) rfl <| .off rfl <| .off rfl <| .off rfl <| .step (v := .bool false) (h' := h) rfl <| .step (v := .bool false) (h' := h) rfl <| .nil, rfl, .refl h, W⟩
 | true =>
  rw [k1] at ge
  cases k2 : decide (s.kind ≤ 9) with
  | false =>
   rw [k2] at le9
   exact ⟨_, h, .step (v := .ptr j 0) (h' := h) rfl <| .step (v := i64 s.kind) (h' := h) (bz c rfl) <| .step (v := .bool true) (h' := h) ge <| .step (v := .bool true) (h' := h) rfl <| .on rfl <| .step (v := .ptr j 0) (h' := h) rfl <| .on rfl <| .step (v := i64 s.kind) (h' := h) (bz c rfl) <| .on rfl <| .step (v := .bool false) (h' := h) le9 <| .step (v := .bool false) (h' := h) rfl <| .step (v := .bool false) (h' := h) rfl <| .off rfl <| .off rfl <| .off rfl <| .off rfl <| .step (v := .bool false) (h' := h) rfl <| .step (v := .bool false) (h' := h) rfl <| .off rfl <| .off rfl <| .off rfl <| .step (v := .bool false) (h' := h) rfl <| .step (v := .bool false) (h' := h) rfl <| .nil, rfl, .refl h, W⟩
  | true =>
   rw [k2] at le9
   cases k3 : decide (s.name.length ≤ 255) with
   | false =>
    rw [k3] at le255
    exact ⟨_, h, .step (v := .ptr j 0) (h' := h) rfl <| .step (v := i64 s.kind) (h' := h) (bz c rfl) <| .step (v := .bool true) (h' := h) ge <| .step (v := .bool true) (h' := h) rfl <| .on rfl <| .step (v := .ptr j 0) (h' := h) rfl <| .on rfl <| .step (v := i64 s.kind) (h' := h) (bz c rfl) <| .on rfl <| .step (v := .bool true) (h' := h) le9 <| .step (v := .bool true) (h' := h) rfl <| .step (v := .bool true) (h' := h) rfl <| .on rfl <| .step (v := .ptr j 4) (h' := h) rfl <| .on rfl <| .step (v := cD s.name) (h' := h) (av c 4 rfl) <| .on rfl <| .step (v := i64 s.name.length) (h' := h) (cZ _) <| .on rfl <| .step (v := .bool false) (h' := h) le255 <| .step (v := .bool false) (h' := h) rfl <| .step (v := .bool false) (h' := h) rfl <| .off rfl <| .off rfl <| .off rfl <| .step (v := .bool false) (h' := h) rfl <| .step (v := .bool false) (h' := h) rfl <| .nil, rfl, .refl h, W⟩
   | true =>
    rw [k3] at le255
    exact ⟨_, h', .step (v := .ptr j 0) (h' := h) rfl <| .step (v := i64 s.kind) (h' := h) (bz c rfl) <| .step (v := .bool true) (h' := h) ge <| .step (v := .bool true) (h' := h) rfl <| .on rfl <| .step (v := .ptr j 0) (h' := h) rfl <| .on rfl <| .step (v := i64 s.kind) (h' := h) (bz c rfl) <| .on rfl <| .step (v := .bool true) (h' := h) le9 <| .step (v := .bool true) (h' := h) rfl <| .step (v := .bool true) (h' := h) rfl <| .on rfl <| .step (v := .ptr j 4) (h' := h) rfl <| .on rfl <| .step (v := cD s.name) (h' := h) (av c 4 rfl) <| .on rfl <| .step (v := i64 s.name.length) (h' := h) (cZ _) <| .on rfl <| .step (v := .bool true) (h' := h) le255 <| .step (v := .bool true) (h' := h) rfl <| .step (v := .bool true) (h' := h) rfl <| .on rfl <| .step (v := .ptr j 5) (h' := h) rfl <| .on rfl <| .step (v := .agg (dY x y s.entry)) (h' := h) (dC (m := 7) c5 rfl) <| .on rfl <| .call (v := .bool (takes s.entry)) (h' := h') tk <| .step (v := .bool (takes s.entry)) (h' := h') rfl <| .step (v := .bool (takes s.entry)) (h' := h') rfl <| .nil, rfl, tO, tW⟩
end
open Go.Cod
noncomputable section
variable {p : Pg} {h0 h h' h1 : Hp} {q j : P4} {s : Bs} {x y a b d e f : AV}
theorem HY (TT : Eb p) (e11 : aw 11 p.fs = f11) (e14 : aw 14 p.fs = f14) (W : Wf h) {l : List AV} {s : lK} {B : Nat} (r : en h l s) (bd : Dv B s.entry) (hB : B < 9223372036854775807) :
  ∃ h', Cv p 11 [.agg l] h (.bool (eo s)) h' ∧ Old h h' ∧ Wf h' := by
 obtain ⟨x, y, rfl, r1, r2⟩ := r
 obtain ⟨j, h1, f1, f2, f3, f4, f5, f6⟩ := qt (el := 28) (l := gu x y s) W (by simp [gu, dY])
 obtain ⟨k, h2, n1, n2, n3, n4, _⟩ := qO (p := p) (j := j) e14 f5
 have c := Ob.c0 f3
 have c2 := c.old n3
 have s0 : ∀ c i' (K : A2 → Hp → RS), k11_0 c i' K (bG [.agg (gu x y s)] 0 .nil) h = K (T23 (.ptr j 0)) h1 := fun c i' K => by
  simp only [k11_0, K1, dK]
  (rw [mP f1]; try rfl)
 have s1 : Ev fun m => ∀ K : A2 → Hp → RS, k11_1 (ar p (exec p m)) (aF p (exec p m)) K (T23 (.ptr j 0)) h1 = K (T24 (.ptr j 0) (.slice k 0 3 3) (i64 3) i0) h2 := n1.mono fun m g K => by
  simp only [k11_1, K1, t23_1]
  (rw [bm g, bP (gC (es := 1) (.inl ⟨3, rfl⟩))]; try rfl)
 have qq : ∃ ns : List Int, ns.length = 3 ∧ ns.all small = (small s.aB && small s.node && small s.n) ∧ ∀ i (hi : i < ns.length), Cs h2 k (0 + i * 1) [.ptr j (1 + i)] ∧ Cs h2 j (1 + i) [i64 ns[i]] := by
  refine ⟨[s.aB, s.node, s.n], rfl, by simp [Bool.and_assoc], fun i hi => ⟨?_, ?_⟩⟩
  ·have := n2.sub i [.ptr j (1 + i)] (by simp at hi ⊢; omega) (fun t ht => by
    have : t = 0 := by simpa using ht
    subst this
    match i, hi with
    | 0, _ => rfl
    | 1, _ => rfl
    | 2, _ => rfl)
   simpa using this
  ·have := c2.sub (1 + i) [i64 ([s.aB, s.node, s.n][i])] (by simp [gu, dY] at hi ⊢; omega) (fun t ht => by
    have : t = 0 := by simpa using ht
    subst this
    match i, hi with
    | 0, _ => rfl
    | 1, _ => rfl
    | 2, _ => rfl)
   simpa using this
 obtain ⟨ns, hn, hall, hq⟩ := qq
 have key : ∃ st, (∃ h', h' = h2 ∧ ((st = .ex 0 (T23 (.ptr j 0)) h2 ∧ ns.all small = true) ∨ (st = .ret (T5 (.bool false)) h2 ∧ ns.all small = false))) ∧ Rn p (dp 3 (bh x11)) (T24 (.ptr j 0) (.slice k 0 3 3) (i64 3) i0) h2 st := by
  refine dt (body := dp 4 (bh x11)) 3 (Inv := fun i r h' => r = T24 (.ptr j 0) (.slice k 0 3 3) (i64 3) (i64 i) ∧ h' = h2 ∧ (ns.take i).all small = true) (fun i r h' hi I => ?_) (fun r h' I => ?_) 3 0 _ h2 (by omega) ⟨rfl, rfl, by simp⟩
  ·obtain ⟨rfl, rfl, I⟩ := I
   have hi' : i < ns.length := by omega
   obtain ⟨q1, q2⟩ := hq i hi'
   obtain ⟨r3, o1, o2, o3, o4, o5, o6⟩ := HX (p := p) (a := .ptr j 0) (b := .slice k 0 3 3) (d := i64 3) (e := i64 i) q2
   have t1 : ∀ c i' (K : A2 → Hp → RS), k11_2 c i' K (T24 (.ptr j 0) (.slice k 0 3 3) (i64 3) (i64 i)) h' = K (T24 (.ptr j 0) (.slice k 0 3 3) (i64 3) (i64 i)) h' := fun c i' K => by
    simp only [k11_2, K4, t24_1, t24_5, t24_6, t24_7]
    (rw [bq, bJ, if_pos (by omega)]; try rfl)
   have t2 : ∀ c i' (K : A2 → Hp → RS), k11_3 c i' K (T24 (.ptr j 0) (.slice k 0 3 3) (i64 3) (i64 i)) h' = K (T25 (.ptr j 0) (.ptr j (1 + i)) (.slice k 0 3 3) (i64 3) (i64 i)) h' := fun c i' K => by
    simp only [k11_3, K4, t24_1, t24_5, t24_6, t24_7]
    (rw [dg (dc (es := 1) (.inl ⟨3, rfl⟩) hi), aE (bz q1 rfl)]; try rfl)
   have t3 : ∀ c i' (K : A2 → Hp → RS), k11_4 c i' K r3 h' = Seat.I (.bool (!small (ns[i]))) (.ret (T5 (.bool false)) h') (.nm (T24 (.ptr j 0) (.slice k 0 3 3) (i64 3) (i64 i)) h') := fun c i' K => by
    simp only [k11_4, K5, o2, o3, o4, o5, o6]
   cases hs : small (ns[i]) with
   | true =>
    refine .inl ⟨_, h', .dQ t1 (.seq (.block (.dQ t2 (.seq (.ops o1) (.bI fun c i' K => by rw [t3, hs, Bool.not_true, mO])))) (.bI (s := .nm (T24 (.ptr j 0) (.slice k 0 3 3) (i64 3) (i64 (i + 1 : Nat))) h') fun c i' K => ?_)), rfl, rfl, by rw [eh hi', I, hs]; rfl⟩
    simp only [k11_5, K4, t24_1, t24_5, t24_6, t24_7]
    (rw [dB hi (by omega)]; try rfl)
   | false =>
    exact .inr ⟨_, ⟨h', rfl, .inr ⟨rfl, all_false hi' hs⟩⟩, .ei (.dQ t1 (.cR (.bT (.dQ t2 (.seq (.ops o1) (.bI fun c i' K => by rw [t3, hs, Bool.not_false, nY]))))))⟩
  ·obtain ⟨rfl, rfl, I⟩ := I
   refine ⟨_, ⟨h', rfl, .inl ⟨rfl, by rw [← hn, List.take_length] at I; exact I⟩⟩, .de (.bI fun c i' K => ?_)⟩
   simp only [k11_2, K4, t24_1, t24_5, t24_6, t24_7]
   (rw [bq, bJ, if_neg (by omega)]; try rfl)
 have out : ∀ (bb : Bool) (r' : A2) (h' : Hp), y2 r' = .bool bb → Rn p (bh x11) (T23 (.ptr j 0)) h1 (.ret r' h') → Cv p 11 [.agg (gu x y s)] h (.bool bb) h' := fun bb r' h' e k => .of (r' := r') (h1 := h') e11 (by simp) (.dQ s0 k) (by
  show RV.ok (y2 r') h' = _
  rw [e])
 have hf : eo s = (ns.all small && (decide (1 ≤ s.kind) && decide (s.kind ≤ 9) && decide (s.name.length ≤ 255) && takes s.entry)) := by unfold eo; rw [hall]
 obtain ⟨st, ⟨_, _, ⟨rfl, ha⟩ | ⟨rfl, ha⟩⟩, kk⟩ := key
 ·obtain ⟨r3, h3, o1, o2, o3, o4⟩ := Ef (p := p) TT n4 c2 (aN.up r1 (f4.trans n3)) (bw.up r2 (f4.trans n3)) bd hB
  refine ⟨h3, out _ r3 h3 (by rw [o2, hf, ha, Bool.true_and]) (.seq (.to s1 (.bA kk)) (.seq (.ops o1) .ret)), (f4.trans n3).trans o3, o4⟩
 ·refine ⟨h2, out _ _ h2 ?_ (.cR (.to s1 (.bT kk))), f4.trans n3, n4⟩
  rw [hf, ha]; rfl
end
open Go.Cod
noncomputable section
variable {p : Pg} {h0 h h' h1 : Hp} {q j : P4} {s : Bs} {x y a b d e f : AV}
structure HZ (p : Pg) : Prop where
 t : Bg p
 tt : Eb p
 e6 : aw 6 p.fs = f6
 e11 : aw 11 p.fs = f11
 e14 : aw 14 p.fs = f14
 e17 : aw 17 p.fs = f17
 e29 : aw 29 p.fs = f29
theorem Eg (T : HZ p) (W : Wf h) {ss : List lK} {B : Nat} (r : du h x ss) (bd : ∀ s, s ∈ ss → Dv B s.entry) (hB : B < 9223372036854775807) (hn : ss.length < 9223372036854775807) :
  ∃ st, (∃ h', (Old h h' ∧ Wf h') ∧ ((st = .ex 0 (T13 a x (i64 ss.length) (i64 ss.length)) h' ∧ ss.all eo = true) ∨ (st = .ret (T11 .ak i1) h' ∧ ss.all eo = false))) ∧ Rn p (.loop (.ag Cz .skip)) (T13 a x (i64 ss.length) i0) h st := by
 obtain ⟨q', o', sl, g⟩ := dD.sl r
 refine dt ss.length (Inv := fun i r h' => r = T13 a x (i64 ss.length) (i64 i) ∧ (Old h h' ∧ Wf h') ∧ (ss.take i).all eo = true) (fun i r h' hi I => ?_) (fun r h' I => ?_) ss.length 0 _ h (by omega) ⟨rfl, ⟨.refl h, W⟩, by simp⟩
 ·obtain ⟨rfl, ⟨O, W'⟩, I⟩ := I
  obtain ⟨l, l1, l2, l3⟩ := g i hi
  obtain ⟨j, h2, c1, c2, c3, c4, c5, _⟩ := qJ (el := 28) W' sl hi (l2.old O) l1 (c0 := .k1 (Y12 i0 i0 i0 i0 iS i0 i0 i0 iS iS .ak .ak)) trivial (by decide)
  obtain ⟨h3, f1, f2, f3⟩ := HY (p := p) T.tt T.e11 T.e14 c5 (l := l) (s := ss[i]) (en.up l3 (O.trans c4)) (bd _ (by simp)) hB
  have m1 := dC (m := 12) (Ob.c0 c3) l1
  cases hs : eo ss[i] with
  | true =>
   rw [hs] at f1
   refine .inl ⟨_, h3, .ag (s := .nm (T13 a x (i64 ss.length) (i64 (i + 1 : Nat))) h3) (f1.mono fun m g => ?_), rfl, ⟨(O.trans c4).trans f2, f3⟩, by rw [eh hi, I, hs]; rfl⟩
   simp only [Cz, K4, t13_0, t13_15, t13_16, t13_17]
   (rw [bq, bJ, if_pos (by omega), c1, fM m1, bm g, fu, aV, Bool.not_true, mO, dB hi hn]; try rfl)
  | false =>
   rw [hs] at f1
   refine .inr ⟨_, ⟨h3, ⟨(O.trans c4).trans f2, f3⟩, .inr ⟨rfl, all_false hi hs⟩⟩, .ei (.ag (f1.mono fun m g => ?_))⟩
   simp only [Cz, K4, t13_0, t13_15, t13_16, t13_17]
   (rw [bq, bJ, if_pos (by omega), c1, fM m1, bm g, fu, aV, Bool.not_false, nY]; try rfl)
 ·obtain ⟨rfl, O, I⟩ := I
  refine ⟨_, ⟨h', O, .inl ⟨rfl, by simpa using I⟩⟩, .de (.bI fun c i' K => ?_)⟩
  simp only [Cz, K4, t13_0, t13_15, t13_16, t13_17]
  (rw [bq, bJ, if_neg (by omega)]; try rfl)
theorem kr (s : lK) : (gP s).length = 1 + 8 + 8 + 8 + (2 + s.name.length) + (2 + (enc s.entry).length) := by unfold gP; simp only [List.length_append, aC, aJ, aX]; omega
theorem Eh (T : Bg p) {k : P4} {ns : List Int} (w : Wr h0 h q s) (hn : ns.length = 3) (hq : ∀ i (hi : i < ns.length), Cs h0 k (0 + i * 1) [.ptr j (1 + i)] ∧ Cs h0 j (1 + i) [i64 ns[i]]) (hs : s.length + 24 ≤ 16777216) :
  ∃ h', Rn p (.loop (.ag CB .skip)) (T18 (.ptr q 0) a b d e (.slice k 0 3 3) (i64 3) i0) h (.ex 4 (T18 (.ptr q 0) a b d e (.slice k 0 3 3) (i64 3) (i64 3)) h') ∧ Wr h0 h' q (s ++ ns.flatMap gS) := by
 obtain ⟨r', h', ⟨_, I⟩, kk⟩ := kZ (p := p) (body := .ag CB .skip) (r := T18 (.ptr q 0) a b d e (.slice k 0 3 3) (i64 3) i0) (h := h) 3
  (Inv := fun i r h => r = T18 (.ptr q 0) a b d e (.slice k 0 3 3) (i64 3) (i64 i) ∧ Wr h0 h q (s ++ (ns.take i).flatMap gS)) (l := 4) (Re := T18 (.ptr q 0) a b d e (.slice k 0 3 3) (i64 3) (i64 3)) (fun i r h hi I => by
   obtain ⟨rfl, w⟩ := I
   have hi' : i < ns.length := by omega
   obtain ⟨q1, q2⟩ := hq i hi'
   have hz : ((ns.take i).flatMap gS).length = 8 * i := by
    clear q1 q2 w
    induction i with
    | zero => simp
    | succ i ih => rw [cQ (by omega), List.length_append, ih (by omega) (by omega), aC]; omega
   obtain ⟨h2, a1, w2⟩ := js T w (n := ns[i]) (by rw [List.length_append, hz]; omega)
   refine ⟨T18 (.ptr q 0) a b d e (.slice k 0 3 3) (i64 3) (i64 (i + 1 : Nat)), h2, .ag (a1.mono fun m g => ?_), rfl, ?_⟩
   ·simp only [CB, K8, t18_6, t18_8, t18_26, t18_27, t18_28, t18_36, t18_37, t18_38]
    (rw [bq, bJ, if_pos (by omega), dg (dc (es := 1) (.inl ⟨3, rfl⟩) hi), aE (bz (q1.old w.old) rfl), ta, aE (bz (q2.old w.old) rfl), bm g, dB hi (by omega)]; try rfl)
   ·rw [cQ hi']
    simpa only [List.append_assoc] using w2) (fun r h I => by
   obtain ⟨rfl, w⟩ := I
   refine .bI fun c i K => ?_
   simp only [CB, K8, t18_6, t18_8, t18_26, t18_27, t18_28, t18_36, t18_37, t18_38]
   (rw [bq, bJ, if_neg (by omega)]; try rfl)) ⟨rfl, by simpa using w⟩
 exact ⟨h', kk, by rw [← hn, List.take_length] at I; exact I⟩
theorem OZ {k : P4} {s : lK} (n2 : Cs h0 k 0 [.ptr j 1, .ptr j 2, .ptr j 3]) (c2 : Cs h0 j 0 (gu x y s)) : ∃ ns : List Int, ns.length = 3 ∧ ns.flatMap gS = gS s.aB ++ (gS s.node ++ gS s.n) ∧ ∀ i (hi : i < ns.length), Cs h0 k (0 + i * 1) [.ptr j (1 + i)] ∧ Cs h0 j (1 + i) [i64 ns[i]] := by
 refine ⟨[s.aB, s.node, s.n], rfl, by simp, fun i hi => ⟨?_, ?_⟩⟩
 ·have := n2.sub i [.ptr j (1 + i)] (by simp at hi ⊢; omega) (fun t ht => by
   have : t = 0 := by simpa using ht
   subst this
   match i, hi with
   | 0, _ => rfl
   | 1, _ => rfl
   | 2, _ => rfl)
  simpa using this
 ·have := c2.sub (1 + i) [i64 ([s.aB, s.node, s.n][i])] (by simp [gu, dY] at hi ⊢; omega) (fun t ht => by
   have : t = 0 := by simpa using ht
   subst this
   match i, hi with
   | 0, _ => rfl
   | 1, _ => rfl
   | 2, _ => rfl)
  simpa using this
theorem Hy {s : lK} (c : Cs h j 0 (gu x y s)) : Cs h j 5 (dY x y s.entry) := by
 have := c.sub 5 (dY x y s.entry) (by simp [gu, dY]) (fun k hk => Ng _ _ _ _ _ _ k hk)
 simpa using this
theorem Ia (T : HZ p) {ss : List lK} {B i : Nat} {q' : P4} {o' : Nat} (w : Wr h0 h q s) (sl : zq x 12 ss.length q' o') (hi : i < ss.length) {l : List AV} (l1 : l.length = 12) (l2 : Cs h0 q' (o' + i * 12) l) (l3 : en h0 l ss[i]) (bd : Dv B ss[i].entry) (hB : B < 9223372036854775807) (hn : ss.length < 9223372036854775807)
  (hf : eo ss[i] = true) (he : (enc ss[i].entry).length ≤ 65535) (hs : s.length + (gP ss[i]).length ≤ 16777216) :
  ∃ h', Rn p (dp 4 (bh (bh (bh x6)))) (T15 (.ptr q 0) x (i64 ss.length) (i64 i)) h (.nm (T15 (.ptr q 0) x (i64 ss.length) (i64 (i + 1 : Nat))) h') ∧ Wr h0 h' q (s ++ gP ss[i]) := by
 obtain ⟨j, h1, h0a, c1, c2, c3, c4⟩ := w.copy (el := 28) sl hi l2 l1 (c0 := .k1 (Y12 i0 i0 i0 i0 iS i0 i0 i0 iS iS .ak .ak)) trivial (by decide)
 obtain ⟨xc, yc, rfl, r1, r2⟩ := l3
 have hl := kr ss[i]
 obtain ⟨h2, a1, w2⟩ := mX T.t c3 (n := ss[i].kind) (by omega)
 obtain ⟨k, h3, n1, n2, n3, n4, n5⟩ := qO (p := p) (j := j) T.e14 w2.wf
 obtain ⟨h0b, g1, w3, g3⟩ := w2.base n3 n4
 have cj := c4.old g1
 obtain ⟨ns, m1, m2, m3⟩ := OZ (n2.eq (g3 k n5)) cj
 have O0 := c2.trans g1
 obtain ⟨h4, a2, w4⟩ := Eh (p := p) (a := .ptr j 0) (b := x) (d := i64 ss.length) (e := i64 i) T.t w3 m1 m3 (by rw [List.length_append, aX]; omega)
 rw [m2] at w4
 obtain ⟨h5, a3, w5⟩ := jt T.t w4 (t := ss[i].name) (by simp only [List.length_append, aC, aX]; omega)
 have ht : takes ss[i].entry = true := by
  unfold eo at hf
  simp only [Bool.and_eq_true] at hf
  exact hf.2.2
 have O5 := O0.trans w5.old
 obtain ⟨v, h6, a4, o4, O6, W6⟩ := tg (p := p) T.t T.tt T.e17 T.e29 w5.wf (l := dY xc yc ss[i].entry) (e := ss[i].entry) ⟨xc, yc, rfl, aN.up r1 O5, bw.up r2 O5⟩ bd hB (by omega)
 rw [ht, if_pos rfl] at o4
 have rb := jR.MW o4
 obtain ⟨h7, a5, w7⟩ := jt T.t (w5.up O6 W6) (t := enc ss[i].entry) (by simp only [List.length_append, aC, aJ, aX]; omega)
 have s1 : ∀ c i' (K : A2 → Hp → RS), k6_5 c i' K (T15 (.ptr q 0) x (i64 ss.length) (i64 i)) h = K (T15 (.ptr q 0) x (i64 ss.length) (i64 i)) h := fun c i' K => by
  simp only [k6_5, K4, t15_6, t15_26, t15_27, t15_28]
  (rw [bq, bJ, if_pos (by omega)]; try rfl)
 have s2 : Ev fun m => ∀ K : A2 → Hp → RS, k6_6 (ar p (exec p m)) (aF p (exec p m)) K (T15 (.ptr q 0) x (i64 ss.length) (i64 i)) h = K (T17 (.ptr q 0) (.ptr j 0) x (i64 ss.length) (i64 i)) h2 := a1.mono fun m g K => by
  simp only [k6_6, K4, t15_6, t15_26, t15_27, t15_28]
  (rw [c1, az, aE (bz (c4.old c3.old) rfl), bm g]; try rfl)
 have s3 : Ev fun m => ∀ K : A2 → Hp → RS, k6_7 (ar p (exec p m)) (aF p (exec p m)) K (T17 (.ptr q 0) (.ptr j 0) x (i64 ss.length) (i64 i)) h2 = K (T18 (.ptr q 0) (.ptr j 0) x (i64 ss.length) (i64 i) (.slice k 0 3 3) (i64 3) i0) h3 := n1.mono fun m g K => by
  simp only [k6_7, K5, t17_6, t17_8, t17_26, t17_27, t17_28]
  (rw [bm g, bP (gC (es := 1) (.inl ⟨3, rfl⟩))]; try rfl)
 have M7 := dC (m := 7) (Hy (cj.old w5.old)) (by simp [dY])
 have s4 : Rn p (.ag k6_9 .skip) (T18 (.ptr q 0) (.ptr j 0) x (i64 ss.length) (i64 i) (.slice k 0 3 3) (i64 3) (i64 3)) h4 (.nm (T15 (.ptr q 0) x (i64 ss.length) (i64 i)) h7) := .ag ((a3.and (a4.and a5)).mono fun m g => by
  obtain ⟨g1, g2, g3⟩ := g
  simp only [k6_9, K5, t18_6, t18_8, t18_26, t18_27, t18_28]
  (rw [az, aE (av (cj.old w4.old) 4 rfl), bm g1, az, fM M7, bm g2, bP (qz.len rb), fp, aV, bJ, if_neg (by show ¬ (65535 : Int) < _; omega), aR (qA rb), bm g3]; try rfl))
 have s5 : ∀ c i' (K : A2 → Hp → RS), k6_10 c i' K (T15 (.ptr q 0) x (i64 ss.length) (i64 i)) h7 = .nm (T15 (.ptr q 0) x (i64 ss.length) (i64 (i + 1 : Nat))) h7 := fun c i' K => by
  simp only [k6_10, K4, t15_6, t15_26, t15_27, t15_28]
  (rw [dB hi hn]; try rfl)
 refine ⟨h7, .dQ s1 (.seq (.block (.to s2 (.seq (.to s3 (.bA a2)) s4))) (.bI s5)), ?_⟩
 have w8 := w7.Ov O0
 rw [gP]
 simpa only [List.append_assoc] using w8
end
open Go.Cod
noncomputable section
variable {p : Pg} {h0 h h' h1 : Hp} {q j : P4} {s : Bs} {x y a b d e f : AV}
theorem AX (T : HZ p) (W : Wf h) {ss : List lK} {B : Nat} (r : du h x ss) (bd : ∀ s, s ∈ ss → Dv B s.entry) (hB : B < 9223372036854775807) (hn : ss.length ≤ 2048) (he : ∀ s, s ∈ ss → (enc s.entry).length ≤ 65535) (hs : ss.all eo = true → (ss.flatMap gP).length ≤ 16777216) :
  ∃ v n h', Cv p 6 [x] h (.ku [v, i64 n]) h' ∧ Old h h' ∧ Wf h' ∧ ((ss.all eo = true ∧ n = 0 ∧ jR h' v 5 1 (bc (ss.flatMap gP)) fun _ => True) ∨ (ss.all eo = false ∧ n = 1 ∧ v = .ak)) := by
 have s0 : ∀ c i' (K : A2 → Hp → RS), k6_0 c i' K (bG [x] 0 .nil) h = K (T12 x) h := fun c i' K => by
  simp only [k6_0, K1, dK]
  (rw [bP (dD.len r), fp, aV, bJ, if_neg (by show ¬ (2048 : Int) < _; omega)]; try rfl)
 have s1 : ∀ c i' (K : A2 → Hp → RS), k6_1 c i' K (T12 x) h = K (T13 x x (i64 ss.length) i0) h := fun c i' K => by
  simp only [k6_1, K1, t12_0]
  (rw [bP (dD.len r)]; try rfl)
 obtain ⟨st, ⟨h1, ⟨O1, W1⟩, ⟨rfl, ha⟩ | ⟨rfl, ha⟩⟩, kk⟩ := Eg (p := p) (a := x) T W r bd hB (by omega)
 ·have hs := hs ha
  obtain ⟨q, h2, a0, w2, O2⟩ := te T.t W1
  have r2 := du.up r O1
  obtain ⟨q', o', sl, g⟩ := dD.sl r2
  obtain ⟨r', h3, ⟨_, w3⟩, k3⟩ := kZ (p := p) (body := dp 4 (bh (bh (bh x6)))) (r := T15 (.ptr q 0) x (i64 ss.length) i0) (h := h2) ss.length
   (Inv := fun i r h => r = T15 (.ptr q 0) x (i64 ss.length) (i64 i) ∧ Wr h1 h q ((ss.take i).flatMap gP)) (l := 2) (Re := T16 (.ptr q 0)) (fun i r h hi I => by
    obtain ⟨rfl, w⟩ := I
    obtain ⟨l, l1, l2, l3⟩ := g i hi
    have hz : ((ss.take i).flatMap gP).length + (gP ss[i]).length ≤ 16777216 := by
     have := eV (g := gP) ss (i + 1)
     rw [cQ hi, List.length_append] at this
     omega
    obtain ⟨h', k, w'⟩ := Ia (p := p) T w sl hi l1 l2 l3 (bd _ (by simp)) hB (by omega) (by rw [List.all_eq_true] at ha; exact ha _ (by simp)) (he _ (by simp)) hz
    exact ⟨_, h', k, rfl, by rw [cQ hi]; exact w'⟩) (fun r h I => by
    obtain ⟨rfl, w⟩ := I
    refine .bI fun c i K => ?_
    simp only [k6_5, K4, t15_6, t15_26, t15_27, t15_28]
    (rw [bq, bJ, if_neg (by omega)]; try rfl)) ⟨rfl, by simpa using w2⟩
  rw [List.take_length] at w3
  obtain ⟨v, h4, a4, o4, O4, W4⟩ := zO T.t T.e29 w3 hs
  have s2 : Ev fun m => ∀ K : A2 → Hp → RS, k6_3 (ar p (exec p m)) (aF p (exec p m)) K (T13 x x (i64 ss.length) (i64 ss.length)) h1 = K (T14 x (.ptr q 0)) h2 := a0.mono fun m g K => by
   simp only [k6_3, K1, t13_0]
   (rw [bm g]; try rfl)
  have s3 : ∀ c i' (K : A2 → Hp → RS), k6_4 c i' K (T14 x (.ptr q 0)) h2 = K (T15 (.ptr q 0) x (i64 ss.length) i0) h2 := fun c i' K => by
   simp only [k6_4, K2, t14_0, t14_6]
   (rw [bP (dD.len (du.up r2 w2.old))]; try rfl)
  have s4 : Rn p (.ag k6_11 .skip) (T16 (.ptr q 0)) h3 (.ret (T11 v i0) h4) := .ag (a4.mono fun m g => by
   simp only [k6_11, K1, t16_6]
   (rw [bm g]; try rfl))
  exact ⟨v, 0, h4, .of (r' := T11 v i0) (h1 := h4) T.e6 (by simp) (.dQ s0 (.seq (.dQ s1 (.bA kk)) (.to s2 (.seq (.dQ s3 (.bA k3)) s4)))) rfl, O1.trans O4, W4, .inl ⟨ha, rfl, jR.mono o4 fun _ _ => True.intro⟩⟩
 ·exact ⟨.ak, 1, h1, .of (r' := T11 .ak i1) (h1 := h1) T.e6 (by simp) (.dQ s0 (.cR (.dQ s1 (.bT kk)))) rfl, O1, W1, .inr ⟨ha, rfl, rfl⟩⟩
end
open Go.Cod
noncomputable section
variable {p : Pg} {h0 h h' h1 : Hp} {q j : P4} {s : Bs} {x y a b d e f : AV}
structure Bb (h0 h : Hp) (x : AV) (s : Bs) : Prop where
 old : Old h0 h
 wf : Wf h
 own : jR h x 5 1 (bc s) fun j => ah j h0 = .none
theorem Bb.rd (w : Bb h0 h x s) : qz h x s := jR.MW w.own
theorem Ei (W : Wf h) (r : qz h x s) (hl : s.length ≤ 16777216) : ∃ d h1 v h2, Seat.bs 5 1 0 [] [] h = .ok d h1 ∧ dW 5 1 d x h1 = .ok v h2 ∧ Bb h h2 v s := by
 obtain ⟨j, h1, f1, f2, f3, f4, f5, f6⟩ := iD (el := 5) (es := 1) (n := 0) (z := []) (ps := []) (l := []) W rfl rfl (by simp)
 obtain ⟨q, o, n, g1, g2, g3⟩ := qz.up r f4
 obtain ⟨v, h2, c1, c2, c3, c4⟩ := iK (m := n) (es := 1) f5 (x := .slice j 0 0 0) (b := fun _ => False) (el := 5) (l := []) (.inl ⟨rfl, .inr ⟨j, rfl⟩⟩) (by omega) (new := bc s) (by rw [ef]; omega) (by simp [ef]; omega)
 refine ⟨_, h1, v, h2, f1, by rw [gU g1 (by omega) g3 (by rw [ef]; omega) (by omega)]; exact c1, fun k hk => ?_, c3, jR.mono c2 fun k hk => ?_⟩
 ·have := f4 k hk
  rw [c4 k (by rw [this]; exact hk) (fun g => g), this]
 ·rcases hk with hk | hk
  ·exact hk.elim
  ·exact f4.none hk
theorem Bb.app (w : Bb h0 h x s) (t : Bs) {m : Nat} (hm : t.length = m) (hl : s.length + t.length ≤ 16777216) : ∃ v h2, kE 5 1 m (bc t) x h = .ok v h2 ∧ Bb h0 h2 v (s ++ t) := by
 subst hm
 obtain ⟨v, h2, c1, c2, c3, c4⟩ := iK (m := t.length) (es := 1) w.wf w.own (by omega) (new := bc t) (by rw [ef]; omega) (by simp only [ef]; exact hl)
 refine ⟨v, h2, c1, fun k hk => ?_, c3, ?_⟩
 ·have := w.old k hk
  rw [c4 k (by rw [this]; exact hk) (fun g => hk g), this]
 ·rw [DW]
  refine jR.mono c2 fun k hk => ?_
  rcases hk with hk | hk
  ·exact hk
  ·exact w.old.none hk
theorem Bb.up (w : Bb h0 h x s) (O : Old h h') (W : Wf h') : Bb h0 h' x s := ⟨w.old.trans O, W, w.own.old fun j _ hj => O j hj⟩
theorem Bb.qN (w : Bb h0 h x s) (t : Bs) {m : Nat} (hm : t.length = m) {z : List AV} {ps : List Part} (hf : fits ps .nil = true) (hz : fill ps .nil z = bc t) (hl : s.length + t.length ≤ 16777216) :
  ∃ l h1 v h2, Seat.bs 5 1 m z ps h = .ok l h1 ∧ dW 5 1 x l h1 = .ok v h2 ∧ Bb h0 h2 v (s ++ t) := by
 obtain ⟨j, h1, f1, f2, f3, f4, f5, f6⟩ := iD (el := 5) (es := 1) (n := m) w.wf hf hz (by simp [ef]; omega)
 obtain ⟨v, h2, g1, g2⟩ := (Bb.up w f4 f5).app t hm hl
 refine ⟨_, h1, v, h2, f1, ?_, g2⟩
 rw [gU (m := m) (q := j) (o := 0) (l := bc t) (.inl ⟨_, rfl⟩) (by omega) (fun _ => Ob.c0 f3) (by simp [ef, hm]) (by omega)]
 exact g1
theorem Bb.Ib (w : Bb h0 h x s) (t : Bs) (hl : s.length + t.length ≤ 16777216) : ∃ v h2, hY 5 (.c x) (.c (cD t)) .nil h = .ok v h2 ∧ Bb h0 h2 v (s ++ t) := by
 obtain ⟨v, h2, g1, g2⟩ := w.app t rfl hl
 refine ⟨v, h2, ?_, g2⟩
 have ec : (t.map UInt8.toNat).map (fun b : Nat => AV.int .u8 (b : Int)) = bc t := by simp [bc]
 rw [zK, ec, List.length_map]; exact g1
theorem le_succ (k n : Nat) : le (k + 1) n = le k n ++ [UInt8.ofNat (n / 256 ^ k)] := by
 induction k generalizing n with
 | zero => simp [le]
 | succ k ih =>
  rw [le, ih (n / 256), le, List.cons_append, Nat.div_div_eq_div_mul, Nat.pow_succ, Nat.mul_comm 256]
theorem Ej (m : Nat) (hm : m < 9223372036854775808) (i : Nat) (hi : i < 8) : (-((m : Int) + 1)) / ((256 ^ i : Nat) : Int) % 256 = (((18446744073709551615 - m) / 256 ^ i % 256 : Nat) : Int) := by
 have : i = 0 ∨ i = 1 ∨ i = 2 ∨ i = 3 ∨ i = 4 ∨ i = 5 ∨ i = 6 ∨ i = 7 := by omega
 rcases this with rfl | rfl | rfl | rfl | rfl | rfl | rfl | rfl
 all_goals simp only [Nat.reducePow]
 all_goals omega
theorem wA (n : Int) (hn : fw n) (i : Nat) (hi : i < 8) : ∃ z, bK .shr (.int .i64 n) (.int .u64 ((8 * i : Nat) : Int)) h = .ok (.int .i64 z) h ∧ z % 256 = ((u64 n / 256 ^ i % 256 : Nat) : Int) := by
 unfold fw at hn
 cases n with
 | ofNat m =>
  refine ⟨_, rfl, ?_⟩
  have hm : m ≤ 9223372036854775807 := by have := hn.2; simp at this; omega
  have hu : u64 (Int.ofNat m) = m := lh m (by omega)
  rw [hu]
  have : Nat.div m (Nat.pow 2 (Nat.min (8 * i) (gZ .i64))) = m / 256 ^ i := by
   have e : Nat.min (8 * i) (gZ .i64) = 8 * i := Nat.min_eq_left (show 8 * i ≤ 64 by omega)
   rw [e]
   show m / 2 ^ (8 * i) = _
   rw [Nat.pow_mul]
  rw [this]
  show ((m / 256 ^ i : Nat) : Int) % 256 = _
  omega
 | negSucc m =>
  refine ⟨_, rfl, ?_⟩
  have hm : m < 9223372036854775808 := by have := hn.1; omega
  have hu : u64 (Int.negSucc m) = 18446744073709551615 - m := by unfold u64; omega
  rw [hu]
  have e : Nat.min (8 * i) (gZ .i64) = 8 * i := Nat.min_eq_left (show 8 * i ≤ 64 by omega)
  rw [e, Int.fdiv_eq_ediv_of_nonneg _ (by exact Int.le_of_lt (Int.pow_pos (by decide)))]
  have : (2 : Int) ^ (8 * i) = ((256 ^ i : Nat) : Int) := by rw [Int.pow_mul]; simp
  rw [this]
  rw [Int.negSucc_eq]
  exact Ej m hm i hi
end
open Go.Cod
noncomputable section
variable {p : Pg} {h0 h h' h1 : Hp} {q j : P4} {s : Bs} {x y a b d e f : AV}
structure Ek (p : Pg) : Prop where
 e21 : aw 21 p.fs = f21
 e22 : aw 22 p.fs = f22
 e23 : aw 23 p.fs = f23
 e37 : aw 37 p.fs = f37
theorem Ic (n : Int) : [AV.int .u8 (n % 256)] = bc [UInt8.ofNat (u64 n)] := by
 show _ = [AV.int .u8 ((UInt8.ofNat (u64 n)).toNat : Int)]
 have : ((UInt8.ofNat (u64 n)).toNat : Int) = n % 256 := by
  have : (UInt8.ofNat (u64 n)).toNat = u64 n % 256 := by simp
  rw [this]; unfold u64; omega
 rw [this]
theorem ym (T : Ek p) (W : Wf h) (r : qz h x s) (n : Int) (hl : s.length + 1 ≤ 16777216) : ∃ v h', Cv p 21 [x, i64 n] h v h' ∧ Bb h h' v (s ++ le 1 (u64 n)) := by
 obtain ⟨d, h1, v1, h2, f1, f2, w⟩ := Ei W r (by omega)
 obtain ⟨l, h3, v, h4, g1, g2, w2⟩ := w.qN [UInt8.ofNat (u64 n)] (m := 1) rfl (z := [.int .u8 (.ofNat 0)]) (ps := [.mk 0 1 (.c (.int .u8 (n % 256)))]) rfl (by rw [← Ic]; rfl) (by simp; omega)
 refine ⟨v, h4, .of (r' := T30 v) (h1 := h4) T.e21 (by simp) (.bI fun c i K => ?_) rfl, w2⟩
 simp only [k21_0, K2, mV, mW]
 (rw [aR f1, aR f2, gi, w8, aV, aR g1, aR g2]; try rfl)
theorem ml (T : Ek p) (W : Wf h) (r : qz h x s) (n : Int) (hn : fw n) (hl : s.length + 8 ≤ 16777216) : ∃ v h', Cv p 22 [x, i64 n] h v h' ∧ Bb h h' v (s ++ gS n) := by
 obtain ⟨d, h1, v1, h2, f1, f2, w⟩ := Ei W r (by omega)
 obtain ⟨r', h', ⟨v, rfl, w'⟩, k⟩ := wu (p := p) (body := .ag k22_2 .skip) (r := T32 (i64 n) v1 i0) (h := h2) 8
  (Inv := fun i r h' => ∃ v, r = T32 (i64 n) v (i64 i) ∧ Bb h h' v (s ++ le i (u64 n))) (l := 0) (fun i r h' hi I => by
   obtain ⟨v, rfl, w⟩ := I
   obtain ⟨z, z1, z2⟩ := wA (h := h') n hn i hi
   obtain ⟨l, h3, v', h4, g1, g2, w2⟩ := w.qN [UInt8.ofNat (u64 n / 256 ^ i)] (m := 1) rfl (z := [.int .u8 (.ofNat 0)]) (ps := [.mk 0 1 (.c (.int .u8 (z % 256)))]) rfl (by
    show [AV.int .u8 (z % 256)] = [AV.int .u8 ((UInt8.ofNat (u64 n / 256 ^ i)).toNat : Int)]
    rw [z2]; simp) (by simp [aX]; omega)
   refine ⟨_, h4, .bI (s := .nm (T32 (i64 n) v' (i64 (i + 1 : Nat))) h4) fun c i' K => ?_, v', rfl, by rw [le_succ, ← List.append_assoc]; exact w2⟩
   simp only [k22_2, K3, t32_1, t32_5, t32_6]
   have e8 : (Int.ofNat 8 : Int) * (i : Int) = ((8 * i : Nat) : Int) := by simp
   (rw [bq, bJ, if_pos (by show (i : Int) < 8; omega), KX, e8, Bh _ (by unfold fw; omega), aV, gi, w64, Int.emod_eq_of_lt (by omega) (by omega), aV, aR z1, gi, w8, aV, aR g1, aR g2, dB hi (by omega)]; try rfl)) (fun r h' I => by
   obtain ⟨v, rfl, w⟩ := I
   refine .bI fun c i' K => ?_
   simp only [k22_2, K3, t32_1, t32_5, t32_6]
   (rw [bq, bJ, if_neg (by show ¬ ((8 : Nat) : Int) < 8; omega)]; try rfl)) ⟨v1, rfl, by simpa [le] using w⟩
 have s0 : ∀ c i' (K : A2 → Hp → RS), k22_0 c i' K (bG [x, i64 n] 0 .nil) h = K (T31 (i64 n) v1) h2 := fun c i' K => by
  simp only [k22_0, K2, mV, mW]
  (rw [aR f1, aR f2]; try rfl)
 have s1 : ∀ c i' (K : A2 → Hp → RS), k22_1 c i' K (T31 (i64 n) v1) h2 = K (T32 (i64 n) v1 i0) h2 := fun c i' K => by
  simp only [k22_1, K2, t31_1, t31_5]
 have s2 : ∀ c i' (K : A2 → Hp → RS), k22_3 c i' K (T32 (i64 n) v (i64 (8 : Nat))) h' = .ret (T30 v) h' := fun c i' K => by
  simp only [k22_3, K1, t32_5]
 exact ⟨v, h', .of (r' := T30 v) (h1 := h') T.e22 (by simp) (.dQ s0 (.seq (.dQ s1 (.bA k)) (.bI s2))) rfl, w'⟩
theorem wB (T : Ek p) (W : Wf h) (r : qz h x s) (n : Nat) (hn : n < 4294967296) (hl : s.length + 2 ≤ 16777216) : ∃ v h', Cv p 37 [x, i64 n] h v h' ∧ Bb h h' v (s ++ le 2 n) := by
 obtain ⟨d, h1, v1, h2, f1, f2, w⟩ := Ei W r (by omega)
 obtain ⟨z, z1, z2⟩ := wA (h := h2) n (by unfold fw; omega) 1 (by omega)
 have z2 : z % 256 = ((n / 256 % 256 : Nat) : Int) := by rw [z2, lh n (by omega), Nat.pow_one]
 obtain ⟨l, h3, v, h4, g1, g2, w2⟩ := w.qN (le 2 n) (m := 2) rfl (z := [.int .u8 (.ofNat 0), .int .u8 (.ofNat 0)]) (ps := [.mk 0 1 (.c (.int .u8 ((n : Int) % 256))), .mk 1 1 (.c (.int .u8 (z % 256)))]) rfl (by
  show [AV.int .u8 ((n : Int) % 256), AV.int .u8 (z % 256)] = [AV.int .u8 ((UInt8.ofNat n).toNat : Int), AV.int .u8 ((UInt8.ofNat (n / 256)).toNat : Int)]
  rw [z2]; simp) (by simp [aX]; omega)
 refine ⟨v, h4, .of (r' := T30 v) (h1 := h4) T.e37 (by simp) (.bI fun c i K => ?_) rfl, w2⟩
 simp only [k37_0, K2, mV, mW]
 (rw [aR f1, aR f2, gi, w8, aV]; try rfl)
 have z1 : bK .shr (.int .i64 (n : Int)) (.int .u64 (.ofNat 8)) h2 = .ok (.int .i64 z) h2 := z1
 (rw [aR z1, gi, w8, aV, aR g1, aR g2]; try rfl)
theorem qP (T : Ek p) (W : Wf h) (r : qz h x s) (t : Bs) (ht : t.length < 4294967296) (hl : s.length + (2 + t.length) ≤ 16777216) : ∃ v h', Cv p 23 [x, cD t] h v h' ∧ Bb h h' v (s ++ Cod.text t) := by
 obtain ⟨v1, h1, a1, w1⟩ := wB T W r t.length ht (by omega)
 obtain ⟨v, h2, g1, w2⟩ := Bb.Ib w1 t (by simp [aX]; omega)
 refine ⟨v, h2, .of (r' := T30 v) (h1 := h2) T.e23 (by simp) (.ag (a1.mono fun m g => ?_)) rfl, by simpa [Cod.text] using w2⟩
 simp only [k23_0, K2, mV, mW]
 (rw [cZ, aV, bm g, aR g1]; try rfl)
end
open Go.Cod
noncomputable section
variable {p : Pg} {h0 h h' h1 : Hp} {q j : P4} {s : Bs} {x y a b d e f : AV}
theorem El {e : vx} (r1 : aN h x e.bL) (r2 : bw h y e.changes) : same (.agg (dY x y e)) (.agg (dY x y e)) = true := by
 obtain ⟨_, _, s1, _⟩ := dD.sl r1
 obtain ⟨_, _, s2, _⟩ := dD.sl r2
 refine DU fun v hv => ?_
 simp only [dY, List.mem_cons, List.not_mem_nil, or_false] at hv
 rcases hv with rfl | rfl | rfl | rfl | rfl | rfl | rfl
 ·exact lb _ _
 ·exact lb _ _
 ·exact lb _ _
 ·exact oy _
 ·exact oy _
 ·exact qy s1
 ·exact qy s2
structure KD (p : Pg) : Prop where
 s : HZ p
 r : Ek p
 e8 : aw 8 p.fs = f8
theorem Em (T : KD p) {st : lK} {B : Nat} {v1 : AV} (W : Wf h) (c : Cs h j 0 (gu x y st)) (r1 : aN h x st.entry.bL) (r2 : bw h y st.entry.changes) (bd : HB B st) (hB : B < 9223372036854775807) (ht : takes st.entry = true) (he : (enc st.entry).length ≤ 65535)
  (hv : qz h v1 s) (hn : st.name.length < 4294967296) (hs : s.length + (24 + (2 + st.name.length) + (2 + (enc st.entry).length)) ≤ 16777216) :
  ∃ r' h' v, Rn p (dp 8 (bh x8)) (T1 a v1 d (.ptr j 0)) h (.nm r' h') ∧ y0 r' = a ∧ y3 r' = v ∧ y4 r' = d ∧ Bb h h' v (s ++ (gS st.aB ++ (gS st.node ++ (gS st.n ++ (Cod.text st.name ++ Cod.text (enc st.entry)))))) := by
 obtain ⟨b1, b2, b3, b4, b5, b6⟩ := bd
 obtain ⟨v2, h2, a1, w1⟩ := ml (p := p) T.r W hv st.aB b2 (by omega)
 obtain ⟨v3, h3, a2, w2⟩ := ml (p := p) T.r w1.wf (Bb.rd w1) st.node b3 (by simp only [List.length_append, aC]; omega)
 obtain ⟨v4, h4, a3, w3⟩ := ml (p := p) T.r w2.wf (Bb.rd w2) st.n b4 (by simp only [List.length_append, aC]; omega)
 obtain ⟨v5, h5, a4, w4⟩ := qP (p := p) T.r w3.wf (Bb.rd w3) st.name hn (by simp only [List.length_append, aC]; omega)
 have O2 := w1.old
 have O3 := O2.trans w2.old
 have O4 := O3.trans w3.old
 have O5 := O4.trans w4.old
 obtain ⟨v6, h6, a5, o5, O6, W6⟩ := tg (p := p) T.s.t T.s.tt T.s.e17 T.s.e29 w4.wf (l := dY x y st.entry) (e := st.entry) ⟨x, y, rfl, aN.up r1 O5, bw.up r2 O5⟩ b6 hB (by omega)
 rw [ht, if_pos rfl] at o5
 have rb := jR.MW o5
 obtain ⟨v7, h7, a6, w6⟩ := qP (p := p) T.r W6 (qz.up (Bb.rd w4) O6) (enc st.entry) (by omega) (by simp only [List.length_append, aC, aJ]; omega)
 have c5 := Hy c
 refine ⟨_, h7, v7, .seq (.pL (
  .ur (v := v1) (g' := h) rfl <| .ur (v := .ptr j 1) (g' := h) rfl <| .ur (v := i64 st.aB) (g' := h) (av c 1 rfl) <| .call (v := v2) (h' := h2) a1 <|
  .MB (v := .ptr j 2) (g' := h2) (h1' := h) rfl rfl (qL _ _) <| .MB (v := i64 st.node) (g' := h2) (h1' := h) (av (c.old O2) 2 rfl) (av c 2 rfl) (wv _ _) <| .call (v := v3) (h' := h3) a2 <|
  .PG (v := .ptr j 3) (g' := h3) (h1' := h2) (h2' := h) rfl rfl rfl (qL _ _) <| .PG (v := i64 st.n) (g' := h3) (h1' := h2) (h2' := h) (av (c.old O3) 3 rfl) (av (c.old O2) 3 rfl) (av c 3 rfl) (wv _ _) <| .call (v := v4) (h' := h4) a3 <|
  .ur (v := v4) (g' := h4) rfl <| .nil)) (.pL (
  .ur (v := v4) (g' := h4) rfl <| .ur (v := .ptr j 4) (g' := h4) rfl <| .ur (v := cD st.name) (g' := h4) (av (c.old O4) 4 rfl) <| .call (v := v5) (h' := h5) a4 <|
  .MB (v := .ptr j 5) (g' := h5) (h1' := h4) rfl rfl (qL _ _) <| .MB (v := .agg (dY x y st.entry)) (g' := h5) (h1' := h4) (dC (m := 7) (c5.old O5) (by simp [dY])) (dC (m := 7) (c5.old O4) (by simp [dY])) (El r1 r2) <| .call (v := v6) (h' := h6) a5 <|
  .ur (v := cD (enc st.entry)) (g' := h6) (qA rb) <| .call (v := v7) (h' := h7) a6 <| .ur (v := v7) (g' := h7) rfl <| .nil)), rfl, rfl, rfl, ?_⟩
 refine ⟨O5.trans (O6.trans w6.old), w6.wf, jR.mono (b := fun j => ah j h6 = .none) ?_ fun j hj => (O5.trans O6).none hj⟩
 have := w6.own
 simpa only [List.append_assoc] using this
end
open Go.Cod
noncomputable section
variable {p : Pg} {h0 h h' h1 : Hp} {q j : P4} {s : Bs} {x y a b d e f : AV}
theorem DB (T : KD p) (W : Wf h) {ss : List lK} {B : Nat} (r : du h x ss) (bd : ∀ s, s ∈ ss → HB B s) (hB : B < 4294967296) (hn : ss.length < 9223372036854775807) (ht : ∀ s, s ∈ ss → takes s.entry = true) (he : ∀ s, s ∈ ss → (enc s.entry).length ≤ 65535) (hs : (ss.flatMap gP).length ≤ 16777216) :
  ∃ v h', Cv p 8 [x] h v h' ∧ Bb h h' v (ss.flatMap gP) := by
 obtain ⟨q', o', sl, g⟩ := dD.sl r
 have key : ∃ st, (∃ v h', st = .ex 0 (T7 v) h' ∧ Bb h h' v (ss.flatMap gP)) ∧ Rn p (.loop (dp 4 (bh x8))) (T0 x .ak i0) h st := by
  refine dt ss.length (Inv := fun i r h' => ∃ v, r = T0 x v (i64 i) ∧ Bb h h' v ((ss.take i).flatMap gP)) (fun i r h' hi I => ?_) (fun r h' I => ?_) ss.length 0 _ h (by omega) ⟨.ak, rfl, .refl h, W, .inl ⟨rfl, .inl rfl⟩⟩
  ·obtain ⟨v, rfl, w⟩ := I
   obtain ⟨l, l1, l2, xc, yc, rfl, r1, r2⟩ := g i hi
   obtain ⟨j, h2, c1, c2, c3, c4, c5, _⟩ := qJ (el := 28) w.wf sl hi (l2.old w.old) l1 (c0 := .k1 (Y12 i0 i0 i0 i0 iS i0 i0 i0 iS iS .ak .ak)) trivial (by decide)
   have hz : ((ss.take i).flatMap gP).length + (gP ss[i]).length ≤ 16777216 := by
    have := eV (g := gP) ss (i + 1)
    rw [cQ hi, List.length_append] at this
    omega
   have hl := kr ss[i]
   have hb := bd ss[i] (by simp)
   obtain ⟨v1, h3, a1, w1⟩ := ym (p := p) T.r c5 (qz.up (Bb.rd w) c4) ss[i].kind (by omega)
   have O2 := w.old.trans c4
   have O3 := O2.trans w1.old
   have hnm : ss[i].name.length ≤ B := hb.2.2.2.2.1
   obtain ⟨r', h4, v4, k, y0', y3', y4', w4⟩ := Em (p := p) (a := x) (d := i64 i) T w1.wf ((Ob.c0 c3).old w1.old) (aN.up r1 O3) (bw.up r2 O3) hb (by omega) (ht _ (by simp)) (he _ (by simp)) (Bb.rd w1) (by omega) (by simp only [List.length_append, aX]; omega)
   have s1 : ∀ c i' (K : A2 → Hp → RS), k8_2 c i' K (T0 x v (i64 i)) h' = K (T0 x v (i64 i)) h' := fun c i' K => by
    simp only [k8_2, K3, t0_0, t0_3, t0_4]
    (rw [bP (dD.len (du.up r w.old)), bq, bJ, if_pos (by omega)]; try rfl)
   have s2 : Ev fun m => ∀ K : A2 → Hp → RS, k8_3 (ar p (exec p m)) (aF p (exec p m)) K (T0 x v (i64 i)) h' = K (T1 x v1 (i64 i) (.ptr j 0)) h3 := a1.mono fun m g K => by
    simp only [k8_3, K3, t0_0, t0_3, t0_4]
    (rw [c1, az, aE (bz (Ob.c0 c3) rfl), bm g]; try rfl)
   have s3 : ∀ c i' (K : A2 → Hp → RS), k8_4 c i' K r' h4 = .nm (T0 x v4 (i64 (i + 1 : Nat))) h4 := fun c i' K => by
    simp only [k8_4, K3, y0', y3', y4']
    (rw [dB hi hn]; try rfl)
   refine .inl ⟨_, h4, .dQ s1 (.seq (.block (.to s2 k)) (.bI s3)), v4, rfl, O3.trans w4.old, w4.wf, ?_⟩
   refine jR.mono (b := fun j => ah j h3 = .none) ?_ fun j hj => O3.none hj
   have := w4.own
   rw [cQ hi, gP]
   simpa only [List.append_assoc] using this
  ·obtain ⟨v, rfl, w⟩ := I
   rw [List.take_length] at w
   refine ⟨_, ⟨v, h', rfl, w⟩, .de (.bI fun c i' K => ?_)⟩
   simp only [k8_2, K3, t0_0, t0_3, t0_4]
   (rw [bP (dD.len (du.up r w.old)), bq, bJ, if_neg (by omega)]; try rfl)
 obtain ⟨st, ⟨v, h', rfl, w⟩, k⟩ := key
 have s0 : ∀ c i' (K : A2 → Hp → RS), k8_0 c i' K (bG [x] 0 .nil) h = K (T19 x .ak) h := fun c i' K => by
  simp only [k8_0, K1, dK]
 have s1 : ∀ c i' (K : A2 → Hp → RS), k8_1 c i' K (T19 x .ak) h = K (T0 x .ak i0) h := fun c i' K => by
  simp only [k8_1, K2, t19_0, t19_3]
 have s2 : ∀ c i' (K : A2 → Hp → RS), k8_5 c i' K (T7 v) h' = .ret (T5 v) h' := fun c i' K => by
  simp only [k8_5, K1, t7_3]
 exact ⟨v, h', .of (r' := T5 v) (h1 := h') T.e8 (by simp) (.dQ s0 (.seq (.dQ s1 (.bA k)) (.bI s2))) rfl, w⟩
end
open Go.Cod
noncomputable section
variable {p : Pg} {h0 h h' h1 : Hp} {q j : P4} {s : Bs} {x y a b d e f : AV}
theorem zQ (s : Bs) (n : Nat) (hn : n ≤ s.length) : eO (.c (cD s)) .none (.some (.c (pi n))) .nil h = .ok (cD (s.take n)) h := by
 rw [cD, HM _ _ (by simpa using hn), ← List.map_take]
theorem uK {A C : List AV} {a b c v : AV} : (A ++ ([a, b, c] ++ C)).set (A.length + 2) v = A ++ ([a, b, v] ++ C) ∧ (A ++ ([a, b, c] ++ C)).set A.length v = A ++ ([v, b, c] ++ C) := by
 constructor
 ·rw [List.set_append_right _ _ (by omega)]; simp
 ·rw [List.set_append_right _ _ (by omega)]; simp
theorem Ob.Li {el : Nat} {ex : Bool} {fl : Fl} {A C : List AV} {m : List AV} (o : Ob h q el ex fl (A ++ (m ++ C))) : Cs h q A.length m :=
 o.cs (fun j hj => ⟨by simp; omega, by rw [List.getElem_append_right (by omega), List.getElem_append_left (by omega)]; simp⟩) (by simp)
theorem Ie (e24 : aw 24 p.fs = f24) {A C : List AV} {v : pS} {n i : Nat} (W : Wf h) (o : Ob h q 47 false .plain (A ++ (lN v ++ C))) (hA : A.length = i * 3) (hi : i < n) :
  ∃ h', (∀ X s', Rn p X (T37 a b d e f (.fN q 0 n 3) (i64 i)) h' s' → Rn p (.ag sK X) (T37 a b d e f (.fN q 0 n 3) (i64 i)) h s') ∧ Ob h' q 47 false .plain (A ++ (lN (pD v) ++ C)) ∧ (∀ j, j ≠ q → ah j h' = ah j h) ∧ Wf h' := by
 have sl : zq (.fN q 0 n 3) 3 n q 0 := .inr (.inl rfl)
 have hp : 0 + i * 3 = A.length := by omega
 have gt : eN (i64 v.s.length) (pi 41) h = .ok (.bool (decide ((41 : Int) < v.s.length))) h := fp _ _ _
 by_cases hc : 41 < v.s.length
 ·obtain ⟨h2, a1, a2, a3, a4⟩ := jL (k := A.length + 2) (v := cD (v.s.take 41)) o (by simp [lN]) rfl
  have a2 : Ob h2 q 47 false .plain (A ++ ([i64 v.kind, i64 v.n, cD (v.s.take 41)] ++ C)) := by
   have e := (uK (A := A) (C := C) (a := i64 v.kind) (b := i64 v.n) (c := cD v.s) (v := cD (v.s.take 41))).1
   rw [show A ++ (lN v ++ C) = A ++ ([i64 v.kind, i64 v.n, cD v.s] ++ C) from rfl, e] at a2; exact a2
  have nr := uI (p := p) (h := h2) e24 v.kind
  obtain ⟨h3, b1, b2, b3, b4⟩ := jL (k := A.length) (v := i64 (gh v.kind)) a2 (by simp) rfl
  have b2 : Ob h3 q 47 false .plain (A ++ ([i64 (gh v.kind), i64 v.n, cD (v.s.take 41)] ++ C)) := by
   rw [(uK (A := A) (C := C) (a := i64 v.kind) (b := i64 v.n) (c := cD (v.s.take 41)) (v := i64 (gh v.kind))).2] at b2; exact b2
  refine ⟨h3, fun X s' e => .to (nr.mono fun m g K => ?_) e, b2, fun j hj => by rw [b3 j hj, a3 j hj], ?_⟩
  ·simp only [sK, K7, sR, sS, sU, sV, sW, sX, sY]
   (rw [dg (dc sl hi), hp, az, aE (av (Ob.Li o) 2 rfl), cZ, aV, aR gt, bJ, if_pos (by omega), dg (dc sl hi), hp, az, aE (av (Ob.Li o) 2 rfl), aR (zQ _ _ (by omega)), dg (dc sl hi), hp, az, iH a1, dg (dc sl hi), hp, az, Nat.add_zero, aE (bz (Ob.Li a2) rfl), bm g, dg (dc sl hi), hp, az, Nat.add_zero, iH b1]; try rfl)
  ·refine W.of (by rw [b4, a4]) fun j hj => ?_
   have hq : j ≠ q := fun g => o.ne (g ▸ hj)
   rw [b3 j hq, a3 j hq, hj]
 ·have nr := uI (p := p) (h := h) e24 v.kind
  obtain ⟨h3, b1, b2, b3, b4⟩ := jL (k := A.length) (v := i64 (gh v.kind)) o (by simp [lN]) rfl
  have b2 : Ob h3 q 47 false .plain (A ++ ([i64 (gh v.kind), i64 v.n, cD v.s] ++ C)) := by
   have e := (uK (A := A) (C := C) (a := i64 v.kind) (b := i64 v.n) (c := cD v.s) (v := i64 (gh v.kind))).2
   rw [show A ++ (lN v ++ C) = A ++ ([i64 v.kind, i64 v.n, cD v.s] ++ C) from rfl, e] at b2; exact b2
  refine ⟨h3, fun X s' e => .to (nr.mono fun m g K => ?_) e, ?_, b3, ?_⟩
  ·simp only [sK, K7, sR, sS, sU, sV, sW, sX, sY]
   (rw [dg (dc sl hi), hp, az, aE (av (Ob.Li o) 2 rfl), cZ, aV, aR gt, bJ, if_neg (by omega), dg (dc sl hi), hp, az, Nat.add_zero, aE (bz (Ob.Li o) rfl), bm g, dg (dc sl hi), hp, az, Nat.add_zero, iH b1]; try rfl)
  ·have : lN (pD v) = [i64 (gh v.kind), i64 v.n, cD v.s] := by
    unfold lN pD
    rw [List.take_of_length_le (by omega)]
   rw [this]; exact b2
  ·refine W.of b4 fun j hj => ?_
   have hq : j ≠ q := fun g => o.ne (g ▸ hj)
   rw [b3 j hq, hj]
end
open Go.Cod
noncomputable section
variable {p : Pg} {h0 h h' h1 : Hp} {q j : P4} {s : Bs} {x y a b d e f g : AV}
theorem Ka {α β : Type} {g : α → List β} {l : List α} {i : Nat} (hi : i < l.length) : (l.take (i + 1)).flatMap g = (l.take i).flatMap g ++ g l[i] := by
 rw [List.take_succ_eq_append_getElem hi, List.flatMap_append]; simp
theorem Kb {α β : Type} {g : α → List β} {l : List α} {i : Nat} (hi : i < l.length) : (l.drop i).flatMap g = g l[i] ++ (l.drop (i + 1)).flatMap g := by
 rw [List.drop_eq_getElem_cons hi, List.flatMap_cons]
theorem fF : ∀ l : List pS, (l.flatMap lN).length = l.length * 3
 | [] => rfl
 | v :: l => by simp [lN, fF l]; omega
def lC (h : Hp) (g : AV) (row : List pS) (B : P4 → Prop) : Prop := (row = [] ∧ (g = .ak ∨ ∃ q, g = .slice q 0 0 0)) ∨ ∃ q rest, g = .fN q 0 row.length 3 ∧ Ob h q 47 false .plain (row.flatMap lN ++ rest) ∧ B q
theorem lC.rd {B : P4 → Prop} {row : List pS} (w : lC h g row B) (O : ∀ q, B q → ah q h ≠ .none → ah q h' = ah q h) : eL h' g row := by
 rcases w with ⟨rfl, rfl | ⟨q, rfl⟩⟩ | ⟨q, rest, rfl, o, hb⟩
 ·exact ⟨.eM 0 0, 0, .inr (.inr ⟨rfl, rfl⟩), fun i hi => absurd hi (by simp)⟩
 ·exact ⟨q, 0, .inl ⟨0, by simp, rfl⟩, fun i hi => absurd hi (by simp)⟩
 ·have o := o.eq (O q hb o.ne)
  refine ⟨q, 0, .inr (.inl rfl), fun i hi => ⟨_, rfl, ?_, rfl⟩⟩
  have e : row.flatMap lN ++ rest = (row.take i).flatMap lN ++ (lN row[i] ++ ((row.drop (i + 1)).flatMap lN ++ rest)) := by
   conv => lhs; rw [← List.take_append_drop i row]
   rw [List.flatMap_append, Kb hi]
   simp only [List.append_assoc]
  rw [e] at o
  have := Ob.Li o
  rw [fF, List.length_take, Nat.min_eq_left (by omega)] at this
  rw [Nat.zero_add]; exact this
theorem lC.len {B : P4 → Prop} {row : List pS} (w : lC h g row B) : Am.len g h = .ok (.int .i64 (row.length : Int)) h := by
 rcases w with ⟨rfl, rfl | ⟨q, rfl⟩⟩ | ⟨q, rest, rfl, o, hb⟩ <;> rfl
theorem En (e24 : aw 24 p.fs = f24) {B : P4 → Prop} {row : List pS} (W : Wf h) (w : lC h g row B) (hn : row.length < 9223372036854775807) :
  ∃ h', Rn p (.loop (.ag sL (.ag sK (.ag k25_8 .skip)))) (T37 a b d e f g i0) h (.ex 2 (T36 a b d e f g) h') ∧ lC h' g (row.map pD) B ∧ (∀ j, ¬ B j → ah j h' = ah j h) ∧ (∀ j, ah j h ≠ .none → ah j h' ≠ .none) ∧ Wf h' := by
 rcases w with ⟨rfl, hg⟩ | ⟨q, rest, rfl, o, hb⟩
 ·refine ⟨h, .de (.bI fun c i' K => ?_), .inl ⟨rfl, hg⟩, fun _ _ => rfl, fun _ hj => hj, W⟩
  have hl : Am.len g h = .ok (.int .i64 0) h := by rcases hg with rfl | ⟨q, rfl⟩ <;> rfl
  simp only [sL, K7, sR, sS, sU, sV, sW, sX, sY]
  (rw [bP hl, bq, bJ, if_neg (by decide)]; try rfl)
 ·obtain ⟨r', h', ⟨_, I1, I2, I3, I4⟩, k⟩ := kZ (p := p) (body := .ag sL (.ag sK (.ag k25_8 .skip))) (r := T37 a b d e f (.fN q 0 row.length 3) i0) (h := h) row.length
   (Inv := fun i r h' => r = T37 a b d e f (.fN q 0 row.length 3) (i64 i) ∧ Ob h' q 47 false .plain (((row.take i).map pD).flatMap lN ++ ((row.drop i).flatMap lN ++ rest)) ∧ (∀ j, j ≠ q → ah j h' = ah j h) ∧ Wf h' ∧ True) (l := 2) (Re := T36 a b d e f (.fN q 0 row.length 3)) (fun i r h' hi I => by
    obtain ⟨rfl, o, O, W, _⟩ := I
    rw [Kb hi, List.append_assoc] at o
    obtain ⟨h2, k, o2, O2, W2⟩ := Ie (p := p) (a := a) (b := b) (d := d) (e := e) (f := f) (n := row.length) e24 W o (by rw [fF, List.length_map, List.length_take, Nat.min_eq_left (by omega)]) hi
    refine ⟨T37 a b d e f (.fN q 0 row.length 3) (i64 (i + 1 : Nat)), h2, .dQ (r' := T37 a b d e f (.fN q 0 row.length 3) (i64 i)) (h' := h') (fun c i' K => ?_) (k _ _ (.bI fun c i' K => ?_)), rfl, ?_, fun j hj => by rw [O2 j hj, O j hj], W2, trivial⟩
    ·simp only [sL, K7, sR, sS, sU, sV, sW, sX, sY]
     (rw [bP (gC (es := 3) (.inr (.inl rfl))), bq, bJ, if_pos (by omega)]; try rfl)
    ·simp only [k25_8, K7, sR, sS, sU, sV, sW, sX, sY]
     (rw [dB hi hn]; try rfl)
    ·rw [List.take_succ_eq_append_getElem hi, List.map_append, List.flatMap_append]
     simpa only [List.map_cons, List.map_nil, List.flatMap_cons, List.flatMap_nil, List.append_nil, List.append_assoc] using o2) (fun r h' I => by
    obtain ⟨rfl, o, O, W, _⟩ := I
    refine .bI fun c i K => ?_
    simp only [sL, K7, sR, sS, sU, sV, sW, sX, sY]
    (rw [bP (gC (es := 3) (.inr (.inl rfl))), bq, bJ, if_neg (by omega)]; try rfl)) ⟨rfl, by simpa using o, fun _ _ => rfl, W, trivial⟩
  have I1' : Ob h' q 47 false .plain ((row.map pD).flatMap lN ++ rest) := by simpa using I1
  refine ⟨h', k, .inr ⟨q, rest, by rw [List.length_map], I1', hb⟩, fun j hj => I2 j (fun g => hj (g ▸ hb)), fun j hj => ?_, I3⟩
  by_cases g : j = q
  ·rw [g]; exact I1'.ne
  ·rw [I2 j g]; exact hj
end
open Go.Cod
noncomputable section
variable {p : Pg} {h hb h' h2 : Hp} {q j : P4} {x y v : AV} {α : Type} {f : Hp → List AV → α → Prop} {xs : List α} {el es : Nat}
structure Lb (h hb h' : Hp) (v : AV) (el es : Nat) (f : Hp → List AV → α → Prop) (xs : List α) : Prop where
 old : Old h h'
 wf : Wf h'
 own : ∃ hr L, Old hb hr ∧ Old hr h' ∧ (∀ j, ah j hr ≠ .none → ah j hb ≠ .none ∨ ah j h = .none) ∧ jR h' v el es (List.flatten L) (fun j => ah j hr = .none ∧ ah j h = .none) ∧ L.length = xs.length ∧ ∀ i (hi : i < L.length) (hx : i < xs.length), L[i].length = es ∧ f hr L[i] xs[i]
theorem Lb.nil (W : Wf h) (O : Old hb h) (hv : v = .ak ∨ ∃ q, v = .slice q 0 0 0) : Lb h hb h v el es f [] :=
 ⟨.refl h, W, hb, [], .refl hb, O, fun _ hj => .inl hj, .inl ⟨rfl, hv⟩, rfl, fun i hi => absurd hi (by simp)⟩
theorem kG {es : Nat} : ∀ {L : List (List AV)}, (∀ i (hi : i < L.length), L[i].length = es) → L.flatten.length = L.length * es
 | [], _ => by simp
 | a :: L, g => by
  have h0 := g 0 (by simp)
  have := kG (L := L) fun i hi => g (i + 1) (by simp; omega)
  simp only [List.flatten_cons, List.length_append, List.length_cons, this, Nat.add_mul]
  simp at h0
  omega
theorem Lb.app (w : Lb h hb h' v el es f xs) (mono : ∀ h1 h2 l a, Old h1 h2 → f h1 l a → f h2 l a) (hes : 0 < es) (O : Old h' h2) (W : Wf h2) {l : List AV} {a : α} (hl : l.length = es)
  (hf : ∀ hr, Old hb hr → (∀ j, ah j h' = .none → ah j hr = ah j h2) → f hr l a) (hs : (xs.length + 1) * es ≤ 16777216) :
  ∃ v' h3, kE el es 1 l v h2 = .ok v' h3 ∧ Lb h hb h3 v' el es f (xs ++ [a]) ∧ ∀ j, ah j h' = .none → ah j h2 ≠ .none → ah j h3 = ah j h2 := by
 classical
 obtain ⟨w1, w2, hr, L, r1, r2, r3, r4, r5, r6⟩ := w
 obtain ⟨hr', g⟩ := zL fun j => if ah j h' = .none then ah j h2 else ah j hr
 have g1 : ∀ j, ah j h' = .none → ah j hr' = ah j h2 := fun j hj => by rw [g, if_pos hj]
 have g2 : ∀ j, ah j h' ≠ .none → ah j hr' = ah j hr := fun j hj => by rw [g, if_neg hj]
 have O1 : Old hr hr' := fun j hj => g2 j (by rw [r2 j hj]; exact hj)
 have O2 : Old hr' h2 := fun j hj => by
  by_cases hn : ah j h' = .none
  ·rw [g1 j hn]
  ·rw [g2 j hn] at hj ⊢
   rw [O j hn, r2 j hj]
 have ow : jR h2 v el es L.flatten (fun j => ah j hr' = .none ∧ ah j h = .none) := by
  rcases r4 with r4 | ⟨q, n, e1, e2, e3, e4⟩
  ·exact .inl r4
  ·exact .inr ⟨q, n, e1, e2, e3.old O, by rw [g2 q e3.ne]; exact e4.1, e4.2⟩
 have hL := kG (es := es) (L := L) fun i hi => (r6 i hi (by omega)).1
 have hs' : xs.length * es + es ≤ 16777216 := by rw [Nat.add_mul] at hs; omega
 obtain ⟨v', h3, c1, c2, c3, c4⟩ := iK (m := 1) W ow hes (new := l) (by omega) (by rw [hL, r5]; omega)
 have O3 : Old hr' h3 := fun j hj => by
  have e := O2 j hj
  rw [c4 j (by rw [e]; exact hj) (fun g => hj g.1), e]
 refine ⟨v', h3, c1, ⟨?_, c3, hr', L ++ [l], r1.trans O1, O3, ?_, ?_, by simp [r5], ?_⟩, fun j hj hj2 => by rw [O3 j (by rw [g1 j hj]; exact hj2), g1 j hj]⟩
 ·intro j hj
  have e := (w1.trans O) j hj
  rw [c4 j (by rw [e]; exact hj) (fun g => hj g.2), e]
 ·intro j hj
  by_cases hn : ah j h' = .none
  ·exact .inr (w1.none hn)
  ·rw [g2 j hn] at hj
   exact r3 j hj
 ·simp only [List.flatten_append, List.flatten_cons, List.flatten_nil, List.append_nil]
  refine jR.mono c2 fun j hj => ?_
  rcases hj with hj | hj
  ·exact hj
  ·exact ⟨O2.none hj, (w1.trans O).none hj⟩
 ·intro i hi hx
  by_cases hi' : i < L.length
  ·have := r6 i hi' (by omega)
   rw [List.getElem_append_left hi', List.getElem_append_left (by omega)]
   exact ⟨this.1, mono _ _ _ _ O1 this.2⟩
  ·have : i = L.length := by simp at hi; omega
   subst this
   have a1 : (L ++ [l])[L.length]'hi = l := by simp
   have a2 : (xs ++ [a])[L.length]'hx = a := by
    have := List.getElem_append_right (as := xs) (bs := [a]) (i := L.length) (by omega) (h₂ := hx)
    rw [this]; simp
   rw [a1, a2]
   exact ⟨hl, hf hr' (r1.trans O1) g1⟩
theorem Lb.up (w : Lb h hb h' v el es f xs) (O : Old h' h2) (W : Wf h2) : Lb h hb h2 v el es f xs := by
 obtain ⟨w1, w2, hr, L, r1, r2, r3, r4, r5⟩ := w
 refine ⟨w1.trans O, W, hr, L, r1, r2.trans O, r3, ?_, r5⟩
 rcases r4 with r4 | ⟨q, n, e1, e2, e3, e4⟩
 ·exact .inl r4
 ·exact .inr ⟨q, n, e1, e2, e3.old O, e4⟩
theorem Lb.rd (w : Lb h hb h' v el es f xs) (mono : ∀ h1 h2 l a, Old h1 h2 → f h1 l a → f h2 l a) (hes : 0 < es) : ∃ hr, Old hb hr ∧ Old hr h' ∧ (∀ j, ah j hr ≠ .none → ah j hb ≠ .none ∨ ah j h = .none) ∧ dD hr es (f hr) v xs := by
 classical
 obtain ⟨w1, w2, hr, L, r1, r2, r3, r4, r5, r6⟩ := w
 rcases r4 with ⟨e, hv⟩ | ⟨q, n, rfl, e2, e3, e4⟩
 ·refine ⟨hr, r1, r2, r3, ?_⟩
  have hL := kG (es := es) (L := L) fun i hi => (r6 i hi (by omega)).1
  have : xs = [] := by
   rw [e, List.length_nil] at hL
   have : L.length = 0 := (Nat.mul_eq_zero.1 hL.symm).resolve_right (by omega)
   exact List.length_eq_zero_iff.1 (by omega)
  subst this
  rcases hv with rfl | ⟨q, rfl⟩
  ·exact ⟨.eM 0 0, 0, .inr (.inr ⟨rfl, rfl⟩), fun i hi => absurd hi (by simp)⟩
  ·exact ⟨q, 0, .inl ⟨0, by simp, rfl⟩, fun i hi => absurd hi (by simp)⟩
 ·obtain ⟨hr', g⟩ := zL fun j => if j = q then ah j h' else ah j hr
  have gq : ah q hr' = ah q h' := by rw [g, if_pos rfl]
  have g2 : ∀ j, j ≠ q → ah j hr' = ah j hr := fun j hj => by rw [g, if_neg hj]
  have O1 : Old hr hr' := fun j hj => g2 j (fun e => hj (e ▸ e4.1))
  have O2 : Old hr' h' := fun j hj => by
   by_cases e : j = q
   ·rw [e, gq]
   ·rw [g2 j e] at hj ⊢
    exact r2 j hj
  have hL := kG (es := es) (L := L) fun i hi => (r6 i hi (by omega)).1
  have hn : n = xs.length := by
   rw [hL, r5] at e2
   exact (Nat.eq_of_mul_eq_mul_right hes e2).symm
  subst hn
  refine ⟨hr', r1.trans O1, O2, fun j hj => ?_, q, 0, .inr (.inl rfl), fun i hi => ?_⟩
  ·by_cases e : j = q
   ·rw [e]; exact .inr e4.2
   ·rw [g2 j e] at hj; exact r3 j hj
  ·have hi' : i < L.length := by omega
   obtain ⟨k1, k2⟩ := r6 i hi' hi
   refine ⟨L[i], k1, ?_, mono _ _ _ _ O1 k2⟩
   have e : L.flatten = (L.take i).flatten ++ (L[i] ++ (L.drop (i + 1)).flatten) := by
    conv => lhs; rw [← List.take_append_drop i L]
    rw [List.flatten_append, List.drop_eq_getElem_cons hi', List.flatten_cons]
   rw [e] at e3
   have := Ob.Li (e3.eq (h' := hr') gq)
   rw [kG (es := es) (fun k hk => by rw [List.getElem_take]; exact (r6 k (by simp at hk; omega) (by simp at hk; omega)).1), List.length_take, Nat.min_eq_left (by omega)] at this
   rw [Nat.zero_add]; exact this
end
open Go.Cod
noncomputable section
variable {p : Pg} {h hb h' h2 h0 : Hp} {q j : P4} {x y v a b d e f g : AV} {o : Nat}
theorem Cs.app {l m : List AV} (a : Cs h q o l) (b : Cs h q (o + l.length) m) : Cs h q o (l ++ m) := by
 obtain ⟨el, n, ex, fl, c, e, r1, r2⟩ := a
 obtain ⟨el', n', ex', fl', c', e', s1, s2⟩ := b
 rw [e] at e'
 cases e'
 refine ⟨el, n, ex, fl, c, e, by rw [List.length_append]; omega, fun k hk => ?_⟩
 by_cases hkl : k < l.length
 ·rw [List.getElem_append_left hkl, r2 k hkl]
 ·rw [List.getElem_append_right (by omega), ← s2 (k - l.length) (by simp at hk; omega)]
  congr 1; omega
theorem Bi {row : List pS} (r : eL h x row) : ∃ q o, zq x 3 row.length q o ∧ (row.length ≠ 0 → Cs h q o (row.flatMap lN)) := by
 obtain ⟨q, o, sl, g⟩ := dD.sl r
 have g : ∀ i (hi : i < row.length), Cs h q (o + i * 3) (lN row[i]) := fun i hi => by
  obtain ⟨l, _, l2, rfl⟩ := g i hi; exact l2
 refine ⟨q, o, sl, fun hn => ?_⟩
 have key : ∀ k, k < row.length → Cs h q o ((row.take (k + 1)).flatMap lN) := by
  intro k
  induction k with
  | zero =>
   intro hk
   rw [Ka hk]
   simpa using g 0 hk
  | succ k ih =>
   intro hk
   rw [Ka hk]
   refine Cs.app (ih (by omega)) ?_
   rw [fF, List.length_take, Nat.min_eq_left (by omega)]
   exact g (k + 1) hk
 have := key (row.length - 1) (by omega)
 rw [show row.length - 1 + 1 = row.length by omega, List.take_length] at this
 exact this
theorem Ig (W : Wf h) {row : List pS} (r : eL h x row) (hl : row.length * 3 ≤ 16777216) :
  ∃ g hA l hB, Seat.bs 47 3 0 [] [] h = .ok g hA ∧ dW 47 3 g x hA = .ok l hB ∧ lC hB l row (fun j => ah j h = .none) ∧ Old h hB ∧ Wf hB := by
 obtain ⟨j, h1, f1, f2, f3, f4, f5, f6⟩ := iD (el := 47) (es := 3) (n := 0) (z := []) (ps := []) (l := []) W rfl rfl (by simp)
 obtain ⟨q, o, sl, c⟩ := Bi (eL.up r f4)
 obtain ⟨v, h2, c1, c2, c3, c4⟩ := iK (m := row.length) (es := 3) f5 (x := .slice j 0 0 0) (b := fun _ => False) (el := 47) (l := []) (.inl ⟨rfl, .inr ⟨j, rfl⟩⟩) (by omega) (new := row.flatMap lN) (fF row) (by rw [fF]; simp; omega)
 have O : Old h h2 := fun k hk => by
  have e := f4 k hk
  rw [c4 k (by rw [e]; exact hk) (fun g => g), e]
 refine ⟨_, h1, v, h2, f1, by rw [gU sl (by omega) c (fF row) (by omega)]; exact c1, ?_, O, c3⟩
 rw [List.nil_append] at c2
 rcases c2 with ⟨e, hv⟩ | ⟨q, n, rfl, e2, e3, e4⟩
 ·have := fF row
  rw [e, List.length_nil] at this
  exact .inl ⟨List.length_eq_zero_iff.1 (by omega), hv⟩
 ·have hn : n = row.length := by rw [fF] at e2; omega
  subst hn
  refine .inr ⟨q, [], rfl, by rw [List.append_nil]; exact e3, ?_⟩
  rcases e4 with e4 | e4
  ·exact e4.elim
  ·exact f4.none e4
theorem Pa {B : P4 → Prop} {row : List pS} (w : lC h g row B) (hc : 7 < row.length) : ∃ v, iA 3 (.c g) .none (.some (.c (pi 7))) .none .nil h = .ok v h ∧ lC h v (row.take 7) B := by
 rcases w with ⟨rfl, _⟩ | ⟨q, rest, rfl, o, hb⟩
 ·simp at hc
 ·have e : row.flatMap lN ++ rest = (row.take 7).flatMap lN ++ ((row.drop 7).flatMap lN ++ rest) := by
   conv => lhs; rw [← List.take_append_drop 7 row]
   rw [List.flatMap_append, List.append_assoc]
  have hlen : 21 ≤ (row.flatMap lN ++ rest).length := by rw [List.length_append, fF]; omega
  refine ⟨.fN q 0 7 3, ?_, .inr ⟨q, (row.drop 7).flatMap lN ++ rest, by rw [List.length_take, Nat.min_eq_left (by omega)], by rw [← e]; exact o, hb⟩⟩
  obtain ⟨c, e1, e2, e3⟩ := o
  show (Obj.aQ (ah q h) (fun _ k _ _ _ => @Bool.rec (fun _ => RV) (.err 45) (.ok (.fN q 0 7 3) h) (Nat.ble 21 k)) (.err 46) : RV) = _
  rw [e1]
  show (@Bool.rec (fun _ => RV) (.err 45) (.ok (.fN q 0 7 3) h) (Nat.ble 21 (row.flatMap lN ++ rest).length)) = _
  rw [Nat.ble_eq_true_of_le hlen]
end
open Go.Cod
noncomputable section
variable {p : Pg} {h hb h' h2 h0 : Hp} {q j : P4} {x y v a b d e f g : AV} {o : Nat}
theorem lC.one {B : P4 → Prop} {row : List pS} (w : lC h g row B) : g.one = true := by
 rcases w with ⟨_, rfl | ⟨q, rfl⟩⟩ | ⟨q, rest, rfl, _⟩ <;> rfl
theorem zR {n i : Nat} {dv : AV} (hl : Am.len x h = .ok (.int .i64 (n : Int)) h) : ∃ r', Os p (opsL (dp 6 (bh x25))) (T34 x (i64 9) dv (i64 i)) h (.nm r' h) ∧ y0 r' = x ∧ y1 r' = i64 9 ∧ y5 r' = dv ∧ y6 r' = i64 i ∧ y18 r' = .bool (decide ((i : Int) < n) && decide ((i : Int) < 9)) := by
 have l1 : bK .lt (i64 i) (i64 n) h = .ok (.bool (decide ((i : Int) < n))) h := tc _ _ _
 have l2 : bK .lt (i64 i) (i64 9) h = .ok (.bool (decide ((i : Int) < 9))) h := tc _ _ _
 cases hc : decide ((i : Int) < n) with
 | true =>
  rw [hc] at l1
  exact ⟨_, .step (v := i64 i) (h' := h) rfl <| .step (v := x) (h' := h) rfl <| .step (v := i64 n) (h' := h) hl <| .step (v := .bool true) (h' := h) l1 <| .step (v := .bool true) (h' := h) rfl <|
   .on rfl <| .step (v := i64 i) (h' := h) rfl <| .on rfl <| .step (v := i64 9) (h' := h) rfl <| .on rfl <| .step (v := .bool (decide ((i : Int) < 9))) (h' := h) l2 <| .step (v := .bool (decide ((i : Int) < 9))) (h' := h) rfl <| .nil, rfl, rfl, rfl, rfl, rfl⟩
 | false =>
  rw [hc] at l1
  exact ⟨_, .step (v := i64 i) (h' := h) rfl <| .step (v := x) (h' := h) rfl <| .step (v := i64 n) (h' := h) hl <| .step (v := .bool false) (h' := h) l1 <| .step (v := .bool false) (h' := h) rfl <|
   .off rfl <| .off rfl <| .off rfl <| .step (v := .bool false) (h' := h) rfl <| .nil, rfl, rfl, rfl, rfl, rfl⟩
theorem fP.mono : ∀ (h1 h2 : Hp) (l : List AV) (a : sj), Old h1 h2 → fP h1 l a → fP h2 l a := fun _ _ _ _ O r => fP.up r O
theorem Bj (e24 : aw 24 p.fs = f24) {cs : List sj} {ys : List sj} {i : Nat} {dv : AV} (w : Lb h0 hb h dv 45 3 fP ys) (O0 : Old hb h) (r : bw hb x cs) (hi : i < cs.length) (hr : ∀ c, c ∈ cs → c.row.length ≤ 1048576) (hy : ys.length ≤ 1000) :
  ∃ v' h', Rn p (dp 1 (dp 1 (bh (dp 4 (bh x25))))) (T34 x (i64 9) dv (i64 i)) h (.nm (T34 x (i64 9) v' (i64 i)) h') ∧ Lb h0 hb h' v' 45 3 fP (ys ++ [kq cs[i]]) := by
 obtain ⟨q', o', sl, g⟩ := dD.sl r
 obtain ⟨l, l1, l2, z, rfl, hrow⟩ := g i hi
 obtain ⟨j, h1, c1, c2, c3, c4, c5, _⟩ := qJ (el := 45) w.wf sl hi (l2.old O0) l1 (c0 := .k1 (Y3 iS .ak (.bool false))) trivial (by decide)
 have hrl := hr cs[i] (by simp)
 generalize hc : cs[i] = c at *
 -- the name of the table
 have s1 : ∃ h2, (∀ cc i' (K : A2 → Hp → RS), k25_3 cc i' K (T34 x (i64 9) dv (i64 i)) h = K (T35 x (i64 9) dv (i64 i) (.ptr j 0)) h2) ∧ Ob h2 j 45 true .plain [cD (c.table.take 20), z, .bool c.remove] ∧ Old h h2 ∧ Wf h2 := by
  have gt : eN (i64 c.table.length) (pi 20) h1 = .ok (.bool (decide ((20 : Int) < c.table.length))) h1 := fp _ _ _
  by_cases hl : 20 < c.table.length
  ·obtain ⟨h2, a1, a2, a3, a4⟩ := jL (k := 0) (v := cD (c.table.take 20)) c3 (by simp [OW]) rfl
   refine ⟨h2, fun cc i' K => ?_, a2, fun k hk => ?_, c5.of a4 fun k hk => ?_⟩
   ·simp only [k25_3, K4, t34_0, t34_1, t34_5, t34_6]
    (rw [c1, az, aE (bz (Ob.c0 c3) rfl), cZ, aV, aR gt, bJ, if_pos (by omega), az, aE (bz (Ob.c0 c3) rfl), aR (zQ _ _ (by omega)), az, iH a1]; try rfl)
   ·rw [a3 k (fun g => by rw [g] at hk; exact hk c2), c4 k hk]
   ·rw [a3 k (fun g => by rw [g] at hk; exact c3.ne hk)]; exact hk
  ·refine ⟨h1, fun cc i' K => ?_, by rw [List.take_of_length_le (by omega)]; exact c3, c4, c5⟩
   simp only [k25_3, K4, t34_0, t34_1, t34_5, t34_6]
   (rw [c1, az, aE (bz (Ob.c0 c3) rfl), cZ, aV, aR gt, bJ, if_neg (by omega)]; try rfl)
 obtain ⟨h2, s1, o2, O2, W2⟩ := s1
 -- the row, copied and cut
 have s2 : ∃ v h3, (∀ cc i' (K : A2 → Hp → RS), k25_4 cc i' K (T35 x (i64 9) dv (i64 i) (.ptr j 0)) h2 = K (T36 x (i64 9) dv (i64 i) (.ptr j 0) v) h3) ∧ lC h3 v (c.row.take 7) (fun j => ah j h2 = .none) ∧ Old h2 h3 ∧ Wf h3 := by
  obtain ⟨g0, hA, l0, h3, b1, b2, b3, b4, b5⟩ := Ig W2 (eL.up hrow (O0.trans O2)) (by omega)
  have gt : eN (i64 c.row.length) (pi 7) h3 = .ok (.bool (decide ((7 : Int) < c.row.length))) h3 := fp _ _ _
  have hz : lD (.ptr j (0 + 1)) hA = .ok z hA := by
   have : Old h2 hA := by
    obtain ⟨j', hA', f1, f2, f3, f4, f5, f6⟩ := iD (el := 47) (es := 3) (n := 0) (z := []) (ps := []) (l := []) W2 rfl rfl (by simp)
    rw [b1] at f1
    cases f1
    exact f4
   exact av ((Ob.c0 o2).old this) 1 rfl
  by_cases hl : 7 < c.row.length
  ·obtain ⟨v, d1, d2⟩ := Pa b3 hl
   refine ⟨v, h3, fun cc i' K => ?_, d2, b4, b5⟩
   simp only [k25_4, K5, t35_0, t35_1, t35_5, t35_6, t35_7]
   (rw [aR b1, az, aE hz, aR b2, bP (lC.len b3), aR gt, bJ, if_pos (by omega), aR d1]; try rfl)
  ·refine ⟨l0, h3, fun cc i' K => ?_, by rw [List.take_of_length_le (by omega)]; exact b3, b4, b5⟩
   simp only [k25_4, K5, t35_0, t35_1, t35_5, t35_6, t35_7]
   (rw [aR b1, az, aE hz, aR b2, bP (lC.len b3), aR gt, bJ, if_neg (by omega)]; try rfl)
 obtain ⟨v, h3, s2, w3, O3, W3⟩ := s2
 obtain ⟨h4, s3, w4, O4, N4, W4⟩ := En (p := p) (a := x) (b := i64 9) (d := dv) (e := i64 i) (f := .ptr j 0) e24 W3 w3 (by rw [List.length_take]; omega)
 have O24 : Old h2 h4 := fun k hk => by
  have e := O3 k hk
  rw [O4 k (fun g => hk g), e]
 obtain ⟨h5, t1, t2, t3, t4⟩ := jL (k := 1) (v := v) (o2.old O24) (by simp) (lC.one w4)
 have t2 : Ob h5 j 45 true .plain [cD (c.table.take 20), v, .bool c.remove] := t2
 have W5 : Wf h5 := W4.of t4 fun k hk => by
  rw [t3 k (fun g => by rw [g] at hk; exact (o2.old O24).ne hk)]; exact hk
 obtain ⟨m, h6, u1, u2, u3, u4, u5, u6⟩ := iD (el := 45) (es := 3) (n := 1) (z := [iS, .ak, .bool false]) (ps := [.mk 0 3 (.c (.agg [cD (c.table.take 20), v, .bool c.remove]))]) (l := [cD (c.table.take 20), v, .bool c.remove]) W5 rfl rfl (by simp)
 have hj2 : ah j h2 ≠ .none := o2.ne
 have hj : ah j h = .none := c2
 have O5 : Old h h5 := fun k hk => by
  have hkj : k ≠ j := fun g => by rw [g] at hk; exact hk hj
  rw [t3 k hkj, (O2.trans O24) k hk]
 obtain ⟨v', h7, z1, z2, _⟩ := w.app (a := kq c) (l := [cD (c.table.take 20), v, .bool c.remove]) fP.mono (by omega) (O5.trans u4) u5 rfl (fun hr H1 H2 => by
  refine ⟨v, rfl, lC.rd (B := fun j => ah j h2 = .none) (row := (c.row.take 7).map pD) w4 fun k hk hk4 => ?_⟩
  have hk0 : ah k h = .none := O2.none hk
  have hkj : k ≠ j := fun g => by rw [g] at hk; exact hj2 hk
  rw [H2 k hk0, u4 k (by rw [t3 k hkj]; exact hk4), t3 k hkj]) (by omega)
 have s4 : ∀ cc i' (K : A2 → Hp → RS), k25_9 cc i' K (T36 x (i64 9) dv (i64 i) (.ptr j 0) v) h4 = .nm (T34 x (i64 9) v' (i64 i)) h7 := fun cc i' K => by
  simp only [k25_9, K6, t36_0, t36_1, t36_5, t36_6, t36_7, t36_8]
  have M := dC (m := 3) (Ob.c0 t2) rfl
  have V : dW 45 3 dv (.slice m 0 1 1) h6 = .ok v' h7 := by
   rw [gU (m := 1) (q := m) (o := 0) (l := [cD (c.table.take 20), v, .bool c.remove]) (.inl ⟨_, rfl⟩) (by omega) (fun _ => Ob.c0 u3) rfl (by omega)]
   exact z1
  (rw [az, iH t1, fM M, aR u1, aR V]; try rfl)
 have s5 : ∀ cc i' (K : A2 → Hp → RS), k25_5 cc i' K (T36 x (i64 9) dv (i64 i) (.ptr j 0) v) h3 = K (T37 x (i64 9) dv (i64 i) (.ptr j 0) v i0) h3 := fun cc i' K => by
  simp only [k25_5, K6, t36_0, t36_1, t36_5, t36_6, t36_7, t36_8]
 exact ⟨v', h7, .dQ s1 (.dQ s2 (.seq (.dQ s5 (.bA s3)) (.bI s4))), z2⟩
end
open Go.Cod
noncomputable section
variable {p : Pg} {h hb h' h2 h0 : Hp} {q j : P4} {x y v a b d e f g : AV} {o : Nat}
theorem Lj (e24 : aw 24 p.fs = f24) (e25 : aw 25 p.fs = f25) (W : Wf h) (O0 : Old hb h) {cs : List sj} (r : bw hb x cs) (hr : ∀ c, c ∈ cs → c.row.length ≤ 1048576) :
  ∃ v h', Cv p 25 [x, i64 9] h v h' ∧ Lb h hb h' v 45 3 fP ((cs.take 9).map kq) := by
 have hlen : ∀ h', Old h h' → Am.len x h' = .ok (.int .i64 (cs.length : Int)) h' := fun h' O => dD.len (bw.up r (O0.trans O))
 obtain ⟨r', h', ⟨v, rfl, w⟩, k⟩ := wu (p := p) (body := dp 4 (bh x25)) (r := T34 x (i64 9) .ak i0) (h := h) (min cs.length 9)
  (Inv := fun i r h' => ∃ dv, r = T34 x (i64 9) dv (i64 i) ∧ Lb h hb h' dv 45 3 fP ((cs.take i).map kq)) (l := 0) (fun i r h' hi I => by
   obtain ⟨dv, rfl, w⟩ := I
   have hi1 : i < cs.length := by omega
   obtain ⟨r3, o1, o2, o3, o4, o5, o6⟩ := zR (p := p) (i := i) (dv := dv) (hlen h' w.old)
   obtain ⟨v', h5, c1, c2⟩ := Bj (p := p) e24 w (O0.trans w.old) r hi1 hr (by simp; omega)
   refine ⟨T34 x (i64 9) v' (i64 (i + 1 : Nat)), h5, .seq (.seq (.ops o1) (.bI (s := .nm (T34 x (i64 9) dv (i64 i)) h') fun c i' K => ?_)) (.seq (.block c1) (.bI fun c i' K => ?_)), v', rfl, ?_⟩
   ·simp only [k25_2, K5, o2, o3, o4, o5, o6]
    rw [decide_eq_true (by omega), decide_eq_true (by omega)]
    rfl
   ·simp only [k25_10, K4, t34_0, t34_1, t34_5, t34_6]
    (rw [dB (n := 9) (by omega) (by omega)]; try rfl)
   ·rw [List.take_succ_eq_append_getElem hi1, List.map_append]
    exact c2) (fun r h' I => by
   obtain ⟨dv, rfl, w⟩ := I
   obtain ⟨r3, o1, o2, o3, o4, o5, o6⟩ := zR (p := p) (i := min cs.length 9) (dv := dv) (hlen h' w.old)
   refine .yn (.seq (.ops o1) (.bI fun c i' K => ?_))
   simp only [k25_2, K5, o2, o3, o4, o5, o6]
   have : (decide (((min cs.length 9 : Nat) : Int) < (cs.length : Int)) && decide (((min cs.length 9 : Nat) : Int) < 9)) = false := by
    rw [Bool.and_eq_false_iff, decide_eq_false_iff_not, decide_eq_false_iff_not]; omega
   rw [this]; rfl) ⟨.ak, rfl, by simpa using Lb.nil W O0 (.inl rfl)⟩
 have s0 : ∀ c i' (K : A2 → Hp → RS), k25_0 c i' K (bG [x, i64 9] 0 .nil) h = K (T33 x (i64 9) .ak) h := fun c i' K => by
  simp only [k25_0, K2, mV, mW]
 have s1 : ∀ c i' (K : A2 → Hp → RS), k25_1 c i' K (T33 x (i64 9) .ak) h = K (T34 x (i64 9) .ak i0) h := fun c i' K => by
  simp only [k25_1, K3, t33_0, t33_1, t33_5]
 have s2 : ∀ c i' (K : A2 → Hp → RS), k25_11 c i' K (T34 x (i64 9) v (i64 (min cs.length 9 : Nat))) h' = .ret (T30 v) h' := fun c i' K => by
  simp only [k25_11, K1, t34_5]
 refine ⟨v, h', .of (r' := T30 v) (h1 := h') e25 (by simp) (.dQ s0 (.seq (.dQ s1 (.bA k)) (.bI s2))) rfl, ?_⟩
 have : cs.take (min cs.length 9) = cs.take 9 := by
  by_cases g : cs.length ≤ 9
  ·rw [Nat.min_eq_left g, List.take_length, List.take_of_length_le g]
  ·rw [Nat.min_eq_right (by omega)]
 rw [this] at w
 exact w
end
open Go.Cod
noncomputable section
variable {p : Pg} {h hb h' h2 h0 : Hp} {q j : P4} {x y v a b d e f g : AV} {o : Nat}
theorem merge {h1 h2 h3 : Hp} (O1 : Old h1 h3) (O2 : Old h2 h3) : ∃ hr, Old h1 hr ∧ Old h2 hr ∧ Old hr h3 ∧ ∀ k, ah k hr ≠ .none → ah k h1 ≠ .none ∨ ah k h2 ≠ .none := by
 classical
 obtain ⟨hr, g⟩ := zL fun k => if ah k h1 = .none then ah k h2 else ah k h1
 have g1 : ∀ k, ah k h1 ≠ .none → ah k hr = ah k h1 := fun k hk => by rw [g, if_neg hk]
 have g2 : ∀ k, ah k h1 = .none → ah k hr = ah k h2 := fun k hk => by rw [g, if_pos hk]
 refine ⟨hr, g1, fun k hk => ?_, fun k hk => ?_, fun k hk => ?_⟩
 ·by_cases e : ah k h1 = .none
  ·exact g2 k e
  ·rw [g1 k e, ← O1 k e, O2 k hk]
 ·by_cases e : ah k h1 = .none
  ·rw [g2 k e] at hk ⊢; exact O2 k hk
  ·rw [g1 k e]; exact O1 k e
 ·by_cases e : ah k h1 = .none
  ·rw [g2 k e] at hk; exact .inr hk
  ·exact .inl e
theorem Pb {cs : List (Bs × Int)} (r : aN hb x cs) (O : Old hb h) (hc : 8 < cs.length) : ∃ v, iA 2 (.c x) .none (.some (.c (pi 8))) .none .nil h = .ok v h ∧ aN hb v (cs.take 8) ∧ v.one = true := by
 obtain ⟨q, o, e, g⟩ := r
 have g' : ∀ i (hi : i < (cs.take 8).length), ∃ l, l.length = 2 ∧ Cs hb q (o + i * 2) l ∧ l = [cD (cs.take 8)[i].1, i64 (cs.take 8)[i].2] := fun i hi => by
  obtain ⟨l, a, b, c⟩ := g i (by simp at hi; omega)
  exact ⟨l, a, b, by rw [List.getElem_take]; exact c⟩
 have hl : (cs.take 8).length = 8 := by rw [List.length_take]; omega
 rcases e with ⟨cap, h1, rfl⟩ | rfl | ⟨rfl, rfl⟩
 ·refine ⟨.slice q o 8 cap, ?_, ⟨q, o, .inl ⟨cap, by omega, by rw [hl]⟩, g'⟩, rfl⟩
  obtain ⟨cap, rfl⟩ : ∃ c, cap = c + 1 := ⟨cap - 1, by omega⟩
  show (@Bool.rec (fun _ => RV) (.err 42) (@Bool.rec (fun _ => RV) (.err 42) (.ok (.slice q o 8 (cap + 1)) h) (Nat.ble (cap + 1) (cap + 1))) (Nat.ble 8 (cap + 1))) = _
  rw [Nat.ble_eq_true_of_le (show 8 ≤ cap + 1 by omega), Nat.ble_eq_true_of_le (Nat.le_refl _)]
 ·refine ⟨.fN q o 8 2, ?_, ⟨q, o, .inr (.inl (by rw [hl])), g'⟩, rfl⟩
  obtain ⟨l, l1, l2, _⟩ := g 7 (by omega)
  obtain ⟨el, n, ex, fl, c, e1, e2, e3⟩ := l2.old O
  show (Obj.aQ (ah q h) (fun _ k _ _ _ => @Bool.rec (fun _ => RV) (.err 45) (.ok (.fN q o 8 2) h) (Nat.ble (o + 16) k)) (.err 46) : RV) = _
  rw [e1]
  show (@Bool.rec (fun _ => RV) (.err 45) (.ok (.fN q o 8 2) h) (Nat.ble (o + 16) n)) = _
  rw [Nat.ble_eq_true_of_le (by omega)]
 ·simp at hc
theorem Ih (W : Wf h) (O0 : Old hb h) {e : vx} (r1 : aN hb x e.bL) :
  ∃ j jr x8 ha hc hs, (∀ cc i' (K : A2 → Hp → RS), CE cc i' K (bG [.agg (dY x y e)] 0 .nil) h = K (T20 (.ptr j 0) (.ptr jr 0)) ha) ∧ (∀ cc i' (K : A2 → Hp → RS), CD cc i' K (T20 (.ptr j 0) (.ptr jr 0)) ha = K (T20 (.ptr j 0) (.ptr jr 0)) hc) ∧
   (∀ cc i' (K : A2 → Hp → RS), CC cc i' K (T20 (.ptr j 0) (.ptr jr 0)) hc = K (T21 (.ptr j 0) (.ptr jr 0) .ak) hs) ∧ ah j h = .none ∧ ah jr h = .none ∧ j ≠ jr ∧ Old h hs ∧ Wf hs ∧
   Ob hs j 26 true .plain [i64 e.aB, i64 e.seq, i64 e.kind, cD (e.name.take 20), cD (e.text.take 700), x8, y] ∧ (∃ z, Ob hs jr 26 true .plain z ∧ z.length = 7) ∧ aN hb x8 (e.bL.take 8) := by
 obtain ⟨j, h1, f1, f2, f3, f4, f5, f6⟩ := qt (el := 26) (l := dY x y e) W (by simp [dY])
 obtain ⟨jr, h2, g1, g2, g3, g4, g5, g6⟩ := qu (el := 26) (n := 7) f5 (c := .k1 (Y7 i0 i0 i0 iS iS .ak .ak)) trivial (by decide)
 have hj1 : ah j h1 ≠ .none := f3.ne
 have hne : j ≠ jr := fun e => hj1 (e ▸ g2)
 have hjr : ah jr h = .none := f4.none g2
 have o0 := f3.old g4
 have O2 := f4.trans g4
 have keep : ∀ {ha hb' : Hp}, Old h ha → (∀ k, k ≠ j → ah k hb' = ah k ha) → Old h hb' := fun O g k hk => by
  rw [g k (fun e => by rw [e] at hk; exact hk f2), O k hk]
 -- the name
 have s0 : ∃ ha, (∀ cc i' (K : A2 → Hp → RS), CE cc i' K (bG [.agg (dY x y e)] 0 .nil) h = K (T20 (.ptr j 0) (.ptr jr 0)) ha) ∧ Ob ha j 26 true .plain [i64 e.aB, i64 e.seq, i64 e.kind, cD (e.name.take 20), cD e.text, x, y] ∧ (∀ k, k ≠ j → ah k ha = ah k h2) ∧ Wf ha := by
  have gt : eN (i64 e.name.length) (pi 20) h2 = .ok (.bool (decide ((20 : Int) < e.name.length))) h2 := fp _ _ _
  by_cases hl : 20 < e.name.length
  ·obtain ⟨ha, a1, a2, a3, a4⟩ := jL (k := 3) (v := cD (e.name.take 20)) o0 (by simp [dY]) rfl
   refine ⟨ha, fun cc i' K => ?_, a2, a3, g5.of a4 fun k hk => by rw [a3 k (fun e => by rw [e] at hk; exact o0.ne hk)]; exact hk⟩
   simp only [CE, K1, dK]
   (rw [mP f1, qv g1, az, aE (av (Ob.c0 o0) 3 rfl), cZ, aV, aR gt, bJ, if_pos (by omega), az, aE (av (Ob.c0 o0) 3 rfl), aR (zQ _ _ (by omega)), az, Nat.zero_add, iH a1]; try rfl)
  ·refine ⟨h2, fun cc i' K => ?_, by rw [List.take_of_length_le (by omega)]; exact o0, fun _ _ => rfl, g5⟩
   simp only [CE, K1, dK]
   (rw [mP f1, qv g1, az, aE (av (Ob.c0 o0) 3 rfl), cZ, aV, aR gt, bJ, if_neg (by omega)]; try rfl)
 obtain ⟨ha, s0, o1, e1, W1⟩ := s0
 have s1 : ∃ hc, (∀ cc i' (K : A2 → Hp → RS), CD cc i' K (T20 (.ptr j 0) (.ptr jr 0)) ha = K (T20 (.ptr j 0) (.ptr jr 0)) hc) ∧ Ob hc j 26 true .plain [i64 e.aB, i64 e.seq, i64 e.kind, cD (e.name.take 20), cD (e.text.take 700), x, y] ∧ (∀ k, k ≠ j → ah k hc = ah k h2) ∧ Wf hc := by
  have gt : eN (i64 e.text.length) (pi 700) ha = .ok (.bool (decide ((700 : Int) < e.text.length))) ha := fp _ _ _
  by_cases hl : 700 < e.text.length
  ·obtain ⟨hc, a1, a2, a3, a4⟩ := jL (k := 4) (v := cD (e.text.take 700)) o1 (by simp) rfl
   refine ⟨hc, fun cc i' K => ?_, a2, fun k hk => by rw [a3 k hk, e1 k hk], W1.of a4 fun k hk => by rw [a3 k (fun e => by rw [e] at hk; exact o1.ne hk)]; exact hk⟩
   simp only [CD, K2, t20_1, t20_2]
   (rw [az, aE (av (Ob.c0 o1) 4 rfl), cZ, aV, aR gt, bJ, if_pos (by omega), az, aE (av (Ob.c0 o1) 4 rfl), aR (zQ _ _ (by omega)), az, Nat.zero_add, iH a1]; try rfl)
  ·refine ⟨ha, fun cc i' K => ?_, by rw [List.take_of_length_le (l := e.text) (by omega)]; exact o1, e1, W1⟩
   simp only [CD, K2, t20_1, t20_2]
   (rw [az, aE (av (Ob.c0 o1) 4 rfl), cZ, aV, aR gt, bJ, if_neg (by omega)]; try rfl)
 obtain ⟨hc, s1, o2, e2, W2⟩ := s1
 have Oc : Old h hc := keep O2 e2
 have s2 : ∃ x8 hs, (∀ cc i' (K : A2 → Hp → RS), CC cc i' K (T20 (.ptr j 0) (.ptr jr 0)) hc = K (T21 (.ptr j 0) (.ptr jr 0) .ak) hs) ∧ Ob hs j 26 true .plain [i64 e.aB, i64 e.seq, i64 e.kind, cD (e.name.take 20), cD (e.text.take 700), x8, y] ∧ (∀ k, k ≠ j → ah k hs = ah k h2) ∧ Wf hs ∧ aN hb x8 (e.bL.take 8) := by
  have gt : eN (i64 e.bL.length) (pi 8) hc = .ok (.bool (decide ((8 : Int) < e.bL.length))) hc := fp _ _ _
  have hlen := dD.len (aN.up r1 (O0.trans Oc))
  by_cases hl : 8 < e.bL.length
  ·obtain ⟨x8, c1, c2, c3⟩ := Pb r1 (O0.trans Oc) hl
   obtain ⟨hs, a1, a2, a3, a4⟩ := jL (k := 5) (v := x8) o2 (by simp) c3
   refine ⟨x8, hs, fun cc i' K => ?_, a2, fun k hk => by rw [a3 k hk, e2 k hk], W2.of a4 fun k hk => by rw [a3 k (fun e => by rw [e] at hk; exact o2.ne hk)]; exact hk, c2⟩
   simp only [CC, K2, t20_1, t20_2]
   (rw [az, aE (av (Ob.c0 o2) 5 rfl), bP hlen, aR gt, bJ, if_pos (by omega), az, aE (av (Ob.c0 o2) 5 rfl), aR c1, az, Nat.zero_add, iH a1]; try rfl)
  ·refine ⟨x, hc, fun cc i' K => ?_, o2, e2, W2, by rw [List.take_of_length_le (by omega)]; exact r1⟩
   simp only [CC, K2, t20_1, t20_2]
   (rw [az, aE (av (Ob.c0 o2) 5 rfl), bP hlen, aR gt, bJ, if_neg (by omega)]; try rfl)
 obtain ⟨x8, hs, s2, o3, e3, W3, r3⟩ := s2
 exact ⟨j, jr, x8, ha, hc, hs, s0, s1, s2, f2, hjr, hne, keep O2 e3, W3, o3, ⟨_, g3.eq (e3 jr (Ne.symm hne)), bM _ _ _⟩, r3⟩
end
open Go.Cod
noncomputable section
variable {p : Pg} {h hb h' h2 h0 : Hp} {q j jr : P4} {x y v a b d e f g : AV} {o : Nat}
def wC (c : Bs × Int) : Bs × Int := (c.1, gh c.2)
def sB (_ : Hp) (l : List AV) (c : Bs × Int) : Prop := l = [cD c.1, i64 c.2]
theorem sB.mono : ∀ (h1 h2 : Hp) (l : List AV) (a : Bs × Int), Old h1 h2 → sB h1 l a → sB h2 l a := fun _ _ _ _ _ e => e
theorem yo {α : Type} {P : α → Bool} {l : List α} {i : Nat} (hi : i < l.length) (ha : (l.take i).all P = true) (hn : P l[i] = false) : l.takeWhile P = l.take i := by
 conv => lhs; rw [← List.take_append_drop i l]
 rw [List.takeWhile_append_of_pos (by simpa [List.all_eq_true] using ha), List.drop_eq_getElem_cons hi, List.takeWhile_cons, hn]
 simp
theorem Bl {α : Type} {P : α → Bool} {l : List α} (ha : l.all P = true) : l.takeWhile P = l := by
 have := List.takeWhile_append_of_pos (p := P) (l₁ := l) (l₂ := []) (by simpa [List.all_eq_true] using ha)
 simpa using this
theorem wD {cs : List (Bs × Int)} {i : Nat} {dv : AV} {L : List AV} (c : Cs h j 0 L) (hL : L[5]? = some x) (r : aN hb x cs) (O : Old hb h) :
  ∃ r', Os p (opsL (dp 6 (bh (bh (bh x9))))) (T22 (.ptr j 0) (.ptr jr 0) dv (i64 i)) h (.nm r' h) ∧ y1 r' = .ptr j 0 ∧ y2 r' = .ptr jr 0 ∧ y3 r' = dv ∧ y4 r' = i64 i ∧ y44 r' = .bool (match cs[i]? with | none => false | some c => decide (c.1.length ≤ 20)) := by
 have hlen := dD.len (aN.up r O)
 have l1 : bK .lt (i64 i) (i64 cs.length) h = .ok (.bool (decide ((i : Int) < cs.length))) h := tc _ _ _
 by_cases hi : i < cs.length
 ·rw [decide_eq_true (by omega)] at l1
  obtain ⟨q, o, sl, g⟩ := dD.sl (aN.up r O)
  obtain ⟨l, k1, k2, rfl⟩ := g i hi
  have l2 : bK .le (i64 cs[i].1.length) (pi 20) h = .ok (.bool (decide (cs[i].1.length ≤ 20))) h := by
   show AH (.int .i64 cs[i].1.length) (.int .i64 (.ofNat 20)) h = _
   rw [DR]
   congr 2
   rw [decide_eq_decide]
   show _ ≤ (20 : Int) ↔ _
   omega
  refine ⟨_, .step (v := i64 i) (h' := h) rfl <| .step (v := .ptr j 5) (h' := h) rfl <| .step (v := x) (h' := h) (av c 5 hL) <| .step (v := i64 cs.length) (h' := h) hlen <| .step (v := .bool true) (h' := h) l1 <| .step (v := .bool true) (h' := h) rfl <|
   .on rfl <| .step (v := .ptr j 5) (h' := h) rfl <| .on rfl <| .step (v := x) (h' := h) (av c 5 hL) <| .on rfl <| .step (v := i64 i) (h' := h) rfl <| .on rfl <| .step (v := .ptr q (o + i * 2)) (h' := h) (dc sl hi) <|
   .on rfl <| .step (v := .ptr q (o + i * 2)) (h' := h) rfl <| .on rfl <| .step (v := cD cs[i].1) (h' := h) (bz k2 rfl) <| .on rfl <| .step (v := i64 cs[i].1.length) (h' := h) (cZ _) <| .on rfl <| .step (v := .bool (decide (cs[i].1.length ≤ 20))) (h' := h) l2 <|
   .step (v := .bool (decide (cs[i].1.length ≤ 20))) (h' := h) rfl <| .nil, rfl, rfl, rfl, rfl, ?_⟩
  rw [List.getElem?_eq_getElem hi]; rfl
 ·rw [decide_eq_false (by omega)] at l1
  refine ⟨_, .step (v := i64 i) (h' := h) rfl <| .step (v := .ptr j 5) (h' := h) rfl <| .step (v := x) (h' := h) (av c 5 hL) <| .step (v := i64 cs.length) (h' := h) hlen <| .step (v := .bool false) (h' := h) l1 <| .step (v := .bool false) (h' := h) rfl <|
   .off rfl <| .off rfl <| .off rfl <| .off rfl <| .off rfl <| .off rfl <| .off rfl <| .off rfl <| .step (v := .bool false) (h' := h) rfl <| .nil, rfl, rfl, rfl, rfl, ?_⟩
  rw [List.getElem?_eq_none (by omega)]; rfl
theorem Ii (e24 : aw 24 p.fs = f24) {cs ys : List (Bs × Int)} {i : Nat} {dv : AV} {L : List AV} (w : Lb h0 hb h dv 41 2 sB ys) (O : Old hb h) (c : Cs h j 0 L) (hL : L[5]? = some x) (r : aN hb x cs) (hi : i < cs.length) (hy : ys.length ≤ 1000) (hi2 : i < 100) :
  ∃ v' h', Rn p (bh (dp 4 (bh (bh (bh x9))))) (T22 (.ptr j 0) (.ptr jr 0) dv (i64 i)) h (.nm (T22 (.ptr j 0) (.ptr jr 0) v' (i64 (i + 1 : Nat))) h') ∧ Lb h0 hb h' v' 41 2 sB (ys ++ [wC cs[i]]) ∧ ∀ k, ah k h ≠ .none → ah k h0 ≠ .none → ah k h' = ah k h := by
 obtain ⟨q', o', sl, g⟩ := dD.sl r
 obtain ⟨l, l1, l2, rfl⟩ := g i hi
 obtain ⟨m, h1, c1, c2, c3, c4, c5, _⟩ := qJ (el := 41) w.wf sl hi (l2.old O) l1 (c0 := .k1 (Y2 iS i0)) trivial (by decide)
 have nr := uI (p := p) (h := h1) e24 cs[i].2
 obtain ⟨h2, a1, a2, a3, a4⟩ := jL (k := 1) (v := i64 (gh cs[i].2)) c3 (by simp) rfl
 have a2 : Ob h2 m 41 true .plain [cD cs[i].1, i64 (gh cs[i].2)] := a2
 have W2 : Wf h2 := c5.of a4 fun k hk => by rw [a3 k (fun e => by rw [e] at hk; exact c3.ne hk)]; exact hk
 have O2 : Old h h2 := fun k hk => by rw [a3 k (fun e => by rw [e] at hk; exact hk c2), c4 k hk]
 obtain ⟨t, h3, u1, u2, u3, u4, u5, u6⟩ := iD (el := 41) (es := 2) (n := 1) (z := [iS, i0]) (ps := [.mk 0 2 (.c (.agg [cD cs[i].1, i64 (gh cs[i].2)]))]) (l := [cD cs[i].1, i64 (gh cs[i].2)]) W2 rfl rfl (by simp)
 obtain ⟨v', h4, z1, z2, _⟩ := w.app (a := wC cs[i]) (l := [cD cs[i].1, i64 (gh cs[i].2)]) sB.mono (by omega) (O2.trans u4) u5 rfl (fun _ _ _ => rfl) (by omega)
 have V : dW 41 2 dv (.slice t 0 1 1) h3 = .ok v' h4 := by
  rw [gU (m := 1) (q := t) (o := 0) (l := [cD cs[i].1, i64 (gh cs[i].2)]) (.inl ⟨_, rfl⟩) (by omega) (fun _ => Ob.c0 u3) rfl (by omega)]
  exact z1
 have M := dC (m := 2) (Ob.c0 a2) rfl
 refine ⟨v', h4, .ag (nr.mono fun n g => ?_), z2, fun k hk hk0 => by rw [z2.old k hk0, w.old k hk0]⟩
 simp only [k9_5, K4, t22_1, t22_2, t22_3, t22_4]
 (rw [az, aE (av c 5 hL), c1, az, aE (av (Ob.c0 c3) 1 rfl), bm g, az, Nat.zero_add, iH a1, fM M, aR u1, aR V, dB (n := 100) hi2 (by omega)]; try rfl)
theorem Eo (e24 : aw 24 p.fs = f24) {cs : List (Bs × Int)} {L : List AV} (W : Wf h) (O : Old hb h) (c : Cs h j 0 L) (hL : L[5]? = some x) (r : aN hb x cs) (hn : cs.length ≤ 8) :
  ∃ dv h' i, Rn p (dp 3 (bh (bh (bh x9)))) (T22 (.ptr j 0) (.ptr jr 0) .ak i0) h (.ex 0 (T22 (.ptr j 0) (.ptr jr 0) dv (i64 i)) h') ∧ Lb h hb h' dv 41 2 sB ((cs.takeWhile fun c => decide (c.1.length ≤ 20)).map wC) := by
 have key : ∃ s, (∃ dv h', ∃ i : Int, s = .ex 0 (T22 (.ptr j 0) (.ptr jr 0) dv (i64 i)) h' ∧ Lb h hb h' dv 41 2 sB ((cs.takeWhile fun c => decide (c.1.length ≤ 20)).map wC)) ∧ Rn p (.loop (dp 4 (bh (bh (bh x9))))) (T22 (.ptr j 0) (.ptr jr 0) .ak i0) h s := by
  refine dt cs.length (Inv := fun i r h' => ∃ dv, r = T22 (.ptr j 0) (.ptr jr 0) dv (i64 i) ∧ Lb h hb h' dv 41 2 sB ((cs.take i).map wC) ∧ (cs.take i).all (fun c => decide (c.1.length ≤ 20)) = true) (fun i r' h' hi I => ?_) (fun r' h' I => ?_) cs.length 0 _ h (by omega) ⟨.ak, rfl, by simpa using Lb.nil W O (.inl rfl), by simp⟩
  ·obtain ⟨dv, rfl, w, ha⟩ := I
   have c' := c.old w.old
   obtain ⟨r3, o1, o2, o3, o4, o5, o6⟩ := wD (p := p) (jr := jr) (i := i) (dv := dv) c' hL r (O.trans w.old)
   rw [List.getElem?_eq_getElem hi] at o6
   cases hs : decide (cs[i].1.length ≤ 20) with
   | true =>
    obtain ⟨v', h5, k1, k2, _⟩ := Ii (p := p) (jr := jr) e24 w (O.trans w.old) c' hL r hi (by simp; omega) (by omega)
    refine .inl ⟨_, h5, .seq (.seq (.ops o1) (.bI (s := .nm (T22 (.ptr j 0) (.ptr jr 0) dv (i64 i)) h') fun cc i' K => ?_)) k1, v', rfl, ?_, by rw [eh hi, ha]; simpa using hs⟩
    ·simp only [k9_4, K5, o2, o3, o4, o5, o6]
     rw [hs]; rfl
    ·rw [List.take_succ_eq_append_getElem hi, List.map_append]; exact k2
   | false =>
    refine .inr ⟨_, ⟨dv, h', i, rfl, by rw [yo hi ha hs]; exact w⟩, .de (.yn (.seq (.ops o1) (.bI fun cc i' K => ?_)))⟩
    simp only [k9_4, K5, o2, o3, o4, o5, o6]
    rw [hs]; rfl
  ·obtain ⟨dv, rfl, w, ha⟩ := I
   obtain ⟨r3, o1, o2, o3, o4, o5, o6⟩ := wD (p := p) (jr := jr) (i := cs.length) (dv := dv) (c.old w.old) hL r (O.trans w.old)
   rw [List.getElem?_eq_none (by omega)] at o6
   rw [List.take_length] at ha w
   refine ⟨_, ⟨dv, h', (cs.length : Int), rfl, by rw [Bl ha]; exact w⟩, .de (.yn (.seq (.ops o1) (.bI fun cc i' K => ?_)))⟩
   simp only [k9_4, K5, o2, o3, o4, o5, o6]
   rfl
 obtain ⟨s, ⟨dv, h', i, rfl, w⟩, k⟩ := key
 exact ⟨dv, h', i, k, w⟩
end
open Go.Cod
noncomputable section
variable {p : Pg} {h hb h' h2 h0 : Hp} {q j jr : P4} {x y v a b d e f g : AV} {o : Nat}
theorem Lb.one {α : Type} {f : Hp → List AV → α → Prop} {xs : List α} {el es : Nat} (w : Lb h hb h' v el es f xs) : v.one = true := by
 obtain ⟨_, _, _, _, _, _, _, ow, _⟩ := w
 exact uH ow
theorem Bm (e9 : aw 9 p.fs = f9) (e24 : aw 24 p.fs = f24) (e25 : aw 25 p.fs = f25) (W : Wf h) (O0 : Old hb h) {e : vx} (r1 : aN hb x e.bL) (r2 : bw hb y e.changes) (hr : ∀ c, c ∈ e.changes → c.row.length ≤ 1048576) :
  ∃ x' y' h' hr, Cv p 9 [.agg (dY x y e)] h (.agg (dY x' y' (aG e))) h' ∧ Old h h' ∧ Wf h' ∧ Old hb hr ∧ Old hr h' ∧ (∀ k, ah k hr ≠ .none → ah k hb ≠ .none ∨ ah k h = .none) ∧ aN hr x' (aG e).bL ∧ bw hr y' (aG e).changes := by
 obtain ⟨j, jr, x8, ha, hc, hs, s0, s1, s2, nj, njr, hne, Os, Ws, oj, ⟨z, ojr, hz⟩, r8⟩ := Ih (y := y) W O0 r1
 obtain ⟨dv, h1, i, k1, w1⟩ := Eo (p := p) (jr := jr) (x := x8) e24 Ws (O0.trans Os) (Ob.c0 oj) rfl r8 (by rw [List.length_take]; omega)
 have bj : ah j hb = .none := O0.none nj
 have bjr : ah jr hb = .none := O0.none njr
 have oj1 := oj.old w1.old
 have ojr1 := ojr.old w1.old
 obtain ⟨hA, a1, a2, a3, a4⟩ := jL (k := 5) (v := dv) oj1 (by simp) (Lb.one w1)
 have a2 : Ob hA j 26 true .plain [i64 e.aB, i64 e.seq, i64 e.kind, cD (e.name.take 20), cD (e.text.take 700), dv, y] := a2
 have WA : Wf hA := w1.wf.of a4 fun k hk => by rw [a3 k (fun e => by rw [e] at hk; exact oj1.ne hk)]; exact hk
 have OA : Old h hA := fun k hk => by
  have e := (Os.trans w1.old) k hk
  rw [a3 k (fun e => by rw [e] at hk; exact hk nj), e]
 obtain ⟨v2, hB, c1, w2⟩ := Lj (p := p) e24 e25 WA (O0.trans OA) r2 hr
 have ojB := a2.old w2.old
 have ojrA : Ob hA jr 26 true .plain z := ojr1.eq (a3 jr (Ne.symm hne))
 have ojrB := ojrA.old w2.old
 obtain ⟨hC, b1, b2, b3, b4⟩ := jL (k := 6) (v := v2) ojB (by simp) (Lb.one w2)
 have b2 : Ob hC j 26 true .plain [i64 e.aB, i64 e.seq, i64 e.kind, cD (e.name.take 20), cD (e.text.take 700), dv, v2] := b2
 have WC : Wf hC := w2.wf.of b4 fun k hk => by rw [b3 k (fun e => by rw [e] at hk; exact ojB.ne hk)]; exact hk
 have ojrC : Ob hC jr 26 true .plain z := ojrB.eq (b3 jr (Ne.symm hne))
 obtain ⟨hD, d1, d2, d3, d4⟩ := nZ (k := 0) (m := 7) (l' := [i64 e.aB, i64 e.seq, i64 e.kind, cD (e.name.take 20), cD (e.text.take 700), dv, v2]) ojrC rfl (by omega)
 have WD : Wf hD := WC.of d4 fun k hk => by rw [d3 k (fun e => by rw [e] at hk; exact ojrC.ne hk)]; exact hk
 have d2 : Ob hD jr 26 true .plain (dY dv v2 (aG e)) := by
  have : z.take 0 ++ (dY dv v2 (aG e) ++ z.drop (0 + 7)) = dY dv v2 (aG e) := by
   rw [List.drop_of_length_le (by omega)]; simp
  rw [← this]; exact d2
 obtain ⟨hr1, p1, p2, p3, p4⟩ := Lb.rd w1 sB.mono (by omega)
 obtain ⟨hr2, q1, q2, q3, q4⟩ := Lb.rd w2 fP.mono (by omega)
 have hsj : ah j hs ≠ .none := oj.ne
 have hsr : ah jr hs ≠ .none := ojr.ne
 have P : Old hr1 hD := fun k hk => by
  have n1 : k ≠ j := fun e => by
   rw [e] at hk
   rcases p3 j hk with g | g
   ·exact g bj
   ·exact hsj g
  have n2 : k ≠ jr := fun e => by
   rw [e] at hk
   rcases p3 jr hk with g | g
   ·exact g bjr
   ·exact hsr g
  have e1 := p2 k hk
  have e2 : ah k hA = ah k hr1 := by rw [a3 k n1, e1]
  rw [d3 k n2, b3 k n1, w2.old k (by rw [e2]; exact hk), e2]
 have Q : Old hr2 hD := fun k hk => by
  have n1 : k ≠ j := fun e => by
   rw [e] at hk
   rcases q3 j hk with g | g
   ·exact g bj
   ·exact a2.ne g
  have n2 : k ≠ jr := fun e => by
   rw [e] at hk
   rcases q3 jr hk with g | g
   ·exact g bjr
   ·exact ojrA.ne g
  rw [d3 k n2, b3 k n1, q2 k hk]
 obtain ⟨hr, m1, m2, m3, m4⟩ := merge P Q
 have OD : Old h hD := fun k hk => by
  have e := (OA.trans w2.old) k hk
  rw [d3 k (fun e => by rw [e] at hk; exact hk njr), b3 k (fun e => by rw [e] at hk; exact hk nj), e]
 have s4 : Rn p (.ag k9_6 .skip) (T22 (.ptr j 0) (.ptr jr 0) dv (i64 i)) h1 (.ret (T5 (.ptr jr 0)) hD) := .ag (c1.mono fun m g => by
  have g : ar p (exec p m) 25 [y, pi 9] hA = .ok v2 hB := g
  simp only [k9_6, K3, t22_1, t22_2, t22_3]
  (rw [az, Nat.zero_add, iH a1, az, aE (av (Ob.c0 a2) 6 rfl), bm g, az, Nat.zero_add, iH b1, fM (dC (m := 7) (Ob.c0 b2) rfl), qw d1]; try rfl))
 have s3 : ∀ cc i' (K : A2 → Hp → RS), k9_3 cc i' K (T21 (.ptr j 0) (.ptr jr 0) .ak) hs = K (T22 (.ptr j 0) (.ptr jr 0) .ak i0) hs := fun cc i' K => by
  simp only [k9_3, K3, t21_1, t21_2, t21_3]
 have rt : qQ [.agg 7 .h0 .h2] (T5 (.ptr jr 0)) hD = .ok (.agg (dY dv v2 (aG e))) hD := by
  show (RV.rec (fun v _ => .ok v hD) (fun n => .err n) (Seat.xV 7 (.ptr jr 0) hD) : RV) = _
  rw [dC (m := 7) (Ob.c0 d2) (by simp [dY])]
 refine ⟨dv, v2, hD, hr, .of (r' := T5 (.ptr jr 0)) (h1 := hD) e9 (by simp) (.dQ s0 (.dQ s1 (.dQ s2 (.seq (.dQ s3 (.bA k1)) s4)))) rt, OD, WD, p1.trans m1, m3, fun k hk => ?_, ?_, ?_⟩
 ·rcases m4 k hk with g | g
  ·rcases p3 k g with g | g
   ·exact .inl g
   ·exact .inr (Os.none g)
  ·rcases q3 k g with g | g
   ·exact .inl g
   ·exact .inr (OA.none g)
 ·exact dD.up p4 m1 fun _ _ _ e => e
 ·exact dD.up q4 m2 fun _ _ _ e => fP.up e m2
end
open Go.Cod
noncomputable section
variable {p : Pg} {h hb h' h2 h0 : Hp} {q j jr : P4} {x y v a b d e f g : AV} {o : Nat}
structure MV (p : Pg) : Prop where
 e4 : aw 4 p.fs = f4
 e9 : aw 9 p.fs = f9
 e24 : aw 24 p.fs = f24
 e25 : aw 25 p.fs = f25
theorem AR (T : MV p) (W : Wf h) (O0 : Old hb h) {l : List AV} {s : lK} (r : en hb l s) (hr : ∀ c, c ∈ s.entry.changes → c.row.length ≤ 1048576) :
  ∃ x' y' h' hr, Cv p 4 [.agg l] h (.agg (gu x' y' (aL s))) h' ∧ Old h h' ∧ Wf h' ∧ Old hb hr ∧ Old hr h' ∧ (∀ k, ah k hr ≠ .none → ah k hb ≠ .none ∨ ah k h = .none) ∧ aN hr x' (aL s).entry.bL ∧ bw hr y' (aL s).entry.changes := by
 obtain ⟨x, y, rfl, r1, r2⟩ := r
 obtain ⟨j, h1, f1, f2, f3, f4', f5, f6⟩ := qt (el := 28) (l := gu x y s) W (by simp [gu, dY])
 obtain ⟨jr, h2, g1, g2, g3, g4, g5, g6⟩ := qu (el := 28) (n := 12) f5 (c := .k1 (Y12 i0 i0 i0 i0 iS i0 i0 i0 iS iS .ak .ak)) trivial (by decide)
 have hne : j ≠ jr := fun e => f3.ne (e ▸ g2)
 have njr : ah jr h = .none := f4'.none g2
 have oj2 := f3.old g4
 have O2 := f4'.trans g4
 obtain ⟨x', y', h3, hr, c1, c2, c3, c4, c5, c6, c7, c8⟩ := Bm (p := p) (y := y) T.e9 T.e24 T.e25 g5 (O0.trans O2) r1 r2 hr
 have oj3 := oj2.old c2
 have ojr3 := g3.old c2
 obtain ⟨h4, d1, d2, d3, d4⟩ := nZ (k := 5) (m := 7) (l' := dY x' y' (aG s.entry)) oj3 (by simp [dY]) (by simp [gu, dY])
 have d2 : Ob h4 j 28 true .plain (gu x' y' (aL s)) := d2
 have W4 : Wf h4 := c3.of d4 fun k hk => by rw [d3 k (fun e => by rw [e] at hk; exact oj3.ne hk)]; exact hk
 have ojr4 := ojr3.eq (d3 jr (Ne.symm hne))
 obtain ⟨h5, e1, e2, e3, e4⟩ := nZ (k := 0) (m := 12) (l' := gu x' y' (aL s)) ojr4 (by simp [gu, dY]) (by rw [bM]; omega)
 have W5 : Wf h5 := W4.of e4 fun k hk => by rw [e3 k (fun e => by rw [e] at hk; exact ojr4.ne hk)]; exact hk
 have e2 : Ob h5 jr 28 true .plain (gu x' y' (aL s)) := by
  have : (bn 12 (.k1 (Y12 i0 i0 i0 i0 iS i0 i0 i0 iS iS .ak .ak)) 0).take 0 ++ (gu x' y' (aL s) ++ (bn 12 (.k1 (Y12 i0 i0 i0 i0 iS i0 i0 i0 iS iS .ak .ak)) 0).drop (0 + 12)) = gu x' y' (aL s) := by
   rw [List.drop_of_length_le (by rw [bM]; omega)]; simp
  rw [← this]; exact e2
 have M1 := dC (m := 7) (Hy (Ob.c0 oj2)) (by simp [dY])
 have M2 := dC (m := 12) (Ob.c0 d2) (by simp [gu, dY])
 have rt : qQ [.agg 12 .h0 .h2] (T5 (.ptr jr 0)) h5 = .ok (.agg (gu x' y' (aL s))) h5 := by
  show (RV.rec (fun v _ => .ok v h5) (fun n => .err n) (Seat.xV 12 (.ptr jr 0) h5) : RV) = _
  rw [dC (m := 12) (Ob.c0 e2) (by simp [gu, dY])]
 have nj : ah j h = .none := f2
 have bj : ah j hb = .none := O0.none nj
 have bjr : ah jr hb = .none := O0.none njr
 have ne1 : ∀ k, ah k hr ≠ .none → k ≠ j ∧ k ≠ jr := fun k hk => ⟨fun e => by
   rw [e] at hk
   rcases c6 j hk with g | g
   ·exact g bj
   ·exact oj2.ne g, fun e => by
   rw [e] at hk
   rcases c6 jr hk with g | g
   ·exact g bjr
   ·exact g3.ne g⟩
 refine ⟨x', y', h5, hr, .of (r' := T5 (.ptr jr 0)) (h1 := h5) T.e4 (by simp) (.ag (c1.mono fun m g => ?_)) rt, fun k hk => ?_, W5, c4, fun k hk => ?_, fun k hk => ?_, c7, c8⟩
 ·simp only [k4_0, K1, dK]
  (rw [mP f1, qv g1, az, Nat.zero_add, fM M1, bm g, az, Nat.zero_add, qw d1, fM M2, qw e1]; try rfl)
 ·have e := (O2.trans c2) k hk
  rw [e3 k (fun e => by rw [e] at hk; exact hk njr), d3 k (fun e => by rw [e] at hk; exact hk nj), e]
 ·rw [e3 k (ne1 k hk).2, d3 k (ne1 k hk).1, c5 k hk]
 ·rcases c6 k hk with g | g
  ·exact .inl g
  ·exact .inr (O2.none g)
end
open Go.Cod
noncomputable section
variable {p : Pg} {h hb h' h2 h0 : Hp} {q j je : P4} {x y v a b d e f g : AV} {o : Nat}
def lz (s : lK) : Bool := decide (s.kind < 1) || decide (9 < s.kind) || !small s.aB || !small s.node || !small s.n || decide (255 < s.name.length) || !small s.entry.aB || !small s.entry.seq || !small s.entry.kind || decide (255 < s.entry.bL.length) || decide (255 < s.entry.changes.length)
theorem Om (m n : Nat) : bK .gt (i64 n) (pi m) h = .ok (.bool (decide (m < n))) h := by
 show eN (.int .i64 n) (.int .i64 (.ofNat m)) h = _
 rw [fp]
 congr 2
 rw [decide_eq_decide]
 show (m : Int) < _ ↔ _
 omega
set_option maxRecDepth 20000 in
set_option maxHeartbeats 1000000 in
theorem AP (e10 : aw 10 p.fs = f10) {xs ys : AV} {s : lK} (c : Cs h j 0 (gu xs ys s)) (ce : Cs h je 0 (dY x y s.entry)) (r1 : aN h x s.entry.bL) (r2 : bw h y s.entry.changes) :
  ∃ r', Os p (opsL (fst (fst (bh x5)))) (T6 (.ptr j 0) (.ptr je 0)) h (.nm r' h) ∧ y3 r' = .ptr je 0 ∧ y70 r' = .bool (lz s) := by
 have lt1 : bK .lt (i64 s.kind) (pi 1) h = .ok (.bool (decide (s.kind < 1))) h := tc _ _ _
 have gt9 : bK .gt (i64 s.kind) (pi 9) h = .ok (.bool (decide (9 < s.kind))) h := fp _ _ _
 have n1 := fL (p := p) (h := h) e10 s.aB
 have n2 := fL (p := p) (h := h) e10 s.node
 have n3 := fL (p := p) (h := h) e10 s.n
 have g1 := Om (h := h) 255 s.name.length
 have n4 := fL (p := p) (h := h) e10 s.entry.aB
 have n5 := fL (p := p) (h := h) e10 s.entry.seq
 have n6 := fL (p := p) (h := h) e10 s.entry.kind
 have g2 := Om (h := h) 255 s.entry.bL.length
 have g3 := Om (h := h) 255 s.entry.changes.length
 have l1 := dD.len r1
 have l2 := dD.len r2
 cases k0 : decide (s.kind < 1) with
 | true =>
  rw [k0] at lt1
  refine ⟨_, .step (v := .ptr j 0) (h' := h) rfl <| .step (v := i64 s.kind) (h' := h) (bz c rfl) <| .step (v := .bool true) (h' := h) lt1 <| .step (v := .bool true) (h' := h) rfl <| .off rfl <| .off rfl <| .off rfl <| .step (v := .bool true) (h' := h) rfl <| .step (v := .bool true) (h' := h) rfl <| .off rfl <| .off rfl <| .off rfl <| .off rfl <| .step (v := .bool true) (h' := h) rfl <| .step (v := .bool true) (h' := h) rfl <| .off rfl <| .off rfl <| .off rfl <| .off rfl <| .step (v := .bool true) (h' := h) rfl <| .step (v := .bool true) (h' := h) rfl <| .off rfl <| .off rfl <| .off rfl <| .off rfl <| .step (v := .bool true) (h' := h) rfl <| .step (v := .bool true) (h' := h) rfl <| .off rfl <| .off rfl <| .off rfl <| .off rfl <| .step (v := .bool true) (h' := h) rfl <| .step (v := .bool true) (h' := h) rfl <| .off rfl <| .off rfl <| .off rfl <| .off rfl <| .step (v := .bool true) (h' := h) rfl <| .step (v := .bool true) (h' := h) rfl <| .off rfl <| .off rfl <| .off rfl <| .off rfl <| .step (v := .bool true) (h' := h) rfl <| .step (v := .bool true) (h' := h) rfl <| .off rfl <| .off rfl <| .off rfl <| .off rfl <| .step (v := .bool true) (h' := h) rfl <| .step (v := .bool true) (h' := h) rfl <| .off rfl <| .off rfl <| .off rfl <| .off rfl <| .step (v := .bool true) (h' := h) rfl <| .step (v := .bool true) (h' := h) rfl <| .off rfl <| .off rfl <| .off rfl <| .off rfl <| .step (v := .bool true) (h' := h) rfl <| .nil, rfl, ?_⟩
  unfold lz; rw [k0]; rfl
 | false =>
  rw [k0] at lt1
  cases k1 : decide (9 < s.kind) with
  | true =>
   rw [k1] at gt9
   refine ⟨_, .step (v := .ptr j 0) (h' := h) rfl <| .step (v := i64 s.kind) (h' := h) (bz c rfl) <| .step (v := .bool false) (h' := h) lt1 <| .step (v := .bool false) (h' := h) rfl <| .on rfl <| .step (v := .ptr j 0) (h' := h) rfl <| .on rfl <| .step (v := i64 s.kind) (h' := h) (bz c rfl) <| .on rfl <| .step (v := .bool true) (h' := h) gt9 <| .step (v := .bool true) (h' := h) rfl <| .step (v := .bool true) (h' := h) rfl <| .off rfl <| .off rfl <| .off rfl <| .off rfl <| .step (v := .bool true) (h' := h) rfl <| .step (v := .bool true) (h' := h) rfl <| .off rfl <| .off rfl <| .off rfl <| .off rfl <| .step (v := .bool true) (h' := h) rfl <| .step (v := .bool true) (h' := h) rfl <| .off rfl <| .off rfl <| .off rfl <| .off rfl <| .step (v := .bool true) (h' := h) rfl <| .step (v := .bool true) (h' := h) rfl <| .off rfl <| .off rfl <| .off rfl <| .off rfl <| .step (v := .bool true) (h' := h) rfl <| .step (v := .bool true) (h' := h) rfl <| .off rfl <| .off rfl <| .off rfl <| .off rfl <| .step (v := .bool true) (h' := h) rfl <| .step (v := .bool true) (h' := h) rfl <| .off rfl <| .off rfl <| .off rfl <| .off rfl <| .step (v := .bool true) (h' := h) rfl <| .step (v := .bool true) (h' := h) rfl <| .off rfl <| .off rfl <| .off rfl <| .off rfl <| .step (v := .bool true) (h' := h) rfl <| .step (v := .bool true) (h' := h) rfl <| .off rfl <| .off rfl <| .off rfl <| .off rfl <| .step (v := .bool true) (h' := h) rfl <| .step (v := .bool true) (h' := h) rfl <| .off rfl <| .off rfl <| .off rfl <| .off rfl <| .step (v := .bool true) (h' := h) rfl <| .nil, rfl, ?_⟩
   unfold lz; rw [k0, k1]; rfl
  | false =>
   rw [k1] at gt9
   cases k2 : small s.aB with
   | false =>
    rw [k2] at n1
    refine ⟨_, .step (v := .ptr j 0) (h' := h) rfl <| .step (v := i64 s.kind) (h' := h) (bz c rfl) <| .step (v := .bool false) (h' := h) lt1 <| .step (v := .bool false) (h' := h) rfl <| .on rfl <| .step (v := .ptr j 0) (h' := h) rfl <| .on rfl <| .step (v := i64 s.kind) (h' := h) (bz c rfl) <| .on rfl <| .step (v := .bool false) (h' := h) gt9 <| .step (v := .bool false) (h' := h) rfl <| .step (v := .bool false) (h' := h) rfl <| .on rfl <| .step (v := .ptr j 1) (h' := h) rfl <| .on rfl <| .step (v := i64 s.aB) (h' := h) (av c 1 rfl) <| .on rfl <| .call (v := .bool false) (h' := h) n1 <| .on rfl <| .step (v := .bool true) (h' := h) rfl <| .step (v := .bool true) (h' := h) rfl <| .step (v := .bool true) (h' := h) rfl <| .off rfl <| .off rfl <| .off rfl <| .off rfl <| .step (v := .bool true) (h' := h) rfl <| .step (v := .bool true) (h' := h) rfl <| .off rfl <| .off rfl <| .off rfl <| .off rfl <| .step (v := .bool true) (h' := h) rfl <| .step (v := .bool true) (h' := h) rfl <| .off rfl <| .off rfl <| .off rfl <| .off rfl <| .step (v := .bool true) (h' := h) rfl <| .step (v := .bool true) (h' := h) rfl <| .off rfl <| .off rfl <| .off rfl <| .off rfl <| .step (v := .bool true) (h' := h) rfl <| .step (v := .bool true) (h' := h) rfl <| .off rfl <| .off rfl <| .off rfl <| .off rfl <| .step (v := .bool true) (h' := h) rfl <| .step (v := .bool true) (h' := h) rfl <| .off rfl <| .off rfl <| .off rfl <| .off rfl <| .step (v := .bool true) (h' := h) rfl <| .step (v := .bool true) (h' := h) rfl <| .off rfl <| .off rfl <| .off rfl <| .off rfl <| .step (v := .bool true) (h' := h) rfl <| .step (v := .bool true) (h' := h) rfl <| .off rfl <| .off rfl <| .off rfl <| .off rfl <| .step (v := .bool true) (h' := h) rfl <| .nil, rfl, ?_⟩
    unfold lz; rw [k0, k1, k2]; rfl
   | true =>
    rw [k2] at n1
    cases k3 : small s.node with
    | false =>
     rw [k3] at n2
     refine ⟨_, .step (v := .ptr j 0) (h' := h) rfl <| .step (v := i64 s.kind) (h' := h) (bz c rfl) <| .step (v := .bool false) (h' := h) lt1 <| .step (v := .bool false) (h' := h) rfl <| .on rfl <| .step (v := .ptr j 0) (h' := h) rfl <| .on rfl <| .step (v := i64 s.kind) (h' := h) (bz c rfl) <| .on rfl <| .step (v := .bool false) (h' := h) gt9 <| .step (v := .bool false) (h' := h) rfl <| .step (v := .bool false) (h' := h) rfl <| .on rfl <| .step (v := .ptr j 1) (h' := h) rfl <| .on rfl <| .step (v := i64 s.aB) (h' := h) (av c 1 rfl) <| .on rfl <| .call (v := .bool true) (h' := h) n1 <| .on rfl <| .step (v := .bool false) (h' := h) rfl <| .step (v := .bool false) (h' := h) rfl <| .step (v := .bool false) (h' := h) rfl <| .on rfl <| .step (v := .ptr j 2) (h' := h) rfl <| .on rfl <| .step (v := i64 s.node) (h' := h) (av c 2 rfl) <| .on rfl <| .call (v := .bool false) (h' := h) n2 <| .on rfl <| .step (v := .bool true) (h' := h) rfl <| .step (v := .bool true) (h' := h) rfl <| .step (v := .bool true) (h' := h) rfl <| .off rfl <| .off rfl <| .off rfl <| .off rfl <| .step (v := .bool true) (h' := h) rfl <| .step (v := .bool true) (h' := h) rfl <| .off rfl <| .off rfl <| .off rfl <| .off rfl <| .step (v := .bool true) (h' := h) rfl <| .step (v := .bool true) (h' := h) rfl <| .off rfl <| .off rfl <| .off rfl <| .off rfl <| .step (v := .bool true) (h' := h) rfl <| .step (v := .bool true) (h' := h) rfl <| .off rfl <| .off rfl <| .off rfl <| .off rfl <| .step (v := .bool true) (h' := h) rfl <| .step (v := .bool true) (h' := h) rfl <| .off rfl <| .off rfl <| .off rfl <| .off rfl <| .step (v := .bool true) (h' := h) rfl <| .step (v := .bool true) (h' := h) rfl <| .off rfl <| .off rfl <| .off rfl <| .off rfl <| .step (v := .bool true) (h' := h) rfl <| .step (v := .bool true) (h' := h) rfl <| .off rfl <| .off rfl <| .off rfl <| .off rfl <| .step (v := .bool true) (h' := h) rfl <| .nil, rfl, ?_⟩
     unfold lz; rw [k0, k1, k2, k3]; rfl
    | true =>
     rw [k3] at n2
     cases k4 : small s.n with
     | false =>
      rw [k4] at n3
      refine ⟨_, .step (v := .ptr j 0) (h' := h) rfl <| .step (v := i64 s.kind) (h' := h) (bz c rfl) <| .step (v := .bool false) (h' := h) lt1 <| .step (v := .bool false) (h' := h) rfl <| .on rfl <| .step (v := .ptr j 0) (h' := h) rfl <| .on rfl <| .step (v := i64 s.kind) (h' := h) (bz c rfl) <| .on rfl <| .step (v := .bool false) (h' := h) gt9 <| .step (v := .bool false) (h' := h) rfl <| .step (v := .bool false) (h' := h) rfl <| .on rfl <| .step (v := .ptr j 1) (h' := h) rfl <| .on rfl <| .step (v := i64 s.aB) (h' := h) (av c 1 rfl) <| .on rfl <| .call (v := .bool true) (h' := h) n1 <| .on rfl <| .step (v := .bool false) (h' := h) rfl <| .step (v := .bool false) (h' := h) rfl <| .step (v := .bool false) (h' := h) rfl <| .on rfl <| .step (v := .ptr j 2) (h' := h) rfl <| .on rfl <| .step (v := i64 s.node) (h' := h) (av c 2 rfl) <| .on rfl <| .call (v := .bool true) (h' := h) n2 <| .on rfl <| .step (v := .bool false) (h' := h) rfl <| .step (v := .bool false) (h' := h) rfl <| .step (v := .bool false) (h' := h) rfl <| .on rfl <| .step (v := .ptr j 3) (h' := h) rfl <| .on rfl <| .step (v := i64 s.n) (h' := h) (av c 3 rfl) <| .on rfl <| .call (v := .bool false) (h' := h) n3 <| .on rfl <| .step (v := .bool true) (h' := h) rfl <| .step (v := .bool true) (h' := h) rfl <| .step (v := .bool true) (h' := h) rfl <| .off rfl <| .off rfl <| .off rfl <| .off rfl <| .step (v := .bool true) (h' := h) rfl <| .step (v := .bool true) (h' := h) rfl <| .off rfl <| .off rfl <| .off rfl <| .off rfl <| .step (v := .bool true) (h' := h) rfl <| .step (v := .bool true) (h' := h) rfl <| .off rfl <| .off rfl <| .off rfl <| .off rfl <| .step (v := .bool true) (h' := h) rfl <| .step (v := .bool true) (h' := h) rfl <| .off rfl <| .off rfl <| .off rfl <| .off rfl <| .step (v := .bool true) (h' := h) rfl <| .step (v := .bool true) (h' := h) rfl <| .off rfl <| .off rfl <| .off rfl <| .off rfl <| .step (v := .bool true) (h' := h) rfl <| .step (v := .bool true) (h' := h) rfl <| .off rfl <| .off rfl <| .off rfl <| .off rfl <| .step (v := .bool true) (h' := h) rfl <| .nil, rfl, ?_⟩
      unfold lz; rw [k0, k1, k2, k3, k4]; rfl
     | true =>
      rw [k4] at n3
      cases k5 : decide (255 < s.name.length) with
      | true =>
       rw [k5] at g1
       refine ⟨_, .step (v := .ptr j 0) (h' := h) rfl <| .step (v := i64 s.kind) (h' := h) (bz c rfl) <| .step (v := .bool false) (h' := h) lt1 <| .step (v := .bool false) (h' := h) rfl <| .on rfl <| .step (v := .ptr j 0) (h' := h) rfl <| .on rfl <| .step (v := i64 s.kind) (h' := h) (bz c rfl) <| .on rfl <| .step (v := .bool false) (h' := h) gt9 <| .step (v := .bool false) (h' := h) rfl <| .step (v := .bool false) (h' := h) rfl <| .on rfl <| .step (v := .ptr j 1) (h' := h) rfl <| .on rfl <| .step (v := i64 s.aB) (h' := h) (av c 1 rfl) <| .on rfl <| .call (v := .bool true) (h' := h) n1 <| .on rfl <| .step (v := .bool false) (h' := h) rfl <| .step (v := .bool false) (h' := h) rfl <| .step (v := .bool false) (h' := h) rfl <| .on rfl <| .step (v := .ptr j 2) (h' := h) rfl <| .on rfl <| .step (v := i64 s.node) (h' := h) (av c 2 rfl) <| .on rfl <| .call (v := .bool true) (h' := h) n2 <| .on rfl <| .step (v := .bool false) (h' := h) rfl <| .step (v := .bool false) (h' := h) rfl <| .step (v := .bool false) (h' := h) rfl <| .on rfl <| .step (v := .ptr j 3) (h' := h) rfl <| .on rfl <| .step (v := i64 s.n) (h' := h) (av c 3 rfl) <| .on rfl <| .call (v := .bool true) (h' := h) n3 <| .on rfl <| .step (v := .bool false) (h' := h) rfl <| .step (v := .bool false) (h' := h) rfl <| .step (v := .bool false) (h' := h) rfl <| .on rfl <| .step (v := .ptr j 4) (h' := h) rfl <| .on rfl <| .step (v := cD s.name) (h' := h) (av c 4 rfl) <| .on rfl <| .step (v := i64 s.name.length) (h' := h) (cZ _) <| .on rfl <| .step (v := .bool true) (h' := h) g1 <| .step (v := .bool true) (h' := h) rfl <| .step (v := .bool true) (h' := h) rfl <| .off rfl <| .off rfl <| .off rfl <| .off rfl <| .step (v := .bool true) (h' := h) rfl <| .step (v := .bool true) (h' := h) rfl <| .off rfl <| .off rfl <| .off rfl <| .off rfl <| .step (v := .bool true) (h' := h) rfl <| .step (v := .bool true) (h' := h) rfl <| .off rfl <| .off rfl <| .off rfl <| .off rfl <| .step (v := .bool true) (h' := h) rfl <| .step (v := .bool true) (h' := h) rfl <| .off rfl <| .off rfl <| .off rfl <| .off rfl <| .step (v := .bool true) (h' := h) rfl <| .step (v := .bool true) (h' := h) rfl <| .off rfl <| .off rfl <| .off rfl <| .off rfl <| .step (v := .bool true) (h' := h) rfl <| .nil, rfl, ?_⟩
       unfold lz; rw [k0, k1, k2, k3, k4, k5]; rfl
      | false =>
       rw [k5] at g1
       cases k6 : small s.entry.aB with
       | false =>
        rw [k6] at n4
        refine ⟨_, .step (v := .ptr j 0) (h' := h) rfl <| .step (v := i64 s.kind) (h' := h) (bz c rfl) <| .step (v := .bool false) (h' := h) lt1 <| .step (v := .bool false) (h' := h) rfl <| .on rfl <| .step (v := .ptr j 0) (h' := h) rfl <| .on rfl <| .step (v := i64 s.kind) (h' := h) (bz c rfl) <| .on rfl <| .step (v := .bool false) (h' := h) gt9 <| .step (v := .bool false) (h' := h) rfl <| .step (v := .bool false) (h' := h) rfl <| .on rfl <| .step (v := .ptr j 1) (h' := h) rfl <| .on rfl <| .step (v := i64 s.aB) (h' := h) (av c 1 rfl) <| .on rfl <| .call (v := .bool true) (h' := h) n1 <| .on rfl <| .step (v := .bool false) (h' := h) rfl <| .step (v := .bool false) (h' := h) rfl <| .step (v := .bool false) (h' := h) rfl <| .on rfl <| .step (v := .ptr j 2) (h' := h) rfl <| .on rfl <| .step (v := i64 s.node) (h' := h) (av c 2 rfl) <| .on rfl <| .call (v := .bool true) (h' := h) n2 <| .on rfl <| .step (v := .bool false) (h' := h) rfl <| .step (v := .bool false) (h' := h) rfl <| .step (v := .bool false) (h' := h) rfl <| .on rfl <| .step (v := .ptr j 3) (h' := h) rfl <| .on rfl <| .step (v := i64 s.n) (h' := h) (av c 3 rfl) <| .on rfl <| .call (v := .bool true) (h' := h) n3 <| .on rfl <| .step (v := .bool false) (h' := h) rfl <| .step (v := .bool false) (h' := h) rfl <| .step (v := .bool false) (h' := h) rfl <| .on rfl <| .step (v := .ptr j 4) (h' := h) rfl <| .on rfl <| .step (v := cD s.name) (h' := h) (av c 4 rfl) <| .on rfl <| .step (v := i64 s.name.length) (h' := h) (cZ _) <| .on rfl <| .step (v := .bool false) (h' := h) g1 <| .step (v := .bool false) (h' := h) rfl <| .step (v := .bool false) (h' := h) rfl <| .on rfl <| .step (v := .ptr je 0) (h' := h) rfl <| .on rfl <| .step (v := i64 s.entry.aB) (h' := h) (bz ce rfl) <| .on rfl <| .call (v := .bool false) (h' := h) n4 <| .on rfl <| .step (v := .bool true) (h' := h) rfl <| .step (v := .bool true) (h' := h) rfl <| .step (v := .bool true) (h' := h) rfl <| .off rfl <| .off rfl <| .off rfl <| .off rfl <| .step (v := .bool true) (h' := h) rfl <| .step (v := .bool true) (h' := h) rfl <| .off rfl <| .off rfl <| .off rfl <| .off rfl <| .step (v := .bool true) (h' := h) rfl <| .step (v := .bool true) (h' := h) rfl <| .off rfl <| .off rfl <| .off rfl <| .off rfl <| .step (v := .bool true) (h' := h) rfl <| .step (v := .bool true) (h' := h) rfl <| .off rfl <| .off rfl <| .off rfl <| .off rfl <| .step (v := .bool true) (h' := h) rfl <| .nil, rfl, ?_⟩
        unfold lz; rw [k0, k1, k2, k3, k4, k5, k6]; rfl
       | true =>
        rw [k6] at n4
        cases k7 : small s.entry.seq with
        | false =>
         rw [k7] at n5
         refine ⟨_, .step (v := .ptr j 0) (h' := h) rfl <| .step (v := i64 s.kind) (h' := h) (bz c rfl) <| .step (v := .bool false) (h' := h) lt1 <| .step (v := .bool false) (h' := h) rfl <| .on rfl <| .step (v := .ptr j 0) (h' := h) rfl <| .on rfl <| .step (v := i64 s.kind) (h' := h) (bz c rfl) <| .on rfl <| .step (v := .bool false) (h' := h) gt9 <| .step (v := .bool false) (h' := h) rfl <| .step (v := .bool false) (h' := h) rfl <| .on rfl <| .step (v := .ptr j 1) (h' := h) rfl <| .on rfl <| .step (v := i64 s.aB) (h' := h) (av c 1 rfl) <| .on rfl <| .call (v := .bool true) (h' := h) n1 <| .on rfl <| .step (v := .bool false) (h' := h) rfl <| .step (v := .bool false) (h' := h) rfl <| .step (v := .bool false) (h' := h) rfl <| .on rfl <| .step (v := .ptr j 2) (h' := h) rfl <| .on rfl <| .step (v := i64 s.node) (h' := h) (av c 2 rfl) <| .on rfl <| .call (v := .bool true) (h' := h) n2 <| .on rfl <| .step (v := .bool false) (h' := h) rfl <| .step (v := .bool false) (h' := h) rfl <| .step (v := .bool false) (h' := h) rfl <| .on rfl <| .step (v := .ptr j 3) (h' := h) rfl <| .on rfl <| .step (v := i64 s.n) (h' := h) (av c 3 rfl) <| .on rfl <| .call (v := .bool true) (h' := h) n3 <| .on rfl <| .step (v := .bool false) (h' := h) rfl <| .step (v := .bool false) (h' := h) rfl <| .step (v := .bool false) (h' := h) rfl <| .on rfl <| .step (v := .ptr j 4) (h' := h) rfl <| .on rfl <| .step (v := cD s.name) (h' := h) (av c 4 rfl) <| .on rfl <| .step (v := i64 s.name.length) (h' := h) (cZ _) <| .on rfl <| .step (v := .bool false) (h' := h) g1 <| .step (v := .bool false) (h' := h) rfl <| .step (v := .bool false) (h' := h) rfl <| .on rfl <| .step (v := .ptr je 0) (h' := h) rfl <| .on rfl <| .step (v := i64 s.entry.aB) (h' := h) (bz ce rfl) <| .on rfl <| .call (v := .bool true) (h' := h) n4 <| .on rfl <| .step (v := .bool false) (h' := h) rfl <| .step (v := .bool false) (h' := h) rfl <| .step (v := .bool false) (h' := h) rfl <| .on rfl <| .step (v := .ptr je 1) (h' := h) rfl <| .on rfl <| .step (v := i64 s.entry.seq) (h' := h) (av ce 1 rfl) <| .on rfl <| .call (v := .bool false) (h' := h) n5 <| .on rfl <| .step (v := .bool true) (h' := h) rfl <| .step (v := .bool true) (h' := h) rfl <| .step (v := .bool true) (h' := h) rfl <| .off rfl <| .off rfl <| .off rfl <| .off rfl <| .step (v := .bool true) (h' := h) rfl <| .step (v := .bool true) (h' := h) rfl <| .off rfl <| .off rfl <| .off rfl <| .off rfl <| .step (v := .bool true) (h' := h) rfl <| .step (v := .bool true) (h' := h) rfl <| .off rfl <| .off rfl <| .off rfl <| .off rfl <| .step (v := .bool true) (h' := h) rfl <| .nil, rfl, ?_⟩
         unfold lz; rw [k0, k1, k2, k3, k4, k5, k6, k7]; rfl
        | true =>
         rw [k7] at n5
         cases k8 : small s.entry.kind with
         | false =>
          rw [k8] at n6
          refine ⟨_, .step (v := .ptr j 0) (h' := h) rfl <| .step (v := i64 s.kind) (h' := h) (bz c rfl) <| .step (v := .bool false) (h' := h) lt1 <| .step (v := .bool false) (h' := h) rfl <| .on rfl <| .step (v := .ptr j 0) (h' := h) rfl <| .on rfl <| .step (v := i64 s.kind) (h' := h) (bz c rfl) <| .on rfl <| .step (v := .bool false) (h' := h) gt9 <| .step (v := .bool false) (h' := h) rfl <| .step (v := .bool false) (h' := h) rfl <| .on rfl <| .step (v := .ptr j 1) (h' := h) rfl <| .on rfl <| .step (v := i64 s.aB) (h' := h) (av c 1 rfl) <| .on rfl <| .call (v := .bool true) (h' := h) n1 <| .on rfl <| .step (v := .bool false) (h' := h) rfl <| .step (v := .bool false) (h' := h) rfl <| .step (v := .bool false) (h' := h) rfl <| .on rfl <| .step (v := .ptr j 2) (h' := h) rfl <| .on rfl <| .step (v := i64 s.node) (h' := h) (av c 2 rfl) <| .on rfl <| .call (v := .bool true) (h' := h) n2 <| .on rfl <| .step (v := .bool false) (h' := h) rfl <| .step (v := .bool false) (h' := h) rfl <| .step (v := .bool false) (h' := h) rfl <| .on rfl <| .step (v := .ptr j 3) (h' := h) rfl <| .on rfl <| .step (v := i64 s.n) (h' := h) (av c 3 rfl) <| .on rfl <| .call (v := .bool true) (h' := h) n3 <| .on rfl <| .step (v := .bool false) (h' := h) rfl <| .step (v := .bool false) (h' := h) rfl <| .step (v := .bool false) (h' := h) rfl <| .on rfl <| .step (v := .ptr j 4) (h' := h) rfl <| .on rfl <| .step (v := cD s.name) (h' := h) (av c 4 rfl) <| .on rfl <| .step (v := i64 s.name.length) (h' := h) (cZ _) <| .on rfl <| .step (v := .bool false) (h' := h) g1 <| .step (v := .bool false) (h' := h) rfl <| .step (v := .bool false) (h' := h) rfl <| .on rfl <| .step (v := .ptr je 0) (h' := h) rfl <| .on rfl <| .step (v := i64 s.entry.aB) (h' := h) (bz ce rfl) <| .on rfl <| .call (v := .bool true) (h' := h) n4 <| .on rfl <| .step (v := .bool false) (h' := h) rfl <| .step (v := .bool false) (h' := h) rfl <| .step (v := .bool false) (h' := h) rfl <| .on rfl <| .step (v := .ptr je 1) (h' := h) rfl <| .on rfl <| .step (v := i64 s.entry.seq) (h' := h) (av ce 1 rfl) <| .on rfl <| .call (v := .bool true) (h' := h) n5 <| .on rfl <| .step (v := .bool false) (h' := h) rfl <| .step (v := .bool false) (h' := h) rfl <| .step (v := .bool false) (h' := h) rfl <| .on rfl <| .step (v := .ptr je 2) (h' := h) rfl <| .on rfl <| .step (v := i64 s.entry.kind) (h' := h) (av ce 2 rfl) <| .on rfl <| .call (v := .bool false) (h' := h) n6 <| .on rfl <| .step (v := .bool true) (h' := h) rfl <| .step (v := .bool true) (h' := h) rfl <| .step (v := .bool true) (h' := h) rfl <| .off rfl <| .off rfl <| .off rfl <| .off rfl <| .step (v := .bool true) (h' := h) rfl <| .step (v := .bool true) (h' := h) rfl <| .off rfl <| .off rfl <| .off rfl <| .off rfl <| .step (v := .bool true) (h' := h) rfl <| .nil, rfl, ?_⟩
          unfold lz; rw [k0, k1, k2, k3, k4, k5, k6, k7, k8]; rfl
         | true =>
          rw [k8] at n6
          cases k9 : decide (255 < s.entry.bL.length) with
          | true =>
           rw [k9] at g2
           refine ⟨_, .step (v := .ptr j 0) (h' := h) rfl <| .step (v := i64 s.kind) (h' := h) (bz c rfl) <| .step (v := .bool false) (h' := h) lt1 <| .step (v := .bool false) (h' := h) rfl <| .on rfl <| .step (v := .ptr j 0) (h' := h) rfl <| .on rfl <| .step (v := i64 s.kind) (h' := h) (bz c rfl) <| .on rfl <| .step (v := .bool false) (h' := h) gt9 <| .step (v := .bool false) (h' := h) rfl <| .step (v := .bool false) (h' := h) rfl <| .on rfl <| .step (v := .ptr j 1) (h' := h) rfl <| .on rfl <| .step (v := i64 s.aB) (h' := h) (av c 1 rfl) <| .on rfl <| .call (v := .bool true) (h' := h) n1 <| .on rfl <| .step (v := .bool false) (h' := h) rfl <| .step (v := .bool false) (h' := h) rfl <| .step (v := .bool false) (h' := h) rfl <| .on rfl <| .step (v := .ptr j 2) (h' := h) rfl <| .on rfl <| .step (v := i64 s.node) (h' := h) (av c 2 rfl) <| .on rfl <| .call (v := .bool true) (h' := h) n2 <| .on rfl <| .step (v := .bool false) (h' := h) rfl <| .step (v := .bool false) (h' := h) rfl <| .step (v := .bool false) (h' := h) rfl <| .on rfl <| .step (v := .ptr j 3) (h' := h) rfl <| .on rfl <| .step (v := i64 s.n) (h' := h) (av c 3 rfl) <| .on rfl <| .call (v := .bool true) (h' := h) n3 <| .on rfl <| .step (v := .bool false) (h' := h) rfl <| .step (v := .bool false) (h' := h) rfl <| .step (v := .bool false) (h' := h) rfl <| .on rfl <| .step (v := .ptr j 4) (h' := h) rfl <| .on rfl <| .step (v := cD s.name) (h' := h) (av c 4 rfl) <| .on rfl <| .step (v := i64 s.name.length) (h' := h) (cZ _) <| .on rfl <| .step (v := .bool false) (h' := h) g1 <| .step (v := .bool false) (h' := h) rfl <| .step (v := .bool false) (h' := h) rfl <| .on rfl <| .step (v := .ptr je 0) (h' := h) rfl <| .on rfl <| .step (v := i64 s.entry.aB) (h' := h) (bz ce rfl) <| .on rfl <| .call (v := .bool true) (h' := h) n4 <| .on rfl <| .step (v := .bool false) (h' := h) rfl <| .step (v := .bool false) (h' := h) rfl <| .step (v := .bool false) (h' := h) rfl <| .on rfl <| .step (v := .ptr je 1) (h' := h) rfl <| .on rfl <| .step (v := i64 s.entry.seq) (h' := h) (av ce 1 rfl) <| .on rfl <| .call (v := .bool true) (h' := h) n5 <| .on rfl <| .step (v := .bool false) (h' := h) rfl <| .step (v := .bool false) (h' := h) rfl <| .step (v := .bool false) (h' := h) rfl <| .on rfl <| .step (v := .ptr je 2) (h' := h) rfl <| .on rfl <| .step (v := i64 s.entry.kind) (h' := h) (av ce 2 rfl) <| .on rfl <| .call (v := .bool true) (h' := h) n6 <| .on rfl <| .step (v := .bool false) (h' := h) rfl <| .step (v := .bool false) (h' := h) rfl <| .step (v := .bool false) (h' := h) rfl <| .on rfl <| .step (v := .ptr je 5) (h' := h) rfl <| .on rfl <| .step (v := x) (h' := h) (av ce 5 rfl) <| .on rfl <| .step (v := i64 s.entry.bL.length) (h' := h) l1 <| .on rfl <| .step (v := .bool true) (h' := h) g2 <| .step (v := .bool true) (h' := h) rfl <| .step (v := .bool true) (h' := h) rfl <| .off rfl <| .off rfl <| .off rfl <| .off rfl <| .step (v := .bool true) (h' := h) rfl <| .nil, rfl, ?_⟩
           unfold lz; rw [k0, k1, k2, k3, k4, k5, k6, k7, k8, k9]; rfl
          | false =>
           rw [k9] at g2
           cases k10 : decide (255 < s.entry.changes.length) with
           | true =>
            rw [k10] at g3
            refine ⟨_, .step (v := .ptr j 0) (h' := h) rfl <| .step (v := i64 s.kind) (h' := h) (bz c rfl) <| .step (v := .bool false) (h' := h) lt1 <| .step (v := .bool false) (h' := h) rfl <| .on rfl <| .step (v := .ptr j 0) (h' := h) rfl <| .on rfl <| .step (v := i64 s.kind) (h' := h) (bz c rfl) <| .on rfl <| .step (v := .bool false) (h' := h) gt9 <| .step (v := .bool false) (h' := h) rfl <| .step (v := .bool false) (h' := h) rfl <| .on rfl <| .step (v := .ptr j 1) (h' := h) rfl <| .on rfl <| .step (v := i64 s.aB) (h' := h) (av c 1 rfl) <| .on rfl <| .call (v := .bool true) (h' := h) n1 <| .on rfl <| .step (v := .bool false) (h' := h) rfl <| .step (v := .bool false) (h' := h) rfl <| .step (v := .bool false) (h' := h) rfl <| .on rfl <| .step (v := .ptr j 2) (h' := h) rfl <| .on rfl <| .step (v := i64 s.node) (h' := h) (av c 2 rfl) <| .on rfl <| .call (v := .bool true) (h' := h) n2 <| .on rfl <| .step (v := .bool false) (h' := h) rfl <| .step (v := .bool false) (h' := h) rfl <| .step (v := .bool false) (h' := h) rfl <| .on rfl <| .step (v := .ptr j 3) (h' := h) rfl <| .on rfl <| .step (v := i64 s.n) (h' := h) (av c 3 rfl) <| .on rfl <| .call (v := .bool true) (h' := h) n3 <| .on rfl <| .step (v := .bool false) (h' := h) rfl <| .step (v := .bool false) (h' := h) rfl <| .step (v := .bool false) (h' := h) rfl <| .on rfl <| .step (v := .ptr j 4) (h' := h) rfl <| .on rfl <| .step (v := cD s.name) (h' := h) (av c 4 rfl) <| .on rfl <| .step (v := i64 s.name.length) (h' := h) (cZ _) <| .on rfl <| .step (v := .bool false) (h' := h) g1 <| .step (v := .bool false) (h' := h) rfl <| .step (v := .bool false) (h' := h) rfl <| .on rfl <| .step (v := .ptr je 0) (h' := h) rfl <| .on rfl <| .step (v := i64 s.entry.aB) (h' := h) (bz ce rfl) <| .on rfl <| .call (v := .bool true) (h' := h) n4 <| .on rfl <| .step (v := .bool false) (h' := h) rfl <| .step (v := .bool false) (h' := h) rfl <| .step (v := .bool false) (h' := h) rfl <| .on rfl <| .step (v := .ptr je 1) (h' := h) rfl <| .on rfl <| .step (v := i64 s.entry.seq) (h' := h) (av ce 1 rfl) <| .on rfl <| .call (v := .bool true) (h' := h) n5 <| .on rfl <| .step (v := .bool false) (h' := h) rfl <| .step (v := .bool false) (h' := h) rfl <| .step (v := .bool false) (h' := h) rfl <| .on rfl <| .step (v := .ptr je 2) (h' := h) rfl <| .on rfl <| .step (v := i64 s.entry.kind) (h' := h) (av ce 2 rfl) <| .on rfl <| .call (v := .bool true) (h' := h) n6 <| .on rfl <| .step (v := .bool false) (h' := h) rfl <| .step (v := .bool false) (h' := h) rfl <| .step (v := .bool false) (h' := h) rfl <| .on rfl <| .step (v := .ptr je 5) (h' := h) rfl <| .on rfl <| .step (v := x) (h' := h) (av ce 5 rfl) <| .on rfl <| .step (v := i64 s.entry.bL.length) (h' := h) l1 <| .on rfl <| .step (v := .bool false) (h' := h) g2 <| .step (v := .bool false) (h' := h) rfl <| .step (v := .bool false) (h' := h) rfl <| .on rfl <| .step (v := .ptr je 6) (h' := h) rfl <| .on rfl <| .step (v := y) (h' := h) (av ce 6 rfl) <| .on rfl <| .step (v := i64 s.entry.changes.length) (h' := h) l2 <| .on rfl <| .step (v := .bool true) (h' := h) g3 <| .step (v := .bool true) (h' := h) rfl <| .nil, rfl, ?_⟩
            unfold lz; rw [k0, k1, k2, k3, k4, k5, k6, k7, k8, k9, k10]; rfl
           | false =>
            rw [k10] at g3
            refine ⟨_, .step (v := .ptr j 0) (h' := h) rfl <| .step (v := i64 s.kind) (h' := h) (bz c rfl) <| .step (v := .bool false) (h' := h) lt1 <| .step (v := .bool false) (h' := h) rfl <| .on rfl <| .step (v := .ptr j 0) (h' := h) rfl <| .on rfl <| .step (v := i64 s.kind) (h' := h) (bz c rfl) <| .on rfl <| .step (v := .bool false) (h' := h) gt9 <| .step (v := .bool false) (h' := h) rfl <| .step (v := .bool false) (h' := h) rfl <| .on rfl <| .step (v := .ptr j 1) (h' := h) rfl <| .on rfl <| .step (v := i64 s.aB) (h' := h) (av c 1 rfl) <| .on rfl <| .call (v := .bool true) (h' := h) n1 <| .on rfl <| .step (v := .bool false) (h' := h) rfl <| .step (v := .bool false) (h' := h) rfl <| .step (v := .bool false) (h' := h) rfl <| .on rfl <| .step (v := .ptr j 2) (h' := h) rfl <| .on rfl <| .step (v := i64 s.node) (h' := h) (av c 2 rfl) <| .on rfl <| .call (v := .bool true) (h' := h) n2 <| .on rfl <| .step (v := .bool false) (h' := h) rfl <| .step (v := .bool false) (h' := h) rfl <| .step (v := .bool false) (h' := h) rfl <| .on rfl <| .step (v := .ptr j 3) (h' := h) rfl <| .on rfl <| .step (v := i64 s.n) (h' := h) (av c 3 rfl) <| .on rfl <| .call (v := .bool true) (h' := h) n3 <| .on rfl <| .step (v := .bool false) (h' := h) rfl <| .step (v := .bool false) (h' := h) rfl <| .step (v := .bool false) (h' := h) rfl <| .on rfl <| .step (v := .ptr j 4) (h' := h) rfl <| .on rfl <| .step (v := cD s.name) (h' := h) (av c 4 rfl) <| .on rfl <| .step (v := i64 s.name.length) (h' := h) (cZ _) <| .on rfl <| .step (v := .bool false) (h' := h) g1 <| .step (v := .bool false) (h' := h) rfl <| .step (v := .bool false) (h' := h) rfl <| .on rfl <| .step (v := .ptr je 0) (h' := h) rfl <| .on rfl <| .step (v := i64 s.entry.aB) (h' := h) (bz ce rfl) <| .on rfl <| .call (v := .bool true) (h' := h) n4 <| .on rfl <| .step (v := .bool false) (h' := h) rfl <| .step (v := .bool false) (h' := h) rfl <| .step (v := .bool false) (h' := h) rfl <| .on rfl <| .step (v := .ptr je 1) (h' := h) rfl <| .on rfl <| .step (v := i64 s.entry.seq) (h' := h) (av ce 1 rfl) <| .on rfl <| .call (v := .bool true) (h' := h) n5 <| .on rfl <| .step (v := .bool false) (h' := h) rfl <| .step (v := .bool false) (h' := h) rfl <| .step (v := .bool false) (h' := h) rfl <| .on rfl <| .step (v := .ptr je 2) (h' := h) rfl <| .on rfl <| .step (v := i64 s.entry.kind) (h' := h) (av ce 2 rfl) <| .on rfl <| .call (v := .bool true) (h' := h) n6 <| .on rfl <| .step (v := .bool false) (h' := h) rfl <| .step (v := .bool false) (h' := h) rfl <| .step (v := .bool false) (h' := h) rfl <| .on rfl <| .step (v := .ptr je 5) (h' := h) rfl <| .on rfl <| .step (v := x) (h' := h) (av ce 5 rfl) <| .on rfl <| .step (v := i64 s.entry.bL.length) (h' := h) l1 <| .on rfl <| .step (v := .bool false) (h' := h) g2 <| .step (v := .bool false) (h' := h) rfl <| .step (v := .bool false) (h' := h) rfl <| .on rfl <| .step (v := .ptr je 6) (h' := h) rfl <| .on rfl <| .step (v := y) (h' := h) (av ce 6 rfl) <| .on rfl <| .step (v := i64 s.entry.changes.length) (h' := h) l2 <| .on rfl <| .step (v := .bool false) (h' := h) g3 <| .step (v := .bool false) (h' := h) rfl <| .nil, rfl, ?_⟩
            unfold lz; rw [k0, k1, k2, k3, k4, k5, k6, k7, k8, k9, k10]; rfl
end
end Go.Am.Seat
