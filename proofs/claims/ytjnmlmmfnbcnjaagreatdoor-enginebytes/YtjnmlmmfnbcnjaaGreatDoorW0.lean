/- The walk: what each function of the program does at arguments that are not known; and what the law comes to. Conditions: the table of functions holds these functions. -/
import Derived.Test.YtjnmlmmfnbcnjaaGreatDoorH
import Derived.Test.YtjnmlmmfnbcnjaaGreatDoorG
import Derived.Test.YtjnmlmmfnbcnjaaGreatDoorFast1
set_option linter.all false
namespace Go.Am.Seat
section
variable {a b d e f g j k l m n o p q s t v w : AV}
theorem t0_2 : y2 (T0 a b d e f) = a := rfl
theorem t0_3 : y3 (T0 a b d e f) = b := rfl
theorem t0_4 : y4 (T0 a b d e f) = d := rfl
theorem t0_5 : y5 (T0 a b d e f) = e := rfl
theorem t0_6 : y6 (T0 a b d e f) = f := rfl
theorem t3_2 : y2 (T3 a b d e) = a := rfl
theorem t3_3 : y3 (T3 a b d e) = b := rfl
theorem t3_4 : y4 (T3 a b d e) = d := rfl
theorem t3_11 : y11 (T3 a b d e) = e := rfl
theorem t4_2 : y2 (T4 a b) = a := rfl
theorem t4_11 : y11 (T4 a b) = b := rfl
theorem t5_81 : y81 (T5 a b d) = a := rfl
theorem t5_82 : y82 (T5 a b d) = b := rfl
theorem t5_83 : y83 (T5 a b d) = d := rfl
theorem t8_1 : y1 (T8 a b) = a := rfl
theorem t8_2 : y2 (T8 a b) = b := rfl
theorem t9_1 : y1 (T9 a b d) = a := rfl
theorem t9_2 : y2 (T9 a b d) = b := rfl
theorem t9_3 : y3 (T9 a b d) = d := rfl
theorem t10_1 : y1 (T10 a b d e) = a := rfl
theorem t10_2 : y2 (T10 a b d e) = b := rfl
theorem t10_3 : y3 (T10 a b d e) = d := rfl
theorem t10_4 : y4 (T10 a b d e) = e := rfl
theorem t12_1 : y1 (T12 a) = a := rfl
theorem vd : y1 (T13 a b) = a := rfl
theorem wY : y3 (T13 a b) = b := rfl
theorem t14_1 : y1 (T14 a b) = a := rfl
theorem t14_4 : y4 (T14 a b) = b := rfl
theorem t15_1 : y1 (T15 a b d) = a := rfl
theorem t15_4 : y4 (T15 a b d) = b := rfl
theorem t15_5 : y5 (T15 a b d) = d := rfl
theorem t16_1 : y1 (T16 a b d e f) = a := rfl
theorem t16_3 : y3 (T16 a b d e f) = b := rfl
theorem t16_41 : y41 (T16 a b d e f) = d := rfl
theorem t16_42 : y42 (T16 a b d e f) = e := rfl
theorem t16_43 : y43 (T16 a b d e f) = f := rfl
theorem t17_3 : y3 (T17 a b d e) = a := rfl
theorem t17_62 : y62 (T17 a b d e) = b := rfl
theorem t17_63 : y63 (T17 a b d e) = d := rfl
theorem t17_64 : y64 (T17 a b d e) = e := rfl
theorem t18_3 : y3 (T18 a) = a := rfl
theorem t19_3 : y3 (T19 a b d e f) = a := rfl
theorem t19_7 : y7 (T19 a b d e f) = b := rfl
theorem t19_62 : y62 (T19 a b d e f) = d := rfl
theorem t19_63 : y63 (T19 a b d e f) = e := rfl
theorem t19_64 : y64 (T19 a b d e f) = f := rfl
theorem t20_3 : y3 (T20 a b d e f g j k) = a := rfl
theorem t20_7 : y7 (T20 a b d e f g j k) = b := rfl
theorem t20_62 : y62 (T20 a b d e f g j k) = d := rfl
theorem t20_63 : y63 (T20 a b d e f g j k) = e := rfl
theorem t20_64 : y64 (T20 a b d e f g j k) = f := rfl
theorem t20_78 : y78 (T20 a b d e f g j k) = g := rfl
theorem t20_79 : y79 (T20 a b d e f g j k) = j := rfl
theorem t20_80 : y80 (T20 a b d e f g j k) = k := rfl
theorem t21_0 : y0 (T21 a b d e) = a := rfl
theorem t21_2 : y2 (T21 a b d e) = b := rfl
theorem t21_4 : y4 (T21 a b d e) = d := rfl
theorem t21_5 : y5 (T21 a b d e) = e := rfl
theorem t22_0 : y0 (T22 a b d e f) = a := rfl
theorem t22_2 : y2 (T22 a b d e f) = b := rfl
theorem t22_4 : y4 (T22 a b d e f) = d := rfl
theorem t22_5 : y5 (T22 a b d e f) = e := rfl
theorem t22_6 : y6 (T22 a b d e f) = f := rfl
theorem t23_0 : y0 (T23 a b d e f) = a := rfl
theorem t23_2 : y2 (T23 a b d e f) = b := rfl
theorem t23_4 : y4 (T23 a b d e f) = d := rfl
theorem t23_5 : y5 (T23 a b d e f) = e := rfl
theorem t23_8 : y8 (T23 a b d e f) = f := rfl
theorem t26_2 : y2 (T26 a b) = a := rfl
theorem t26_5 : y5 (T26 a b) = b := rfl
theorem mH : y0 (T27 a b) = a := rfl
theorem mI : y1 (T27 a b) = b := rfl
theorem jB : y0 (T29 a b d) = a := rfl
theorem jC : y1 (T29 a b d) = b := rfl
theorem jD : y5 (T29 a b d) = d := rfl
theorem t30_1 : y1 (T30 a b d) = a := rfl
theorem t30_5 : y5 (T30 a b d) = b := rfl
theorem t30_6 : y6 (T30 a b d) = d := rfl
theorem t32_0 : y0 (T32 a b d) = a := rfl
theorem t32_1 : y1 (T32 a b d) = b := rfl
theorem t32_2 : y2 (T32 a b d) = d := rfl
theorem t33_0 : y0 (T33 a b d) = a := rfl
theorem t33_2 : y2 (T33 a b d) = b := rfl
theorem t33_7 : y7 (T33 a b d) = d := rfl
theorem xu : y0 (T34 a) = a := rfl
theorem t35_0 : y0 (T35 a b d e) = a := rfl
theorem t35_1 : y1 (T35 a b d e) = b := rfl
theorem t35_5 : y5 (T35 a b d e) = d := rfl
theorem t35_6 : y6 (T35 a b d e) = e := rfl
theorem t36_0 : y0 (T36 a b d e f) = a := rfl
theorem t36_1 : y1 (T36 a b d e f) = b := rfl
theorem t36_5 : y5 (T36 a b d e f) = d := rfl
theorem t36_6 : y6 (T36 a b d e f) = e := rfl
theorem t36_7 : y7 (T36 a b d e f) = f := rfl
theorem t37_0 : y0 (T37 a b d e f g) = a := rfl
theorem t37_1 : y1 (T37 a b d e f g) = b := rfl
theorem t37_5 : y5 (T37 a b d e f g) = d := rfl
theorem t37_6 : y6 (T37 a b d e f g) = e := rfl
theorem t37_7 : y7 (T37 a b d e f g) = f := rfl
theorem t37_8 : y8 (T37 a b d e f g) = g := rfl
theorem xw : y0 (T38 a b d e f g j) = a := rfl
theorem xy : y1 (T38 a b d e f g j) = b := rfl
theorem xz : y5 (T38 a b d e f g j) = d := rfl
theorem xA : y6 (T38 a b d e f g j) = e := rfl
theorem xB : y7 (T38 a b d e f g j) = f := rfl
theorem xD : y8 (T38 a b d e f g j) = g := rfl
theorem xE : y9 (T38 a b d e f g j) = j := rfl
theorem t39_1 : y1 (T39 a b d e) = a := rfl
theorem t39_38 : y38 (T39 a b d e) = b := rfl
theorem t39_39 : y39 (T39 a b d e) = d := rfl
theorem t39_40 : y40 (T39 a b d e) = e := rfl
theorem t41_58 : y58 (T41 a b d) = a := rfl
theorem t41_59 : y59 (T41 a b d) = b := rfl
theorem t41_60 : y60 (T41 a b d) = d := rfl
theorem t43_0 : y0 (T43 a b) = a := rfl
theorem t43_6 : y6 (T43 a b) = b := rfl
theorem t44_0 : y0 (T44 a b d) = a := rfl
theorem t44_2 : y2 (T44 a b d) = b := rfl
theorem t44_3 : y3 (T44 a b d) = d := rfl
theorem t45_0 : y0 (T45 a b d e) = a := rfl
theorem t45_2 : y2 (T45 a b d e) = b := rfl
theorem t45_3 : y3 (T45 a b d e) = d := rfl
theorem t45_4 : y4 (T45 a b d e) = e := rfl
theorem qg : y5 (T46 a b d) = a := rfl
theorem qh : y6 (T46 a b d) = b := rfl
theorem qi : y7 (T46 a b d) = d := rfl
theorem t47_8 : y8 (T47 a b d) = a := rfl
theorem t47_9 : y9 (T47 a b d) = b := rfl
theorem t47_10 : y10 (T47 a b d) = d := rfl
theorem t49_0 : y0 (T49 a b d) = a := rfl
theorem t49_1 : y1 (T49 a b d) = b := rfl
theorem t49_6 : y6 (T49 a b d) = d := rfl
end
end Go.Am.Seat
namespace Go.Am
noncomputable section
section
variable {h h' : Hp} {v x y : AV} {k : AV → Hp → RS} {q : P4} {o n m es el : Nat} {l : List AV}
theorem br : Seat.tR (.ok v h) k = k v h := rfl
theorem aH {e : RV} (g : e = .ok v h') : Seat.tR e k = k v h' := by rw [g]; rfl
theorem aD {e : RV} {k : AV → RS} (g : e = .ok v h') : Seat.tQ e k = k v := by rw [g]; rfl
theorem aM {c : Cf} {f : Nat} {l : List AV} (g : c f l h = .ok v h') : Seat.C c f l h k = k v h' := by
 show RT.elim k _ _ (c f l h) = _
 rw [g]; rfl
theorem aA {d : Nat} : Seat.A d (.ptr q o) h k = k (.ptr q (o + d)) h := rfl
theorem fP : Seat.J (.ptr q o) h k = k (.ptr q o) h := rfl
theorem aC {a : AV} (g : Seat.lD a h = .ok v h') : Seat.L a h k = k v h' := by
 show (@RV.rec (fun _ => RS) k (fun n => .err n) (Seat.lD a h)) = _
 rw [g]
theorem kx {a : AV} (g : Seat.lR m a h = .ok v h') : Seat.M m a h k = k v h' := by
 show (@RV.rec (fun _ => RS) k (fun n => .err n) (Seat.lR m a h)) = _
 rw [g]
theorem dQ {a b : AV} (g : Seat.sT a b h = .ok v h') : Seat.W a b h k = k v h' := by
 show (@RV.rec (fun _ => RS) k (fun n => .err n) (Seat.sT a b h)) = _
 rw [g]
theorem ky {a b : AV} (g : Seat.EW m a b h = .ok v h') : Seat.S m a b h k = k v h' := by
 show (@RV.rec (fun _ => RS) k (fun n => .err n) (Seat.EW m a b h)) = _
 rw [g]
theorem lJ {a : AV} (g : Seat.bx m a h = .ok v h') : Seat.B m a h k = k v h' := by
 show (@RV.rec (fun _ => RS) k (fun n => .err n) (Seat.bx m a h)) = _
 rw [g]
theorem mK {c : Cl} (g : Seat.Sn m n c h = .ok v h') : Seat.O m n c h k = k v h' := by
 show (@RV.rec (fun _ => RS) k (fun n => .err n) (Seat.Sn m n c h)) = _
 rw [g]
theorem vu {z : List AV} {ps : List Part} (g : Seat.bl z ps h = .ok v h') : Seat.U z ps h k = k v h' := by
 show (@RV.rec (fun _ => RS) k (fun n => .err n) (Seat.bl z ps h)) = _
 rw [g]
theorem xh {a : AV} (g : Seat.ext m a h = .ok v h') : Seat.E m a h k = k v h' := by
 show (@RV.rec (fun _ => RS) k (fun n => .err n) (Seat.ext m a h)) = _
 rw [g]
theorem bt {a : AV} (g : Am.len a h = .ok v h') : Seat.G a h k = k v h' := by
 show (@RV.rec (fun _ => RS) k (fun n => .err n) (Am.len a h)) = _
 rw [g]
theorem du {a b : AV} (g : Seat.iX m a b h = .ok v h') : Seat.X m a b h k = k v h' := by
 show (@RV.rec (fun _ => RS) k (fun n => .err n) (Seat.iX m a b h)) = _
 rw [g]
theorem gY {a b : RS} : Seat.I (.bool true) a b = a := rfl
theorem fK {a b : RS} : Seat.I (.bool false) a b = b := rfl
theorem bH {a b : RS} {c : Prop} [Decidable c] : Seat.I (.bool (decide c)) a b = if c then a else b := by
 by_cases hc : c
 ·rw [if_pos hc, decide_eq_true hc]; rfl
 ·rw [if_neg hc, decide_eq_false hc]; rfl
theorem TP {a b : RS} {c : Bool} : Seat.I (.bool c) a b = if c = true then a else b := by cases c <;> rfl
theorem Bg (k : IntKind) : mc k k = true := by cases k <;> rfl
theorem mS {f : IntKind → Int → Int → AV} (k : IntKind) (a b : Int) : BP f (.int k a) (.int k b) h = .ok (f k a b) h := by
 show (@Bool.rec (fun _ => RV) (.err 4) (.ok (f k a b) h) (mc k k)) = _
 rw [Bg]
theorem AM (k : IntKind) (a b : Int) : qR (.int k a) (.int k b) h = .ok (.bool (decide (a < b))) h := (mS k a b).trans (by rw [qW])
theorem iO (k : IntKind) (a b : Int) : dx (.int k a) (.int k b) h = .ok (.bool (decide (b < a))) h := (mS k a b).trans (by rw [qW])
theorem TB (k : IntKind) (a b : Int) : IZ (.int k a) (.int k b) h = .ok (.bool (decide (a ≤ b))) h := (mS k a b).trans (by rw [yv])
theorem TQ (k : IntKind) (a b : Int) : yn (.int k a) (.int k b) h = .ok (.bool (decide (b ≤ a))) h := (mS k a b).trans (by rw [yv])
theorem En (k : IntKind) (a b : Int) : uC (.int k a) (.int k b) h = .ok (.bool (decide (a = b))) h := (mS k a b).trans (by rw [gK])
theorem Ez (k : IntKind) (a b : Int) : jL (.int k a) (.int k b) h = .ok (.bool (!decide (a = b))) h := (mS k a b).trans (by rw [gK])
theorem EC (k : IntKind) (a b : Int) : jx (.int k a) (.int k b) h = .ok (.int k (k.wrap (a + b))) h := (mS k a b).trans (by rw [dr, te])
theorem KY (k : IntKind) (a b : Int) : nV (.int k a) (.int k b) h = .ok (.int k (k.wrap (a - b))) h := (mS k a b).trans (by rw [dr, te, yu, Int.sub_eq_add_neg])
theorem ly (k k' : IntKind) (a : Int) : cK (.toInt k) (.int k' a) h = .ok (.int k (k.wrap a)) h := by
 show RV.ok (.int k (jv k a)) h = _
 rw [dr]
theorem iQ (b : Bool) : nT (.bool b) h = .ok (.bool (!b)) h := by cases b <;> rfl
theorem bA (k' : IntKind) (a b : Int) : Seat.Y (.int k' a) (.int k' b) h k = k (.bool (decide (a < b))) h := by
 show (@RV.rec (fun _ => RS) k (fun n => .err n) (qR _ _ _)) = _
 rw [AM]
theorem EL (k' : IntKind) (a b : Int) : Seat.Q (.int k' a) (.int k' b) h k = k (.bool (decide (a = b))) h := by
 show (@RV.rec (fun _ => RS) k (fun n => .err n) (uC _ _ _)) = _
 rw [En]
theorem mG (k' : IntKind) (a b : Int) : Seat.D (.int k' a) (.int k' b) h k = k (.int k' (k'.wrap (a + b))) h := by
 show (@RV.rec (fun _ => RS) k (fun n => .err n) (jx _ _ _)) = _
 rw [EC]
theorem Ep (k' : IntKind) (a b : Int) : Seat.Z (.int k' a) (.int k' b) h k = k (.int k' (k'.wrap (a - b))) h := by
 show (@RV.rec (fun _ => RS) k (fun n => .err n) (nV _ _ _)) = _
 rw [KY]
theorem EM (s : List Nat) : fQ (.str s) h = .ok (.int .i64 (s.length : Int)) h := rfl
theorem Kc (s t : List Nat) : dh (.str s) (.str t) h = .ok (.bool (decide (s = t))) h := by
 show RV.ok (.bool (iw s t)) h = _
 rw [iy]
theorem Ku (s t : List Nat) : Ak (.str s) (.str t) h = .ok (.bool (!decide (s = t))) h := by
 show RV.ok (.bool (Bool.not (iw s t))) h = _
 rw [iy]
theorem KZ (c : Cs h q o l) (j : Nat) (hj : j < l.length) : Seat.lD (.ptr q (o + j)) h = .ok l[j] h := by
 obtain ⟨el, n, ex, fl, c, e, r1, r2⟩ := c
 show (Obj.aU (ag q h) (fun _ n _ _ c => @Bool.rec (fun _ => RV) (.err 13) (.ok (eO (o + j) c) h) (Ha (o + j) n)) (.err 14) : RV) = _
 rw [e]
 show (@Bool.rec (fun _ => RV) (.err 13) (.ok (eO (o + j) c) h) (Nat.ble (Nat.succ (o + j)) n)) = _
 rw [Nat.ble_eq_true_of_le (by omega), r2 j hj]
theorem CR (c : Cs h q o l) (hj : 0 < l.length) : Seat.lD (.ptr q o) h = .ok l[0] h := KZ c 0 hj
theorem vw {c : Cl} : ∀ {l : List AV} {o : Nat}, (∀ k (hk : k < l.length), eO (o + k) c = l[k]) → bI l.length c o = l
 | [], _, _ => rfl
 | a :: l, o, g => by
  have h0 := g 0 (by simp)
  have : bI l.length c (o + 1) = l := vw fun k hk => by
   have := g (k + 1) (by simp; omega)
   rw [show o + 1 + k = o + (k + 1) by omega, this]; rfl
  show eO o c :: bI l.length c (o + 1) = a :: l
  rw [this]
  simp at h0
  rw [h0]
theorem bJ (c : Cs h q o l) (hm : l.length = m) : Seat.lR m (.ptr q o) h = .ok (.agg l) h := by
 obtain ⟨el, n, ex, fl, c, e, r1, r2⟩ := c
 show (Obj.aU (ag q h) (fun _ n _ _ c => @Bool.rec (fun _ => RV) (.err 16) (.ok (.agg (bI m c o)) h) (Nat.ble (Nat.add o m) n)) (.err 17) : RV) = _
 rw [e]
 show (@Bool.rec (fun _ => RV) (.err 16) (.ok (.agg (bI m c o)) h) (Nat.ble (o + m) n)) = _
 rw [Nat.ble_eq_true_of_le (by omega), ← hm, vw r2]
def vO (x : AV) (es n : Nat) (q : P4) (o : Nat) : Prop := (∃ cap, x = .slice q o n cap) ∨ x = .fq q o n es ∨ (x = .ar ∧ n = 0)
theorem eY (s : vO x es n q o) : Am.len x h = .ok (.int .i64 (n : Int)) h := by
 rcases s with ⟨cap, rfl⟩ | rfl | ⟨rfl, rfl⟩ <;> rfl
theorem ct (s : vO x es n q o) {i : Nat} (hi : i < n) : Seat.iX es x (.int .i64 (i : Int)) h = .ok (.ptr q (o + i * es)) h := by
 rcases s with ⟨cap, rfl⟩ | rfl | ⟨rfl, rfl⟩
 ·show (@Bool.rec (fun _ => RV) (.err 54) (.ok (.ptr q (o + i * es)) h) (Nat.ble (Nat.succ i) n)) = _
  rw [Nat.ble_eq_true_of_le hi]
 ·show (@Bool.rec (fun _ => RV) (.err 54) (.ok (.ptr q (o + i * es)) h) (Nat.ble (Nat.succ i) n)) = _
  rw [Nat.ble_eq_true_of_le hi]
 ·omega
theorem uY (s : vO x es n q o) (hes : 0 < es) (c : n ≠ 0 → Cs h q o l) (hl : l.length = n * es) (k : List AV → RV) (e : RV) : elems es x h k e = k l := by
 have key : jo es q o n h k e = k l := by
  cases n with
  | zero =>
   have : l = [] := List.length_eq_zero_iff.1 (by rw [hl, Nat.zero_mul])
   rw [this]; rfl
  | succ n =>
   obtain ⟨el, m, ex, fl, cl, g, r1, r2⟩ := c (by omega)
   show (Obj.aU (ag q h) (fun _ m _ _ c => @Bool.rec (fun _ => RV) e (k (bI (Nat.mul (Nat.succ n) es) c o)) (Nat.ble (Nat.add o (Nat.mul (Nat.succ n) es)) m)) e : RV) = _
   rw [g]
   show (@Bool.rec (fun _ => RV) e (k (bI ((n + 1) * es) cl o)) (Nat.ble (o + (n + 1) * es) m)) = _
   rw [Nat.ble_eq_true_of_le (by omega), ← hl, vw r2]
 rcases s with ⟨cap, rfl⟩ | rfl | ⟨rfl, rfl⟩
 ·exact key
 ·show (@Bool.rec (fun _ => RV) e (jo es q o n h k e) (Nat.beq es es)) = _
  rw [Nat.beq_refl]; exact key
 ·have : l = [] := List.length_eq_zero_iff.1 (by rw [hl, Nat.zero_mul])
  rw [this]; rfl
def dX (h : Hp) (x : AV) (el es : Nat) (l : List AV) (b : P4 → Prop) : Prop := (l = [] ∧ (x = .ar ∨ ∃ q, x = .slice q 0 0 0)) ∨ ∃ q n, x = .fq q 0 n es ∧ l.length = n * es ∧ Ob h q el false .plain l ∧ b q
theorem dX.sl {b : P4 → Prop} (w : dX h x el es l b) (hes : 0 < es) : ∃ q n, vO x es n q 0 ∧ l.length = n * es ∧ (n ≠ 0 → Cs h q 0 l) := by
 rcases w with ⟨rfl, rfl | ⟨q, rfl⟩⟩ | ⟨q, n, rfl, hl, ob, _⟩
 ·exact ⟨.eN 0 0, 0, .inr (.inr ⟨rfl, rfl⟩), by simp, fun h => absurd rfl h⟩
 ·exact ⟨q, 0, .inl ⟨0, rfl⟩, by simp, fun h => absurd rfl h⟩
 ·exact ⟨q, n, .inr (.inl rfl), hl, fun _ => ob.cs (k := 0) (fun j hj => ⟨by omega, by simp⟩) (by omega)⟩
theorem Ob.PR (W : Wf h) {ex : Bool} {fl : Fl} {c : Cl} (hn : Gd c ∧ l.length ≤ bz c) (hg : ∀ k (hk : k < l.length), eO k c = l[k]) : Ob (AL h (.cells el l.length ex fl c)) h.next el ex fl l :=
 ⟨c, by rw [kE, if_pos rfl], hn, hg⟩
theorem iM (W : Wf h) {b : P4 → Prop} (w : dX h x el es l b) (hes : 0 < es) {new : List AV} (hnew' : new.length = m * es) (hsz : l.length + new.length ≤ 16777216) :
  ∃ x' h', lN el es m new x h = .ok x' h' ∧ dX h' x' el es (l ++ new) (fun q => b q ∨ ag q h = .none) ∧ Wf h' ∧ ∀ q, ag q h ≠ .none → ¬ b q → ag q h' = ag q h := by
 have hnl : new = [] → l ++ new = l := by rintro rfl; simp
 rcases w with ⟨rfl, hx⟩ | ⟨q, n, rfl, hl, ob, hb⟩
 ·cases m with
  | zero =>
   have : new = [] := List.length_eq_zero_iff.1 (by rw [hnew', Nat.zero_mul])
   subst this
   refine ⟨x, h, ?_, .inl ⟨rfl, hx⟩, W, fun _ _ _ => rfl⟩
   rcases hx with rfl | ⟨q, rfl⟩ <;> rfl
  | succ m =>
   have e : lN el es (m + 1) new x h = ja el false .plain new.length (ox new) h (fun i h => .ok (.fq i 0 (m + 1) es) h) := by
    have g : qS el es 0 (m + 1) .nil new h = ja el false .plain new.length (ox new) h (fun i h => .ok (.fq i 0 (m + 1) es) h) := by
     unfold qS pL
     rw [show Nat.add 0 (m + 1) = m + 1 from Nat.zero_add _]
     rfl
    rcases hx with rfl | ⟨q, rfl⟩
    ·exact g
    ·have e2 : lN el es (m + 1) new (.slice q 0 0 0) h = (@Bool.rec (fun _ => RV) (qS el es 0 (m + 1) .nil new h) (lh q (Nat.add 0 (Nat.mul 0 es)) new h (fun h => .ok (.slice q 0 (Nat.add 0 (Nat.succ m)) 0) h)) (Nat.ble (0 + (m + 1)) 0)) := rfl
     have : Nat.ble (0 + (m + 1)) 0 = false := by rw [Nat.zero_add]; rfl
     rw [e2, this]
     exact g
   rw [e, yS W (by rw [(Gd.of new (by simpa using hsz)).1.max]; exact (Gd.of new (by simpa using hsz)).2)]
   refine ⟨_, _, rfl, .inr ⟨h.next, m + 1, rfl, by simpa using hnew', ?_, .inr W.fresh⟩, W.AL _, fun q hq _ => Old.AL W _ q hq⟩
   exact Ob.PR W (Gd.of new (by simpa using hsz)) (fun k hk => ny new (by simpa using hsz) k hk)
 ·cases m with
  | zero =>
   have : new = [] := List.length_eq_zero_iff.1 (by rw [hnew', Nat.zero_mul])
   subst this
   refine ⟨.fq q 0 n es, h, ?_, .inr ⟨q, n, rfl, by simpa using hl, by simpa using ob, .inl hb⟩, W, fun _ _ _ => rfl⟩
   show (@Bool.rec (fun _ => RV) (.err 81) (.ok (.fq q 0 n es) h) (Nat.beq es es)) = _
   rw [Nat.beq_refl]
  | succ m =>
   obtain ⟨c, e1, e2, e3⟩ := ob
   have hne : ag q h ≠ .none := by rw [e1]; simp
   have hsum : (n + (m + 1)) * es = l.length + new.length := by rw [Nat.add_mul, ← hl, ← hnew']
   have hpos : 0 < new.length := by rw [hnew']; exact Nat.mul_pos (by omega) hes
   have W2 : Wf (cM q .dead h) := W.cM hne
   have hnx : (cM q .dead h).next = h.next := rfl
   have hcf : Gd (cG new l.length (kZ ((n + (m + 1)) * es) c)) ∧ l.length + new.length ≤ bz (cG new l.length (kZ ((n + (m + 1)) * es) c)) := by
    rw [fh, hsum]
    obtain ⟨a1, a2⟩ := e2.1.fit (l.length + new.length) hsz
    exact ⟨a1.cG _ _, a2⟩
   have e : lN el es (m + 1) new (.fq q 0 n es) h = ja el false .plain (l ++ new).length (cG new l.length (kZ ((n + (m + 1)) * es) c)) (cM q .dead h) (fun j h => .ok (.fq j 0 (n + (m + 1)) es) h) := by
    show (@Bool.rec (fun _ => RV) (.err 81) (Jc el es (m + 1) new q 0 n h) (Nat.beq es es)) = _
    rw [Nat.beq_refl]
    show (Obj.aU (ag q h) _ (.err 84) : RV) = _
    rw [e1]
    show (@Bool.rec (fun _ => RV) (@Bool.rec (fun _ => RV) (.err 83) (@Bool.rec (fun _ => RV) (@Bool.rec (fun _ => RV) (mr q el ((n + (m + 1)) * es) .plain (ox (List.append (bI (n * es) c 0) new)) (n + (m + 1)) es h)
     (mr q el ((n + (m + 1)) * es) .plain (cG new l.length (kZ ((n + (m + 1)) * es) c)) (n + (m + 1)) es h) (Bool.and (Nat.beq 0 0) (Nat.beq (n * es) l.length))) (.err 81) (Bool.or false (Bool.not (Nat.beq el el)))) (Nat.ble (0 + n * es) l.length)) _ (Nat.ble (0 + (n + (m + 1)) * es) l.length)) = _
    have b1 : Nat.ble (0 + (n + (m + 1)) * es) l.length = false := by
     rw [← Bool.not_eq_true]
     intro g
     have := Nat.le_of_ble_eq_true g
     omega
    have b2 : Nat.ble (0 + n * es) l.length = true := Nat.ble_eq_true_of_le (by omega)
    have b3 : Nat.beq (n * es) l.length = true := by rw [hl]; exact Nat.beq_refl _
    have b4 : Nat.beq el el = true := Nat.beq_refl _
    rw [b1, b2, b3, b4]
    show mr q el ((n + (m + 1)) * es) .plain _ (n + (m + 1)) es h = _
    unfold mr
    rw [List.length_append, hsum]
   rw [e, yS W2 (by rw [hcf.1.max, List.length_append]; exact hcf.2)]
   refine ⟨_, _, rfl, .inr ⟨h.next, n + (m + 1), rfl, by rw [List.length_append, hsum], ?_, .inr W.fresh⟩, W2.AL _, fun j hj hbj => ?_⟩
   ·refine Ob.PR W2 ⟨hcf.1, by rw [List.length_append]; exact hcf.2⟩ (fun k hk => ?_)
    rw [hsum]
    refine Ay l new ?_ e2.2 e3 k hk
    rw [hsum] at hcf
    exact hcf.2
   ·rw [kE, hnx, if_neg (fun g => by rw [g] at hj; exact hj W.fresh), aF, if_neg (fun g => by rw [g] at hbj; exact hbj hb)]
end
end
noncomputable section
section
variable {h h' : Hp} {v x y : AV} {q : P4} {o n m es el k : Nat} {l l' : List AV} {ex : Bool}
theorem dY (b : Ob h q el ex .plain l) (hk : k < l.length) (hv : v.one = true) : ∃ h', Seat.sT (.ptr q k) v h = .ok .undef h' ∧ Ob h' q el ex .plain (l.set k v) ∧ (∀ j, j ≠ q → ag j h' = ag j h) ∧ h'.next = h.next := by
 obtain ⟨c, e1, e2, e3⟩ := b
 refine ⟨cM q (.cells el l.length ex .plain (mi k v c)) h, ?_, ⟨mi k v c, by rw [aF, if_pos rfl, List.length_set], ⟨e2.1.mi _ _, by rw [iG, List.length_set]; exact e2.2⟩, fun j hj => ?_⟩, fun j hj => by rw [aF, if_neg hj], rfl⟩
 ·show (Obj.aU (ag q h) _ (.err 21) : RV) = _
  rw [e1]
  show (@Bool.rec (fun _ => RV) (.err 20) (.ok .undef (cM q (.cells el l.length ex .plain (mi k v c)) h)) (Bool.and (Nat.ble (k + 1) l.length) v.one)) = _
  rw [Nat.ble_eq_true_of_le hk, hv]
  rfl
 ·have hj' : j < l.length := by simpa using hj
  rw [qV c (by have := e2.2; omega) (by have := e2.2; omega), List.getElem_set]
  by_cases h1 : j = k
  ·rw [if_pos h1, if_pos h1.symm]
  ·rw [if_neg h1, if_neg (fun g => h1 g.symm)]
   exact e3 j hj'
theorem gO (b : Ob h q el ex .plain l) (hm : l'.length = m) (hk : k + m ≤ l.length) : ∃ h', Seat.EW m (.ptr q k) (.agg l') h = .ok .undef h' ∧ Ob h' q el ex .plain (l.take k ++ (l' ++ l.drop (k + m))) ∧ (∀ j, j ≠ q → ag j h' = ag j h) ∧ h'.next = h.next := by
 obtain ⟨c, e1, e2, e3⟩ := b
 have hlen : (l.take k ++ (l' ++ l.drop (k + m))).length = l.length := by simp; omega
 refine ⟨cM q (.cells el l.length ex .plain (cG l' k c)) h, ?_, ⟨cG l' k c, by rw [aF, if_pos rfl, hlen], ⟨e2.1.cG _ _, by rw [fh, hlen]; exact e2.2⟩, fun j hj => ?_⟩, fun j hj => by rw [aF, if_neg hj], rfl⟩
 ·show (Obj.aU (ag q h) _ (.err 27) : RV) = _
  rw [e1]
  show (@Bool.rec (fun _ => RV) (.err 24) (@Bool.rec (fun _ => RV) (.err 25) (.ok .undef (cM q (.cells el l.length ex .plain (cG l' k c)) h)) (Nat.beq l'.length m)) (Nat.ble (Nat.add k m) l.length)) = _
  rw [Nat.ble_eq_true_of_le (show Nat.add k m ≤ l.length from hk), hm, Nat.beq_refl]
 ·have hj' : j < l.length := by rw [hlen] at hj; exact hj
  have hr := e2.2
  rw [ll l' k c j (by omega) (by omega)]
  by_cases h1 : j < k
  ·rw [dif_neg (by omega), List.getElem_append_left (by simp; omega), List.getElem_take, e3 j hj']
  ·by_cases h2 : j < k + m
   ·rw [dif_pos (by omega), List.getElem_append_right (by simp; omega), List.getElem_append_left (by simp; omega)]
    congr 1
    simp; omega
   ·rw [dif_neg (by omega), List.getElem_append_right (by simp; omega), List.getElem_append_right (by simp; omega), List.getElem_drop, e3 j hj']
    congr 1
    simp; omega
theorem lx (W : Wf h) {c : Cl} (g : Gd c) (hn : n ≤ bz c) : ∃ q h', Seat.Sn el n c h = .ok (.ptr q 0) h' ∧ ag q h = .none ∧ Ob h' q el true .plain (bI n c 0) ∧ Old h h' ∧ Wf h' ∧ ∀ j, j ≠ q → ag j h' = ag j h := by
 have hl : (bI n c 0).length = n := cD n c 0
 have e : Seat.Sn el n c h = ja el true .plain (bI n c 0).length c h qP := by rw [hl]; rfl
 obtain ⟨q, h', e1, e2, e3, e4, e5, e6⟩ := yK (el := el) (ex := true) (fl := .plain) W (bI n c 0) (c := c) ⟨g, by rw [hl]; exact hn⟩ (fun k hk => by rw [nX, Nat.zero_add]) qP
 exact ⟨q, h', by rw [e, e1]; rfl, e2, e3, e4, e5, e6⟩
theorem oh (W : Wf h) (hl : l.length ≤ 16777216) : ∃ q h', Seat.bx el (.agg l) h = .ok (.ptr q 0) h' ∧ ag q h = .none ∧ Ob h' q el true .plain l ∧ Old h h' ∧ Wf h' ∧ ∀ j, j ≠ q → ag j h' = ag j h := by
 have e : Seat.bx el (.agg l) h = ja el true .plain l.length (ox l) h qP := rfl
 obtain ⟨q, h', e1, r⟩ := yK (el := el) (ex := true) (fl := .plain) W l (c := ox l) (Gd.of l hl) (fun k hk => ny l hl k hk) qP
 exact ⟨q, h', by rw [e, e1]; rfl, r⟩
theorem iL (W : Wf h) {z : List AV} {ps : List Part} (hf : fits ps .nil = true) (hl : fill ps .nil z = l) (hn : l.length ≤ 16777216) : ∃ q h', Seat.bs el es n z ps h = .ok (.slice q 0 n n) h' ∧ ag q h = .none ∧ Ob h' q el true .plain l ∧ Old h h' ∧ Wf h' ∧ ∀ j, j ≠ q → ag j h' = ag j h := by
 have e : Seat.bs el es n z ps h = ja el true .plain l.length (ox l) h (fun i h => .ok (.slice i 0 n n) h) := by
  show (@Bool.rec (fun _ => RV) (.err 133) (DU el n (fill ps .nil z) h) (fits ps .nil)) = _
  rw [hf, hl]; rfl
 obtain ⟨q, h', e1, r⟩ := yK (el := el) (ex := true) (fl := .plain) W l (c := ox l) (Gd.of l hn) (fun k hk => ny l hn k hk) (fun i h => .ok (.slice i 0 n n) h)
 exact ⟨q, h', by rw [e, e1], r⟩
theorem gu (s : vO y es m q o) (hes : 0 < es) (c : m ≠ 0 → Cs h q o l) (hl : l.length = m * es) (hm : m * es ≤ 4294967296) : lj el es x y h = lN el es m l x h := by
 have key : (@Bool.rec (fun _ => RV) (.err 86) (elems es y h (fun new => lN el es m new x h) (.err 87)) (Nat.ble (Nat.mul m es) 4294967296)) = lN el es m l x h := by
  rw [Nat.ble_eq_true_of_le (show Nat.mul m es ≤ 4294967296 from hm)]
  exact uY s hes c hl _ _
 rcases s with ⟨cap, rfl⟩ | rfl | ⟨rfl, rfl⟩ <;> exact key
theorem yU (s : List Nat) : byteCells s = s.map fun b : Nat => AV.int .u8 (b : Int) := by
 induction s with
 | nil => rfl
 | cons b s ih => exact congrArg (AV.int .u8 (b : Int) :: ·) ih
theorem NX (s : List Nat) : me el (.c x) (.c (.str s)) .nil h = lN el 1 s.length (s.map fun b : Nat => AV.int .u8 (b : Int)) x h := by
 show lN el 1 s.length (byteCells s) x h = _
 rw [yU]
theorem dX.mono {b b' : P4 → Prop} (w : dX h x el es l b) (g : ∀ q, b q → b' q) : dX h x el es l b' := by
 rcases w with w | ⟨q, n, e1, e2, e3, e4⟩
 ·exact .inl w
 ·exact .inr ⟨q, n, e1, e2, e3, g q e4⟩
theorem dX.old {b : P4 → Prop} (w : dX h x el es l b) (O : ∀ q, b q → ag q h ≠ .none → ag q h' = ag q h) : dX h' x el es l b := by
 rcases w with w | ⟨q, n, e1, e2, e3, e4⟩
 ·exact .inl w
 ·exact .inr ⟨q, n, e1, e2, e3.eq (O q e4 e3.ne), e4⟩
theorem Old.none {h0 : Hp} (O : Old h0 h) (hq : ag q h = .none) : ag q h0 = .none := by
 cases g : ag q h0 with
 | none => rfl
 | _ =>
  have := O q (by rw [g]; simp)
  rw [hq, g] at this
  cases this
theorem Wf.of (W : Wf h) (hn : h'.next = h.next) (g : ∀ j, ag j h = .none → ag j h' = .none) : Wf h' := by
 obtain ⟨N, e, f⟩ := W
 exact ⟨N, by rw [hn, e], fun m hm => g _ (f m hm)⟩
end
end
noncomputable section
def LV (f : Nat → Nat → Obj) (g : Nat → Obj) (n : Nat) : T4 := Nat.rec (.mk .nil f) (fun j t => df (P4.of j) (g j) t) n
theorem ou (f : Nat → Nat → Obj) (g : Nat → Obj) (b o : Nat) : ∀ n, cJ (.eN b o) (LV f g n) = f b o
 | 0 => rfl
 | n + 1 => by
  have e : cJ (.eN b o) (LV f g (n + 1)) = if P4.eN b o = P4.of n then g n else cJ (.eN b o) (LV f g n) := dg (.eN b o) (P4.of n) (g n) (LV f g n)
  rw [e, if_neg (by intro e; cases e), ou f g b o n]
theorem xF (f : Nat → Nat → Obj) (g : Nat → Obj) (a b c d : H) : ∀ n, n ≤ 65536 → cJ (.mk a b c d) (LV f g n) = if pa (.mk a b c d) < n then g (pa (.mk a b c d)) else .none
 | 0, _ => by
  rw [if_neg (by omega)]
  show O1.get d (O2.get c (O3.get b (O4.get a .nil))) = _
  rw [O4.get_nil, O3.get_nil, O2.get_nil, O1.get_nil]
 | m + 1, hm => by
  have e : cJ (.mk a b c d) (LV f g (m + 1)) = if P4.mk a b c d = P4.of m then g m else cJ (.mk a b c d) (LV f g m) := dg (.mk a b c d) (P4.of m) (g m) (LV f g m)
  rw [e, xF f g a b c d m (by omega)]
  by_cases h : P4.mk a b c d = P4.of m
  ·rw [if_pos h, h, yQ (by omega), if_pos (by omega)]
  ·rw [if_neg h]
   have h1 : pa (.mk a b c d) ≠ m := fun e => h (by rw [← e, CP])
   by_cases h2 : pa (.mk a b c d) < m
   ·rw [if_pos h2, if_pos (by omega)]
   ·rw [if_neg h2, if_neg (by omega)]
theorem RL (a b c d : H) : pa (.mk a b c d) < 65536 := by
 have ha := a.fI
 have hb := b.fI
 have hc := c.fI
 have hd := d.fI
 show a.nat * 4096 + b.nat * 256 + c.nat * 16 + d.nat < 65536
 omega
theorem Et (g : P4 → Obj) : ∃ h : Hp, ∀ q, ag q h = g q := by
 obtain ⟨n, hn⟩ : ∃ n, n = 65536 := ⟨_, rfl⟩
 refine ⟨.mk (LV (fun b o => g (.eN b o)) (fun j => g (P4.of j)) n) (.eN 0 0), fun q => ?_⟩
 cases q with
 | eN b o => exact ou _ _ b o n
 | mk a b c d =>
  have e : ag (.mk a b c d) (.mk (LV (fun b o => g (.eN b o)) (fun j => g (P4.of j)) n) (.eN 0 0)) = _ := xF (fun b o => g (.eN b o)) (fun j => g (P4.of j)) a b c d n (by omega)
  rw [e, if_pos (by rw [hn]; exact RL a b c d), CP]
variable {p : Pg} {h h' h1 : Hp} {r r' : A2} {v x y : AV} {q : P4} {o n m es el : Nat} {l : List AV} {s : RS} {k : AV → Hp → RS}
theorem TR {f : (AV → Hp → RS) → RS} : Seat.gD (.bool true) true f h k = f k := rfl
theorem NY {f : (AV → Hp → RS) → RS} : Seat.gD (.bool false) false f h k = f k := rfl
theorem PS {f : (AV → Hp → RS) → RS} : Seat.gD (.bool false) true f h k = k cn h := rfl
theorem EN {f : (AV → Hp → RS) → RS} : Seat.gD (.bool true) false f h k = k cn h := rfl
theorem CS {a b : AV} : fU (.c (.bool true)) (.c a) (.c b) .nil h = .ok a h := rfl
theorem CT {a b : AV} : fU (.c (.bool false)) (.c a) (.c b) .nil h = .ok b h := rfl
theorem NZ (s : List Nat) (n : Nat) (hn : n ≤ s.length) : gM (.c (.str s)) .none (.some (.c (Seat.pi n))) .nil h = .ok (.str (s.take n)) h := by
 show (@Bool.rec (fun _ => RV) (.err 49) (@Bool.rec (fun _ => RV) (.err 49) (.ok (.str (List.take (Nat.sub n 0) (List.drop 0 s))) h) (Nat.ble n s.length)) (Nat.ble 0 n)) = _
 rw [Nat.ble_eq_true_of_le hn, Nat.ble_eq_true_of_le (Nat.zero_le n)]
 rfl
theorem AN (W : Wf h) (sl : vO x es n q o) {i : Nat} (hi : i < n) (c : Cs h q (o + i * es) l) (hl : l.length = es) {c0 : Cl} (hc : Gd c0) (hr : es ≤ bz c0) :
  ∃ j h', (∀ K : AV → Hp → RS, Seat.X es x (.int .i64 (i : Int)) h (fun g h => Seat.M es g h fun k h => Seat.O el es c0 h fun l h => Seat.S es l k h fun _ h => K l h) = K (.ptr j 0) h') ∧ ag j h = .none ∧ Ob h' j el true .plain l ∧ Old h h' ∧ Wf h' ∧ ∀ k, k ≠ j → ag k h' = ag k h := by
 obtain ⟨j, h1, e1, e2, e3, e4, e5, e6⟩ := lx (el := el) W hc hr
 have hg : (bI es c0 0).length = es := cD es c0 0
 obtain ⟨h2, f1, f2, f3, f4⟩ := gO (k := 0) (m := es) (l' := l) e3 hl (by omega)
 refine ⟨j, h2, fun K => ?_, e2, ?_, fun k hk => ?_, e5.of f4 fun k hk => ?_, fun k hk => ?_⟩
 ·rw [du (ct sl hi), kx (bJ c hl), mK e1, ky f1]
 ·have : (bI es c0 0).take 0 ++ (l ++ (bI es c0 0).drop (0 + es)) = l := by
   rw [List.drop_of_length_le (by omega)]; simp
  rw [this] at f2; exact f2
 ·have : k ≠ j := fun g => by rw [g] at hk; exact hk e2
  rw [f3 k this, e4 k hk]
 ·by_cases g : k = j
  ·rw [g] at hk; exact absurd hk e3.ne
  ·rw [f3 k g]; exact hk
 ·rw [f3 k hk, e6 k hk]
def Os (p : Pg) (l : List GI) (r : A2) (h : Hp) (s : RS) : Prop := Ev fun m => eU p (exec p m) l r h = s
theorem Rn.ops {l : List GI} (e : Os p l r h s) : Rn p (.ops l) r h s := Ev.succ e
theorem Os.nil : Os p [] r h (.nm r h) := .all fun _ => rfl
variable {gs : List GI} {d : bw} {aop : oZ} {f : Nat} {xs : List AO} {a b : H} {w : Bool} {i : AI}
theorem Os.step (e : aop.run r h = .ok v h') (g : Os p gs (cm d v r) h' s) : Os p (.o d (.op aop) :: gs) r h s := g.mono fun m g => by
 show Dg d (eU p (exec p m) gs) r (aop.run r h) = s
 rw [e]; exact g
theorem Os.call (e : Cv p f (fL xs r) h v h') (g : Os p gs (cm d v r) h' s) : Os p (.o d (.call f xs) :: gs) r h s := e.Gx g fun m e g => by
 show stepT d (eU p (exec p m) gs) r (au p (exec p m) f (fL xs r) h) = s
 rw [e]; exact g
theorem Os.on (hb : an a b r = .bool w) (g : Os p (.o d i :: gs) r h s) : Os p (.g a b w d i :: gs) r h s := g.mono fun m g => by
 show AV.bF (gb w (an a b r)) (jJ d (eU p (exec p m) gs) r h i p (exec p m) w) (.err 210) = s
 rw [hb, ← g]
 cases w <;> rfl
theorem Os.off (hb : an a b r = .bool (!w)) (g : Os p gs (cm d cn r) h s) : Os p (.g a b w d i :: gs) r h s := g.mono fun m g => by
 show AV.bF (gb w (an a b r)) (jJ d (eU p (exec p m) gs) r h i p (exec p m) w) (.err 210) = s
 rw [hb, ← g]
 cases w <;> rfl
end
noncomputable section
variable {p : Pg} {h h' : Hp} {r r' : A2} {s : RS} {body x : AC}
theorem Rn.to {k : Cf → Iv → (A2 → Hp → RS) → A2 → Hp → RS} (e : Ev fun m => ∀ K : A2 → Hp → RS, k (au p (exec p m)) (aB p (exec p m)) K r h = K r' h') (g : Rn p x r' h' s) : Rn p (.ah k x) r h s :=
 .ah (e.Gx g fun _ e g => (e _).trans g)
theorem Rn.ef {k : Cf → Iv → (A2 → Hp → RS) → A2 → Hp → RS} (e : ∀ c i (K : A2 → Hp → RS), k c i K r h = K r' h') (g : Rn p x r' h' s) : Rn p (.ah k x) r h s := .to (.all fun _ K => e _ _ K) g
theorem Rn.aR {k : Cf → Iv → (A2 → Hp → RS) → A2 → Hp → RS} (e : ∀ c i (K : A2 → Hp → RS), k c i K r h = s) : Rn p (.ah k x) r h s := .ah (.all fun _ => e _ _ _)
theorem eT (n : Nat) {Inv : Nat → A2 → Hp → Prop} {S : RS → Prop} (step : ∀ i r h, i < n → Inv i r h → (∃ r' h', Rn p body r h (.nm r' h') ∧ Inv (i + 1) r' h') ∨ ∃ s, S s ∧ Rn p (.loop body) r h s)
  (fin : ∀ r h, Inv n r h → ∃ s, S s ∧ Rn p (.loop body) r h s) : ∀ k i r h, i + k = n → Inv i r h → ∃ s, S s ∧ Rn p (.loop body) r h s
 | 0, i, r, h, e, I => by
  rw [show i = n by omega] at I
  exact fin r h I
 | k + 1, i, r, h, e, I => by
  rcases step i r h (by omega) I with ⟨r', h', g, I⟩ | g
  ·obtain ⟨s, hs, g'⟩ := eT n step fin k (i + 1) r' h' (by omega) I
   exact ⟨s, hs, .loop g g'⟩
  ·exact g
theorem Ki (n : Nat) {Inv : Nat → A2 → Hp → Prop} {l : Nat} (step : ∀ i r h, i < n → Inv i r h → ∃ r' h', Rn p body r h (.nm r' h') ∧ Inv (i + 1) r' h')
  (fin : ∀ r h, Inv n r h → Rn p body r h (.ex l r h)) (I : Inv 0 r h) : ∃ r' h', Inv n r' h' ∧ Rn p (.loop body) r h (.ex l r' h') := by
 obtain ⟨s, ⟨r', h', e, I⟩, g⟩ := eT (p := p) (body := body) n (Inv := Inv) (S := fun s => ∃ r' h', s = .ex l r' h' ∧ Inv n r' h') (fun i r h hi I => .inl (step i r h hi I)) (fun r h I => ⟨_, ⟨r, h, rfl, I⟩, .eI (fin r h I)⟩) n 0 r h (by omega) I
 exact ⟨r', h', I, e ▸ g⟩
theorem gv (n : Nat) {Inv : Nat → A2 → Hp → Prop} {l : Nat} {Re : A2} (step : ∀ i r h, i < n → Inv i r h → ∃ r' h', Rn p body r h (.nm r' h') ∧ Inv (i + 1) r' h')
  (fin : ∀ r h, Inv n r h → Rn p body r h (.ex l Re h)) (I : Inv 0 r h) : ∃ r' h', Inv n r' h' ∧ Rn p (.loop body) r h (.ex l Re h') := by
 obtain ⟨s, ⟨r', h', e, I⟩, g⟩ := eT (p := p) (body := body) n (Inv := Inv) (S := fun s => ∃ r' h', s = .ex l Re h' ∧ Inv n r' h') (fun i r h hi I => .inl (step i r h hi I)) (fun r h I => ⟨_, ⟨r, h, rfl, I⟩, .eI (fin r h I)⟩) n 0 r h (by omega) I
 exact ⟨r', h', I, e ▸ g⟩
end
noncomputable section
variable {p : Pg} {h h' h1 h1' h2 h2' g g' : Hp} {r r' : A2} {s : RS} {v v' x : AV} {hs : List Hp}
def Ds (p : Pg) (l : List DI) (r : A2) (h g : Hp) (hs : List Hp) (s : RS) : Prop := Ev fun m => dI p (exec p m) l r h g hs = s
theorem Rn.qv {l : List DI} (e : Ds p l r h h [] s) : Rn p (.qv l) r h s := Ev.succ e
theorem Ds.nil : Ds p [] r h g hs (.nm r h) := .all fun _ => rfl
variable {l : List DI} {d : bw} {aop : oZ} {f : Nat} {xs : List AO} {a b : H} {w : Bool} {i : AI} {bk : Bk}
theorem yV : ∀ hs : List Hp, fB aop r v hs 0 = true
 | [] => rfl
 | _ :: _ => rfl
theorem Ds.bV (e : aop.run r g = .ok v g') (k : Ds p l (cm d v r) h g hs s) : Ds p (.mk (.rd 0) (.o d (.op aop)) :: l) r h g hs s := k.mono fun m k => by
 show zk d aop 0 (dI p (exec p m) l) r h g hs (aop.run r g) = s
 rw [e]
 show (@Bool.rec (fun _ => RS) (.err 211) (dI p (exec p m) l (cm d v r) h g hs) (fB aop r v hs 0)) = s
 rw [yV]; exact k
theorem Ds.Sq (e : aop.run r g = .ok v g') (e1 : aop.run r h1 = .ok v h1') (sv : same v v = true) (k : Ds p l (cm d v r) h g (h1 :: hs) s) : Ds p (.mk (.rd 1) (.o d (.op aop)) :: l) r h g (h1 :: hs) s := k.mono fun m k => by
 show zk d aop 1 (dI p (exec p m) l) r h g (h1 :: hs) (aop.run r g) = s
 rw [e]
 show (@Bool.rec (fun _ => RS) (.err 211) (dI p (exec p m) l (cm d v r) h g (h1 :: hs)) (@RV.rec (fun _ => Bool) (fun v' _ => @Bool.rec (fun _ => Bool) false (fB aop r v hs 0) (same v v')) (fun _ => false) (aop.run r h1))) = s
 rw [e1]
 show (@Bool.rec (fun _ => RS) (.err 211) (dI p (exec p m) l (cm d v r) h g (h1 :: hs)) (@Bool.rec (fun _ => Bool) false (fB aop r v hs 0) (same v v))) = s
 rw [sv, yV]; exact k
theorem Ds.Ug (e : aop.run r g = .ok v g') (e1 : aop.run r h1 = .ok v h1') (e2 : aop.run r h2 = .ok v h2') (sv : same v v = true) (k : Ds p l (cm d v r) h g (h1 :: h2 :: hs) s) : Ds p (.mk (.rd 2) (.o d (.op aop)) :: l) r h g (h1 :: h2 :: hs) s := k.mono fun m k => by
 show zk d aop 2 (dI p (exec p m) l) r h g (h1 :: h2 :: hs) (aop.run r g) = s
 rw [e]
 show (@Bool.rec (fun _ => RS) (.err 211) (dI p (exec p m) l (cm d v r) h g (h1 :: h2 :: hs)) (@RV.rec (fun _ => Bool) (fun v' _ => @Bool.rec (fun _ => Bool) false (@RV.rec (fun _ => Bool) (fun v' _ => @Bool.rec (fun _ => Bool) false (fB aop r v hs 0) (same v v')) (fun _ => false) (aop.run r h2)) (same v v')) (fun _ => false) (aop.run r h1))) = s
 rw [e1, e2]
 show (@Bool.rec (fun _ => RS) (.err 211) (dI p (exec p m) l (cm d v r) h g (h1 :: h2 :: hs)) (@Bool.rec (fun _ => Bool) false (@Bool.rec (fun _ => Bool) false (fB aop r v hs 0) (same v v)) (same v v))) = s
 rw [sv, yV]; exact k
theorem Ds.call (e : Cv p f (fL xs r) h v h') (k : Ds p l (cm d v r) h' h' (g :: hs) s) : Ds p (.mk .dZ (.o d (.call f xs)) :: l) r h g hs s := e.Gx k fun m e k => by
 show nH d (dI p (exec p m) l) r g hs (au p (exec p m) f (fL xs r) h) = s
 rw [e]; exact k
theorem Ds.on (hb : an a b r = .bool w) (k : Ds p (.mk bk (.o d i) :: l) r h g hs s) : Ds p (.mk bk (.g a b w d i) :: l) r h g hs s := k.mono fun m k => by
 show AV.bF (gb w (an a b r)) (FT bk d i (dI p (exec p m) l) r h g hs p (exec p m) w) (.err 212) = s
 rw [hb, ← k]
 cases w <;> rfl
theorem Ds.dy {n : Nat} (hb : an a b r = .bool (!w)) (k : Ds p l (cm d cn r) h g hs s) : Ds p (.mk (.rd n) (.g a b w d i) :: l) r h g hs s := k.mono fun m k => by
 show AV.bF (gb w (an a b r)) (FT (.rd n) d i (dI p (exec p m) l) r h g hs p (exec p m) w) (.err 212) = s
 rw [hb, ← k]
 cases w <;> rfl
theorem Ds.RC (hb : an a b r = .bool (!w)) (k : Ds p l (cm d cn r) h h (g :: hs) s) : Ds p (.mk .dZ (.g a b w d i) :: l) r h g hs s := k.mono fun m k => by
 show AV.bF (gb w (an a b r)) (FT .dZ d i (dI p (exec p m) l) r h g hs p (exec p m) w) (.err 212) = s
 rw [hb, ← k]
 cases w <;> rfl
theorem vy (q : P4) : qw q q = true := jl.2 rfl
theorem GA (q : P4) (o : Nat) : lG (.ptr q o) (.ptr q o) = true := by
 show (Bool.and (qw q q) (Nat.beq o o)) = true
 rw [Nat.beq_refl, vy]; rfl
theorem rE (k : IntKind) (n : Int) : lG (.int k n) (.int k n) = true := by
 show (@Bool.rec (fun _ => Bool) false (ub n n) (mc k k)) = true
 rw [Bg, gK, decide_eq_true rfl]
theorem rF (s : List Nat) : lG (.str s) (.str s) = true := by
 show iw s s = true
 rw [iy, decide_eq_true rfl]
theorem mL {es n : Nat} {q : P4} {o : Nat} (sl : vO x es n q o) : lG x x = true := by
 rcases sl with ⟨cap, rfl⟩ | rfl | ⟨rfl, _⟩
 ·show (Bool.and (qw q q) (Bool.and (Nat.beq o o) (Bool.and (Nat.beq n n) (Nat.beq cap cap)))) = true
  simp only [Nat.beq_refl, vy]; rfl
 ·show (Bool.and (qw q q) (Bool.and (Nat.beq o o) (Bool.and (Nat.beq n n) (Nat.beq es es)))) = true
  simp only [Nat.beq_refl, vy]; rfl
 ·rfl
theorem La (q : P4) (o : Nat) : same (.ptr q o) (.ptr q o) = true := GA q o
theorem vf (s : List Nat) : same (.str s) (.str s) = true := rF s
theorem vA : ∀ {l : List AV}, (∀ v, v ∈ l → lG v v = true) → rQ l l = true
 | [], _ => rfl
 | v :: l, g => by
  show (@Bool.rec (fun _ => Bool) false (rQ l l) (lG v v)) = true
  rw [g v (by simp), vA fun w hw => g w (by simp [hw])]
theorem Ks {l : List AV} (g : ∀ v, v ∈ l → lG v v = true) : same (.agg l) (.agg l) = true := by
 show rQ l l = true
 exact vA g
end
end Go.Am
namespace Go.Cod
abbrev Bs := List UInt8
def le : Nat → Nat → Bs
 | 0, _ => []
 | k + 1, n => UInt8.ofNat n :: le k (n / 256)
def un : Bs → Nat
 | [] => 0
 | b :: l => b.toNat + 256 * un l
theorem bT : ∀ k n, (le k n).length = k
 | 0, _ => rfl
 | k + 1, n => by simp [le, bT k]
theorem PT : ∀ k n, un (le k n) = n % 256 ^ k
 | 0, n => by simp [le, un, Nat.mod_one]
 | k + 1, n => by
  have h : (UInt8.ofNat n).toNat = n % 256 := by simp
  rw [le, un, PT k, h, Nat.pow_succ, Nat.mul_comm (256 ^ k) 256, Nat.mod_mul]
theorem Lc : ∀ l, un l < 256 ^ l.length
 | [] => by simp [un]
 | b :: l => by
  have h := Lc l
  have hb := b.toNat_lt
  simp only [un, List.length_cons, Nat.pow_succ]
  omega
def u64 (n : Int) : Nat := (n % 18446744073709551616).toNat
def s64 (n : Nat) : Int := if n < 9223372036854775808 then n else (n : Int) - 18446744073709551616
theorem Oa {n : Int} (h0 : -9223372036854775808 ≤ n) (h1 : n ≤ 9223372036854775807) : s64 (u64 n) = n := by
 unfold s64 u64
 split <;> omega
def vB (n : Int) : Bs := le 8 (u64 n)
def text (s : Bs) : Bs := le 2 s.length ++ s
abbrev Rd := Option Bs
def take (k : Nat) : Rd → Bs × Rd
 | none => ([], none)
 | some l => if l.length < k then ([], none) else (l.take k, some (l.drop k))
def get (k : Nat) (r : Rd) : Nat × Rd := (un (take k r).1, (take k r).2)
def bR (r : Rd) : Int × Rd := (s64 (get 8 r).1, (get 8 r).2)
def bW (r : Rd) : Nat × Rd := get 1 r
def bu (most : Nat) (r : Rd) : Bs × Rd :=
 let (n, r) := get 2 r
 match r with
 | none => ([], none)
 | some l => if n > most then ([], none) else take n (some l)
theorem Bh {a l : Bs} : take a.length (some (a ++ l)) = (a, some l) := by
 unfold take
 simp
theorem GB {a l : Bs} {k : Nat} (h : a.length = k) : take k (some (a ++ l)) = (a, some l) := h ▸ Bh
theorem CU (k n : Nat) (l : Bs) (h : n < 256 ^ k) : get k (some (le k n ++ l)) = (n, some l) := by
 unfold get
 rw [GB (bT k n)]
 simp only [PT, Nat.mod_eq_of_lt h]
theorem gh {n : Int} (l : Bs) (h0 : -9223372036854775808 ≤ n) (h1 : n ≤ 9223372036854775807) : bR (some (vB n ++ l)) = (n, some l) := by
 unfold bR vB
 have hu : u64 n < 256 ^ 8 := by unfold u64; omega
 rw [CU 8 _ l hu]
 simp only [Oa h0 h1]
theorem mT {n : Nat} (l : Bs) (h : n ≤ 255) : bW (some (le 1 n ++ l)) = (n, some l) := CU 1 n l (by omega)
theorem iT {s : Bs} {most : Nat} (l : Bs) (h : s.length ≤ most) (hm : s.length ≤ 65535) : bu most (some (text s ++ l)) = (s, some l) := by
 unfold bu text
 rw [List.append_assoc, CU 2 _ _ (by omega)]
 simp only
 rw [if_neg (by omega), Bh]
structure lQ where
 kind : Int
 n : Int
 s : Bs
deriving DecidableEq
structure nu where
 table : Bs
 row : List lQ
 remove : Bool
deriving DecidableEq
structure jA where
 aK : Int
 seq : Int
 kind : Int
 name : Bs
 text : Bs
 bP : List (Bs × Int)
 changes : List nu
deriving DecidableEq
def small (n : Int) : Bool := decide (-2147483648 ≤ n) && decide (n ≤ 2147483647)
def short (s : Bs) : Bool := decide (s.length ≤ 65535)
def dL (n : Int) : Prop := -9223372036854775808 ≤ n ∧ n ≤ 9223372036854775807
def eZ (v : lQ) : Bool := small v.kind && short v.s
def iU (c : nu) : Bool := short c.table && decide (c.row.length ≤ 255) && c.row.all eZ
def takes (e : jA) : Bool := small e.aK && small e.seq && small e.kind && short e.name && short e.text && decide (e.bP.length ≤ 255) && decide (e.changes.length ≤ 255) &&
 e.bP.all (fun c => short c.1 && small c.2) && e.changes.all iU
def mO (v : lQ) : Bs := vB v.kind ++ vB v.n ++ Cod.text v.s
def mN (c : nu) : Bs := Cod.text c.table ++ le 1 c.row.length ++ c.row.flatMap mO ++ le 1 (if c.remove then 1 else 0)
def mM (c : Bs × Int) : Bs := Cod.text c.1 ++ vB c.2
def enc (e : jA) : Bs := vB e.aK ++ vB e.seq ++ vB e.kind ++ Cod.text e.name ++ Cod.text e.text ++ le 1 e.bP.length ++ e.bP.flatMap mM ++ le 1 e.changes.length ++ e.changes.flatMap mN
def many {α : Type} (f : Rd → α × Rd) : Nat → Rd → List α × Rd
 | 0, r => ([], r)
 | k + 1, r => let (a, r1) := f r; let (l, r2) := many f k r1; (a :: l, r2)
def lA (r : Rd) : lQ × Rd :=
 let (k, r) := bR r; let (n, r) := bR r; let (s, r) := bu 65535 r
 (⟨k, n, s⟩, r)
def mU (r : Rd) : nu × Rd :=
 let (t, r) := bu 65535 r; let (k, r) := bW r; let (row, r) := many lA k r; let (b, r) := bW r
 (⟨t, row, decide (0 < b)⟩, r)
def vC (r : Rd) : (Bs × Int) × Rd := let (t, r) := bu 65535 r; let (k, r) := bR r; ((t, k), r)
def CV (r : Rd) : jA × Rd :=
 let (c, r) := bR r; let (s, r) := bR r; let (k, r) := bR r; let (n, r) := bu 65535 r; let (t, r) := bu 65535 r
 let (a, r) := bW r; let (bP, r) := many vC a r; let (b, r) := bW r; let (ch, r) := many mU b r
 (⟨c, s, k, n, t, bP, ch⟩, r)
def dec (b : Bs) : Option jA :=
 let (e, r) := CV (some b)
 if r = some [] ∧ takes e = true ∧ enc e = b then some e else none
theorem nD {α : Type} {f : Rd → α × Rd} {g : α → Bs} : ∀ (l : List α) (r : Bs), (∀ a, a ∈ l → ∀ r, f (some (g a ++ r)) = (a, some r)) → many f l.length (some (l.flatMap g ++ r)) = (l, some r)
 | [], r, _ => rfl
 | a :: l, r, h => by
  have e : (a :: l).flatMap g ++ r = g a ++ (l.flatMap g ++ r) := by simp
  rw [e]
  show (let (a, r1) := f _; let (l, r2) := many f l.length r1; (a :: l, r2)) = _
  rw [h a (by simp)]
  simp only
  rw [nD l r fun b hb => h b (by simp [hb])]
theorem kz {n : Int} (h : small n = true) : -9223372036854775808 ≤ n ∧ n ≤ 9223372036854775807 := by
 unfold small at h
 simp only [Bool.and_eq_true, decide_eq_true_eq] at h
 omega
def fits (e : jA) : Prop := ∀ c, c ∈ e.changes → ∀ v, v ∈ c.row → dL v.n
theorem Lf {v : lQ} (h : eZ v = true) (hn : dL v.n) (r : Bs) : lA (some (mO v ++ r)) = (v, some r) := by
 unfold eZ short at h
 simp only [Bool.and_eq_true, decide_eq_true_eq] at h
 have hk := kz h.1
 unfold lA mO
 simp only [List.append_assoc]
 rw [gh _ hk.1 hk.2]
 simp only
 rw [gh _ hn.1 hn.2]
 simp only
 rw [iT _ h.2 h.2]
theorem Lg {c : nu} (h : iU c = true) (hn : ∀ v, v ∈ c.row → dL v.n) (r : Bs) : mU (some (mN c ++ r)) = (c, some r) := by
 unfold iU short at h
 simp only [Bool.and_eq_true, decide_eq_true_eq, List.all_eq_true] at h
 obtain ⟨⟨h1, h2⟩, h3⟩ := h
 unfold mU mN
 simp only [List.append_assoc]
 rw [iT _ h1 h1]
 simp only
 rw [mT _ h2]
 simp only
 rw [nD c.row _ fun v hv r => Lf (h3 v hv) (hn v hv) r]
 simp only
 cases hc : c.remove
 ·rw [if_neg (by simp), mT _ (by omega)]
  cases c; simp_all
 ·rw [if_pos rfl, mT _ (by omega)]
  cases c; simp_all
theorem Lh {c : Bs × Int} (h : short c.1 = true) (hk : small c.2 = true) (r : Bs) : vC (some (mM c ++ r)) = (c, some r) := by
 unfold short at h
 simp only [decide_eq_true_eq] at h
 have hk := kz hk
 unfold vC mM
 simp only [List.append_assoc]
 rw [iT _ h h]
 simp only
 rw [gh _ hk.1 hk.2]
theorem Li {e : jA} (h : takes e = true) (hf : fits e) (r : Bs) : CV (some (enc e ++ r)) = (e, some r) := by
 unfold takes short at h
 simp only [Bool.and_eq_true, decide_eq_true_eq, List.all_eq_true] at h
 obtain ⟨⟨⟨⟨⟨⟨⟨⟨h1, h2⟩, h3⟩, h4⟩, h5⟩, h6⟩, h7⟩, h8⟩, h9⟩ := h
 have h1 := kz h1
 have h2 := kz h2
 have h3 := kz h3
 unfold CV enc
 simp only [List.append_assoc]
 rw [gh _ h1.1 h1.2]
 simp only
 rw [gh _ h2.1 h2.2]
 simp only
 rw [gh _ h3.1 h3.2]
 simp only
 rw [iT _ h4 h4]
 simp only
 rw [iT _ h5 h5]
 simp only
 rw [mT _ h6]
 simp only
 rw [nD e.bP _ fun c hc r => Lh (by unfold short; simpa using (h8 c hc).1) (h8 c hc).2 r]
 simp only
 rw [mT _ h7]
 simp only
 rw [nD e.changes _ fun c hc r => Lg (h9 c hc) (hf c hc) r]
theorem yM {e : jA} (h : takes e = true) (hf : fits e) : dec (enc e) = some e := by
 unfold dec
 have := Li h hf []
 rw [List.append_nil] at this
 rw [this]
 simp [h]
theorem CE {b : Bs} {e : jA} (h : dec b = some e) : enc e = b ∧ takes e = true := by
 unfold dec at h
 simp only at h
 split at h
 ·rename_i hc
  cases h
  exact ⟨hc.2.2, hc.2.1⟩
 ·cases h
theorem NC {e o : jA} (he : takes e = true) (hf : fits e) (ho : takes o = true) (hg : fits o) : enc e = enc o ↔ e = o :=
 ⟨fun h => by have := yM he hf; rw [h, yM ho hg] at this; exact (Option.some.inj this).symm, fun h => by rw [h]⟩
theorem Kw {e : jA} : enc e ≠ [] := by
 intro h
 have : (enc e).length = 0 := by rw [h]; rfl
 unfold enc vB at this
 simp only [List.length_append, bT] at this
 omega
end Go.Cod
namespace Go.Cod
structure So where
 kind : Nat
 aK : Int
 node : Int
 n : Int
 name : Bs
 entry : jA
deriving DecidableEq
end Go.Cod
namespace Go.Cod
structure Sp where
 kind : Int
 aK : Int
 node : Int
 n : Int
 name : Bs
 entry : jA
deriving DecidableEq
def gZ (k : Int) : Int := if k < -1000 ∨ 1000 < k then 0 else k
def sK (v : lQ) : lQ := ⟨gZ v.kind, v.n, v.s.take 41⟩
def mJ (c : nu) : nu := ⟨c.table.take 20, (c.row.take 7).map sK, c.remove⟩
def aL (e : jA) : jA := ⟨e.aK, e.seq, e.kind, e.name.take 20, e.text.take 700, ((e.bP.take 8).takeWhile fun c => decide (c.1.length ≤ 20)).map fun c => (c.1, gZ c.2), (e.changes.take 9).map mJ⟩
theorem oV (k : Int) : small (gZ k) = true := by
 unfold gZ small
 split <;> simp <;> omega
theorem CW (v : lQ) : eZ (sK v) = true := by
 unfold eZ sK short
 simp only [oV, List.length_take, Bool.true_and, decide_eq_true_eq]
 omega
theorem CC (c : nu) : iU (mJ c) = true := by
 unfold iU mJ short
 simp only [List.length_take, List.length_map, Bool.and_eq_true, decide_eq_true_eq, List.all_eq_true, List.mem_map]
 refine ⟨⟨by omega, by omega⟩, ?_⟩
 rintro v ⟨x, _, rfl⟩
 exact CW x
theorem jN {α : Type} {p : α → Bool} : ∀ {l : List α} {a : α}, a ∈ l.takeWhile p → p a = true
 | [], _, h => by simp at h
 | b :: l, a, h => by
  rw [List.takeWhile_cons] at h
  split at h
  ·rename_i hb
   rcases List.mem_cons.1 h with rfl | h
   ·exact hb
   ·exact jN h
  ·simp at h
theorem aQ (n : Int) : (vB n).length = 8 := bT 8 _
theorem aN (s : Bs) : (Cod.text s).length = 2 + s.length := by unfold Cod.text; simp [bT]
theorem yL {α : Type} {f : α → Bs} {k : Nat} : ∀ {l : List α}, (∀ a, a ∈ l → (f a).length ≤ k) → (l.flatMap f).length ≤ l.length * k
 | [], _ => by simp
 | a :: l, h => by
  have h1 := h a (by simp)
  have h2 := yL (l := l) fun b hb => h b (by simp [hb])
  simp only [List.flatMap_cons, List.length_append, List.length_cons, Nat.add_mul]
  omega
end Go.Cod
namespace Go.Cod
def GJ {α : Type} (f : Rd → α × Rd) (g : α → Nat) : Prop := ∀ r a l', f r = (a, some l') → ∃ l, r = some l ∧ g a + l'.length = l.length
theorem GJ.at {α : Type} {f : Rd → α × Rd} {g : α → Nat} (c : GJ f g) {r : Rd} {l' : Bs} (h : (f r).2 = some l') : ∃ l, r = some l ∧ g (f r).1 + l'.length = l.length := c r (f r).1 l' (Prod.ext rfl h)
theorem Bi (k : Nat) (r : Rd) (a : Bs) (l' : Bs) (h : take k r = (a, some l')) : ∃ l, r = some l ∧ a.length = k ∧ k + l'.length = l.length := by
 unfold take at h
 cases r with
 | none => cases h
 | some l =>
  simp only at h
  split at h
  ·cases h
  ·rename_i hk
   cases h
   exact ⟨l, rfl, by simp; omega, by simp; omega⟩
theorem yW (k : Nat) : GJ (get k) fun _ => k := fun r a l' h => by
 have h : ((un (take k r).1, (take k r).2) : Nat × Rd) = (a, some l') := h
 obtain ⟨l, e, _, n⟩ := Bi k r (take k r).1 l' (Prod.ext rfl (show (take k r).2 = some l' from congrArg Prod.snd h))
 exact ⟨l, e, n⟩
theorem kF : GJ bR fun _ => 8 := fun r a l' h => yW 8 r (get 8 r).1 l' (Prod.ext rfl (show (get 8 r).2 = some l' from congrArg Prod.snd h))
theorem qk : GJ bW fun _ => 1 := yW 1
theorem mV (most : Nat) : GJ (bu most) fun s => 2 + s.length := fun r a l' h => by
 unfold bu at h
 cases hg : get 2 r with
 | mk n r1 =>
  rw [hg] at h
  cases r1 with
  | none => cases h
  | some l1 =>
   simp only at h
   split at h
   ·cases h
   ·obtain ⟨l2, e2, n1, n2⟩ := Bi n _ _ _ h
    cases e2
    obtain ⟨l, e, n3⟩ := yW 2 r n l1 hg
    exact ⟨l, e, by simp only at n3 ⊢; omega⟩
theorem qm {α : Type} {f : Rd → α × Rd} {g : α → Bs} (c : GJ f fun a => (g a).length) : ∀ k, GJ (many f k) fun l => (l.flatMap g).length
 | 0, r, a, l', h => by cases h; exact ⟨l', rfl, by simp⟩
 | k + 1, r, a, l', h => by
  have h2 : (many f k (f r).2).2 = some l' := congrArg Prod.snd h
  have h1 : a = (f r).1 :: (many f k (f r).2).1 := (congrArg Prod.fst h).symm
  obtain ⟨l1, e1, n1⟩ := (qm c k).at h2
  obtain ⟨l, e, n⟩ := c.at e1
  refine ⟨l, e, ?_⟩
  subst h1
  simp only [List.flatMap_cons, List.length_append] at n1 n ⊢
  omega
theorem Oe : GJ lA fun v => (mO v).length := fun r v l' h => by
 have h2 : (bu 65535 (bR (bR r).2).2).2 = some l' := congrArg Prod.snd h
 have h1 : v = ⟨(bR r).1, (bR (bR r).2).1, (bu 65535 (bR (bR r).2).2).1⟩ := (congrArg Prod.fst h).symm
 obtain ⟨l3, e3, n3⟩ := (mV 65535).at h2
 obtain ⟨l2, e2, n2⟩ := kF.at e3
 obtain ⟨l1, e1, n1⟩ := kF.at e2
 refine ⟨l1, e1, ?_⟩
 subst h1
 unfold mO
 simp only at *
 simp only [List.length_append, aQ, aN]
 omega
theorem Og : GJ vC fun c => (mM c).length := fun r c l' h => by
 have h2 : (bR (bu 65535 r).2).2 = some l' := congrArg Prod.snd h
 have h1 : c = ((bu 65535 r).1, (bR (bu 65535 r).2).1) := (congrArg Prod.fst h).symm
 obtain ⟨l2, e2, n2⟩ := kF.at h2
 obtain ⟨l1, e1, n1⟩ := (mV 65535).at e2
 refine ⟨l1, e1, ?_⟩
 subst h1
 unfold mM
 simp only at *
 simp only [List.length_append, aQ, aN]
 omega
theorem Oh : GJ mU fun c => (mN c).length := fun r c l' h => by
 have h2 : (bW (many lA (bW (bu 65535 r).2).1 (bW (bu 65535 r).2).2).2).2 = some l' := congrArg Prod.snd h
 have h1 : c = ⟨(bu 65535 r).1, (many lA (bW (bu 65535 r).2).1 (bW (bu 65535 r).2).2).1, decide (0 < (bW (many lA (bW (bu 65535 r).2).1 (bW (bu 65535 r).2).2).2).1)⟩ := (congrArg Prod.fst h).symm
 obtain ⟨l4, e4, n4⟩ := qk.at h2
 obtain ⟨l3, e3, n3⟩ := (qm Oe _).at e4
 obtain ⟨l2, e2, n2⟩ := qk.at e3
 obtain ⟨l1, e1, n1⟩ := (mV 65535).at e2
 refine ⟨l1, e1, ?_⟩
 subst h1
 unfold mN
 simp only at *
 simp only [List.length_append, aN, bT]
 omega
theorem yX (r : Rd) : CV r = let r1 := bR r; let r2 := bR r1.2; let r3 := bR r2.2; let r4 := bu 65535 r3.2; let r5 := bu 65535 r4.2; let r6 := bW r5.2; let r7 := many vC r6.1 r6.2; let r8 := bW r7.2; let r9 := many mU r8.1 r8.2
  (⟨r1.1, r2.1, r3.1, r4.1, r5.1, r7.1, r9.1⟩, r9.2) := rfl
theorem Oi : GJ CV fun e => (enc e).length := fun r e l' h => by
 rw [yX] at h
 have h1 := (congrArg Prod.fst h).symm
 have h2 := congrArg Prod.snd h
 simp only at h1 h2
 obtain ⟨l9, e9, n9⟩ := (qm Oh _).at h2
 obtain ⟨l8, e8, n8⟩ := qk.at e9
 obtain ⟨l7, e7, n7⟩ := (qm Og _).at e8
 obtain ⟨l6, e6, n6⟩ := qk.at e7
 obtain ⟨l5, e5, n5⟩ := (mV 65535).at e6
 obtain ⟨l4, e4, n4⟩ := (mV 65535).at e5
 obtain ⟨l3, e3, n3⟩ := kF.at e4
 obtain ⟨l2, e2, n2⟩ := kF.at e3
 obtain ⟨l1, e1, n1⟩ := kF.at e2
 refine ⟨l1, e1, ?_⟩
 subst h1
 unfold enc
 simp only [List.length_append, aQ, aN, bT]
 omega
theorem RM {n : Nat} (h : n < 18446744073709551616) : dL (s64 n) := by
 unfold s64 dL
 split <;> omega
theorem vD (k : Nat) (r : Rd) : (take k r).1.length ≤ k := by
 unfold take
 cases r with
 | none => simp
 | some l =>
  simp only
  split
  ·simp
  ·simp; omega
theorem gQ (k : Nat) (r : Rd) : (get k r).1 < 256 ^ k := by
 unfold get
 exact Nat.lt_of_lt_of_le (Lc _) (Nat.pow_le_pow_right (by omega) (vD k r))
theorem nE (r : Rd) : dL (bR r).1 := RM (gQ 8 r)
theorem qn (most : Nat) (r : Rd) : (bu most r).1.length ≤ 65535 := by
 unfold bu
 have hl := gQ 2 r
 cases hg : get 2 r with
 | mk n r1 =>
  rw [hg] at hl
  cases r1 with
  | none => simp
  | some l =>
   simp only
   split
   ·simp
   ·have := vD n (some l)
    simp only at hl
    omega
theorem qo {α : Type} {f : Rd → α × Rd} {P : α → Prop} (g : ∀ r, P (f r).1) : ∀ (k : Nat) (r : Rd) (a : α), a ∈ (many f k r).1 → P a
 | 0, _, _, h => by cases h
 | k + 1, r, a, h => by
  have h : a ∈ (f r).1 :: (many f k (f r).2).1 := h
  rcases List.mem_cons.1 h with rfl | h
  ·exact g r
  ·exact qo g k _ a h
theorem iV {α : Type} {f : Rd → α × Rd} : ∀ (i : Nat) (r : Rd), (many f i r).1.length = i
 | 0, _ => rfl
 | i + 1, r => by
  show (many f i (f r).2).1.length + 1 = _
  rw [iV i]
theorem qp {α : Type} {f : Rd → α × Rd} : ∀ (i : Nat) (r : Rd), many f (i + 1) r = ((many f i r).1 ++ [(f (many f i r).2).1], (f (many f i r).2).2)
 | 0, r => rfl
 | i + 1, r => by
  have e := qp (f := f) i (f r).2
  show ((f r).1 :: (many f (i + 1) (f r).2).1, (many f (i + 1) (f r).2).2) = _
  rw [e]; rfl
end Go.Cod
namespace Go.Am
open Go.Cod
noncomputable section
def dt {α : Type} (h : Hp) (es : Nat) (f : List AV → α → Prop) (x : AV) (xs : List α) : Prop :=
 ∃ q o, ((∃ cap, xs.length ≤ cap ∧ x = .slice q o xs.length cap) ∨ x = .fq q o xs.length es ∨ (x = .ar ∧ xs = [])) ∧ ∀ i (hi : i < xs.length), ∃ l, l.length = es ∧ Cs h q (o + i * es) l ∧ f l xs[i]
abbrev bB (s : Bs) : AV := .str (s.map UInt8.toNat)
abbrev i64 (n : Int) : AV := .int .i64 n
def jc (v : lQ) : List AV := [i64 v.kind, i64 v.n, bB v.s]
def dP (h : Hp) (x : AV) (r : List lQ) : Prop := dt h 3 (fun l v => l = jc v) x r
def vP (x : AV) (c : nu) : List AV := [bB c.table, x, .bool c.remove]
def gE (h : Hp) (l : List AV) (c : nu) : Prop := ∃ x, l = vP x c ∧ dP h x c.row
def aZ (h : Hp) (x : AV) (l : List nu) : Prop := dt h 3 (gE h) x l
def aO (h : Hp) (x : AV) (l : List (Bs × Int)) : Prop := dt h 2 (fun l c => l = [bB c.1, i64 c.2]) x l
def cZ (x y : AV) (e : jA) : List AV := [i64 e.aK, i64 e.seq, i64 e.kind, bB e.name, bB e.text, x, y]
def eE (h : Hp) (l : List AV) (e : jA) : Prop := ∃ x y, l = cZ x y e ∧ aO h x e.bP ∧ aZ h y e.changes
def UJ (x y : AV) (s : Sp) : List AV := [i64 s.kind, i64 s.aK, i64 s.node, i64 s.n, bB s.name] ++ cZ x y s.entry
def si (h : Hp) (l : List AV) (s : Sp) : Prop := ∃ x y, l = UJ x y s ∧ aO h x s.entry.bP ∧ aZ h y s.entry.changes
def Ry (h : Hp) (x : AV) (l : List Sp) : Prop := dt h 12 (si h) x l
def fi (P : Program) (t : TypeId) : Option (List TypeId) := match P.underlying t with
 | some (.struct fs) => some (fs.toList.map (·.type))
 | _ => none
def ik (P : Program) (t : TypeId) : Option (TypeId × Nat) := match P.underlying t with
 | some (.slice e) => some (e, P.cellsOf e)
 | _ => none
section
variable {H : Type} {P : Program} {h : Hp} {rec : TypeId → List AV → DataW H → Prop} {t : TypeId} {cs : List AV} {d : DataW H}
inductive GK (rec : TypeId → List AV → DataW H → Prop) : List TypeId → List (List AV) → List (DataW H) → Prop
 | nil : GK rec [] [] []
 | cons (t : TypeId) (l : List AV) (p : DataW H) (ts : List TypeId) (ls : List (List AV)) (ps : List (DataW H)) : rec t l p → GK rec ts ls ps → GK rec (t :: ts) (l :: ls) (p :: ps)
theorem GK.of : ∀ {ts : List TypeId} {ls : List (List AV)} {ps : List (DataW H)}, ls.length = ts.length → ps.length = ts.length → (∀ (i : Nat) (t : TypeId), ts[i]? = some t → ∃ l p, ls[i]? = some l ∧ ps[i]? = some p ∧ rec t l p) → GK rec ts ls ps
 | [], [], [], _, _, _ => .nil
 | t :: ts, l :: ls, p :: ps, h1, h2, g => by
  obtain ⟨l', p', e1, e2, e3⟩ := g 0 t rfl
  simp at e1 e2
  subst e1 e2
  exact .cons t l p ts ls ps e3 (GK.of (by simpa using h1) (by simpa using h2) fun i u hu => by simpa using g (i + 1) u (by simpa using hu))
 | [], _ :: _, _, h1, _, _ => by simp at h1
 | [], [], _ :: _, _, h2, _ => by simp at h2
 | _ :: _, [], _, h1, _, _ => by simp at h1
 | _ :: _, _ :: _, [], _, h2, _ => by simp at h2
theorem GK.inv {ts : List TypeId} {ls : List (List AV)} {ps : List (DataW H)} (a : GK rec (t :: ts) ls ps) : ∃ l ls' p ps', ls = l :: ls' ∧ ps = p :: ps' ∧ rec t l p ∧ GK rec ts ls' ps' := by
 cases a with | cons _ l p _ ls ps h1 h2 => exact ⟨l, ls, p, ps, rfl, rfl, h1, h2⟩
theorem GK.none {ls : List (List AV)} {ps : List (DataW H)} (a : GK rec [] ls ps) : ls = [] ∧ ps = [] := by cases a; exact ⟨rfl, rfl⟩
theorem gP.struct {ts : List TypeId} (hs : fi P t = some ts) (r : gP P h rec t cs d) : ∃ ls ps, cs = ls.flatten ∧ d = .agg ps ∧ GK rec ts ls ps := by
 unfold fi at hs
 unfold gP at r
 split at hs
 ·rename_i fs hu
  rw [hu] at r
  obtain ⟨ps, ls, e1, e2, e3, e4, g⟩ := r
  cases hs
  refine ⟨ls, ps, e1, e2, .of (by simp [e4]) (by simp [e3]) fun i t ht => ?_⟩
  simp only [List.getElem?_map, Option.map_eq_some_iff] at ht
  obtain ⟨f, hf, rfl⟩ := ht
  obtain ⟨l, p, a, b, _, c⟩ := g i f (by simpa using hf)
  exact ⟨l, p, a, b, c⟩
 ·cases hs
theorem gP.int {k : IntKind} (hu : P.underlying t = some (.int k)) (r : gP P h rec t cs d) : ∃ z, cs = [.int k z] ∧ d = .lit (.int k z) ∧ (Lit.int k z).wf = true := by
 unfold gP at r
 rw [hu] at r
 exact r
theorem gP.str (hu : P.underlying t = some .string) (r : gP P h rec t cs d) : ∃ s : List UInt8, cs = [bB s] ∧ d = .lit (.string s) := by
 unfold gP at r
 rw [hu] at r
 exact r
theorem gP.bool (hu : P.underlying t = some .bool) (r : gP P h rec t cs d) : ∃ b, cs = [.bool b] ∧ d = .lit (.bool b) := by
 unfold gP at r
 rw [hu] at r
 exact r
structure mu (bk : DataW H → Nat) (bkA : List (DataW H) → Nat) : Prop where
 str : ∀ b, bk (.lit (.string b)) = b.length + 1
 slice : ∀ e s, bk (.slice e s) = bkA e + bkA s + 1
 agg : ∀ p, bk (.agg p) = bkA p + 1
 nil : bkA [] = 0
 cons : ∀ d r, bkA (d :: r) = bk d + bkA r
 pos : ∀ d, 1 ≤ bk d
variable {bk : DataW H → Nat} {bkA : List (DataW H) → Nat}
theorem mu.len (K : mu bk bkA) : ∀ l : List (DataW H), l.length ≤ bkA l
 | [] => by simp
 | d :: l => by
  have := K.len l
  have := K.pos d
  rw [K.cons]
  simp
  omega
theorem mu.mem (K : mu bk bkA) {d : DataW H} : ∀ {l : List (DataW H)}, d ∈ l → bk d ≤ bkA l
 | e :: l, hm => by
  rw [K.cons]
  rcases List.mem_cons.1 hm with rfl | hm
  ·omega
  ·have := K.mem hm
   omega
theorem gP.slice (K : mu bk bkA) {α : Type} {f : List AV → α → Prop} {Q : α → Prop} {e : TypeId} {es B : Nat} (hs : ik P t = some (e, es)) (r : gP P h rec t cs d) (hB : bk d ≤ B)
  (g : ∀ l d, rec e l d → bk d ≤ B → ∃ a, f l a ∧ Q a) : ∃ x xs, cs = [x] ∧ dt h es f x xs ∧ xs.length ≤ B ∧ ∀ a, a ∈ xs → Q a := by
 unfold ik at hs
 unfold gP at r
 split at hs
 ·rename_i e' hu
  rw [hu] at r
  cases hs
  rcases r with ⟨rfl, rfl⟩ | ⟨p, cap, elems, rest, ls, rfl, hcap, rfl, hl, hr⟩
  ·exact ⟨.ar, [], rfl, ⟨.eN 0 0, 0, .inr (.inr ⟨rfl, rfl⟩), fun i hi => by simp at hi⟩, by simp, fun a ha => by simp at ha⟩
  ·have hel := K.len elems
   rw [K.slice] at hB
   have mk : ∀ (k : Nat), k ≤ elems.length → ∃ xs : List α, xs.length = k ∧ (∀ i (hi : i < xs.length), ∃ l, l.length = P.cellsOf e ∧ Cs h p (i * P.cellsOf e) l ∧ f l xs[i]) ∧ ∀ a, a ∈ xs → Q a := by
    intro k
    induction k with
    | zero => exact fun _ => ⟨[], rfl, fun i hi => by simp at hi, fun a ha => by simp at ha⟩
    | succ k ih =>
     intro hk
     obtain ⟨xs, e1, e2, e3⟩ := ih (by omega)
     obtain ⟨c1, c2, c3⟩ := hr k (by omega) (by omega)
     have hm := K.mem (List.getElem_mem (show k < elems.length by omega))
     obtain ⟨a, ha, hq⟩ := g _ _ c3 (by omega)
     refine ⟨xs ++ [a], by simp [e1], fun i hi => ?_, fun b hb => ?_⟩
     ·by_cases hik : i < xs.length
      ·obtain ⟨l, l1, l2, l3⟩ := e2 i hik
       exact ⟨l, l1, l2, by rw [List.getElem_append_left hik]; exact l3⟩
      ·have : i = k := by simp [e1] at hi; omega
       subst this
       refine ⟨_, c2, c1, ?_⟩
       rw [List.getElem_append_right (by omega)]
       simp only [e1, Nat.sub_self, List.getElem_cons_zero]
       exact ha
     ·rcases List.mem_append.1 hb with hb | hb
      ·exact e3 b hb
      ·simp at hb
       rw [hb]; exact hq
   obtain ⟨xs, e1, e2, e3⟩ := mk elems.length (Nat.le_refl _)
   refine ⟨_, xs, rfl, ⟨p, 0, .inl ⟨cap, by omega, by rw [e1]⟩, fun i hi => ?_⟩, by omega, e3⟩
   obtain ⟨l, l1, l2, l3⟩ := e2 i hi
   exact ⟨l, l1, by rw [Nat.zero_add]; exact l2, l3⟩
 ·cases hs
theorem vj {z : Int} (h : (Lit.int .i64 z).wf = true) : dL z := by
 simp only [Lit.wf, Bool.and_eq_true, decide_eq_true_eq] at h
 exact ⟨h.1, h.2⟩
structure ij (P : Program) (tI tN tT tB tV tR tG tGs tC tCs tE : TypeId) : Prop where
 i : P.underlying tI = some (.int .i64)
 n : P.underlying tN = some (.int .i64)
 t : P.underlying tT = some .string
 b : P.underlying tB = some .bool
 v : fi P tV = some [tI, tN, tT]
 r : ik P tR = some (tV, 3)
 g : fi P tG = some [tT, tR, tB]
 gs : ik P tGs = some (tG, 3)
 c : fi P tC = some [tT, tI]
 cs : ik P tCs = some (tC, 2)
 e : fi P tE = some [tI, tI, tI, tT, tT, tCs, tGs]
def TS (B : Nat) (v : lQ) : Prop := dL v.kind ∧ dL v.n ∧ v.s.length ≤ B
def Uh (B : Nat) (c : nu) : Prop := c.table.length ≤ B ∧ c.row.length ≤ B ∧ ∀ v, v ∈ c.row → TS B v
def wO (B : Nat) (e : jA) : Prop := dL e.aK ∧ dL e.seq ∧ dL e.kind ∧ e.name.length ≤ B ∧ e.text.length ≤ B ∧ e.bP.length ≤ B ∧ (∀ c, c ∈ e.bP → c.1.length ≤ B ∧ dL c.2) ∧ e.changes.length ≤ B ∧ ∀ c, c ∈ e.changes → Uh B c
variable {tI tN tT tB tV tR tG tGs tC tCs tE : TypeId} {B n : Nat}
theorem rd_val (T : ij P tI tN tT tB tV tR tG tGs tC tCs tE) (K : mu bk bkA) {l : List AV} (r : tn P h (n + 2) tV l d) (hB : bk d ≤ B) : ∃ v, l = jc v ∧ TS B v := by
 obtain ⟨ls, ps, rfl, rfl, a⟩ := gP.struct T.v r
 obtain ⟨_, _, _, _, rfl, rfl, a0, a⟩ := a.inv; obtain ⟨_, _, _, _, rfl, rfl, a1, a⟩ := a.inv; obtain ⟨_, _, _, _, rfl, rfl, a2, a⟩ := a.inv; obtain ⟨rfl, rfl⟩ := a.none
 obtain ⟨z0, rfl, rfl, w0⟩ := gP.int T.i a0
 obtain ⟨z1, rfl, rfl, w1⟩ := gP.int T.n a1
 obtain ⟨s, rfl, rfl⟩ := gP.str T.t a2
 rw [K.agg] at hB
 have := K.mem (l := [DataW.lit (.int .i64 z0), .lit (.int .i64 z1), .lit (.string s)]) (d := .lit (.string s)) (by simp)
 rw [K.str] at this
 exact ⟨⟨z0, z1, s⟩, rfl, vj w0, vj w1, by simp only; omega⟩
theorem RN (T : ij P tI tN tT tB tV tR tG tGs tC tCs tE) (K : mu bk bkA) {l : List AV} (r : tn P h (n + 3) tR l d) (hB : bk d ≤ B) : ∃ x row, l = [x] ∧ dP h x row ∧ row.length ≤ B ∧ ∀ v, v ∈ row → TS B v :=
 gP.slice K T.r r hB fun _ _ r hb => rd_val T K r hb
theorem RP (T : ij P tI tN tT tB tV tR tG tGs tC tCs tE) (K : mu bk bkA) {l : List AV} (r : tn P h (n + 4) tG l d) (hB : bk d ≤ B) : ∃ c, gE h l c ∧ Uh B c := by
 obtain ⟨ls, ps, rfl, rfl, a⟩ := gP.struct T.g r
 obtain ⟨_, _, p0, _, rfl, rfl, a0, a⟩ := a.inv; obtain ⟨_, _, p1, _, rfl, rfl, a1, a⟩ := a.inv; obtain ⟨_, _, p2, _, rfl, rfl, a2, a⟩ := a.inv; obtain ⟨rfl, rfl⟩ := a.none
 rw [K.agg] at hB
 have h0 := K.mem (l := [p0, p1, p2]) (d := p0) (by simp)
 have h1 := K.mem (l := [p0, p1, p2]) (d := p1) (by simp)
 obtain ⟨s, rfl, rfl⟩ := gP.str T.t a0
 obtain ⟨x, row, rfl, hr, hl, hv⟩ := RN T K a1 (B := B) (by omega)
 obtain ⟨b, rfl, rfl⟩ := gP.bool T.b a2
 rw [K.str] at h0
 exact ⟨⟨s, row, b⟩, ⟨x, rfl, hr⟩, by simp only; omega, hl, hv⟩
theorem RQ (T : ij P tI tN tT tB tV tR tG tGs tC tCs tE) (K : mu bk bkA) {l : List AV} (r : tn P h (n + 2) tC l d) (hB : bk d ≤ B) : ∃ c : Bs × Int, l = [bB c.1, i64 c.2] ∧ c.1.length ≤ B ∧ dL c.2 := by
 obtain ⟨ls, ps, rfl, rfl, a⟩ := gP.struct T.c r
 obtain ⟨_, _, p0, _, rfl, rfl, a0, a⟩ := a.inv; obtain ⟨_, _, p1, _, rfl, rfl, a1, a⟩ := a.inv; obtain ⟨rfl, rfl⟩ := a.none
 rw [K.agg] at hB
 have h0 := K.mem (l := [p0, p1]) (d := p0) (by simp)
 obtain ⟨s, rfl, rfl⟩ := gP.str T.t a0
 obtain ⟨z, rfl, rfl, w⟩ := gP.int T.i a1
 rw [K.str] at h0
 exact ⟨(s, z), rfl, by simp only; omega, vj w⟩
theorem RH (T : ij P tI tN tT tB tV tR tG tGs tC tCs tE) (K : mu bk bkA) {l : List AV} (r : tn P h (n + 6) tE l d) (hB : bk d ≤ B) : ∃ e, eE h l e ∧ wO B e := by
 obtain ⟨ls, ps, rfl, rfl, a⟩ := gP.struct T.e r
 obtain ⟨_, _, p0, _, rfl, rfl, a0, a⟩ := a.inv; obtain ⟨_, _, p1, _, rfl, rfl, a1, a⟩ := a.inv; obtain ⟨_, _, p2, _, rfl, rfl, a2, a⟩ := a.inv; obtain ⟨_, _, p3, _, rfl, rfl, a3, a⟩ := a.inv; obtain ⟨_, _, p4, _, rfl, rfl, a4, a⟩ := a.inv; obtain ⟨_, _, p5, _, rfl, rfl, a5, a⟩ := a.inv; obtain ⟨_, _, p6, _, rfl, rfl, a6, a⟩ := a.inv; obtain ⟨rfl, rfl⟩ := a.none
 rw [K.agg] at hB
 have h3 := K.mem (l := [p0, p1, p2, p3, p4, p5, p6]) (d := p3) (by simp)
 have h4 := K.mem (l := [p0, p1, p2, p3, p4, p5, p6]) (d := p4) (by simp)
 have h5 := K.mem (l := [p0, p1, p2, p3, p4, p5, p6]) (d := p5) (by simp)
 have h6 := K.mem (l := [p0, p1, p2, p3, p4, p5, p6]) (d := p6) (by simp)
 obtain ⟨z0, rfl, rfl, w0⟩ := gP.int T.i a0
 obtain ⟨z1, rfl, rfl, w1⟩ := gP.int T.i a1
 obtain ⟨z2, rfl, rfl, w2⟩ := gP.int T.i a2
 obtain ⟨s, rfl, rfl⟩ := gP.str T.t a3
 obtain ⟨s', rfl, rfl⟩ := gP.str T.t a4
 obtain ⟨x, bP, rfl, hx, hl, hc⟩ := gP.slice (f := fun l (c : Bs × Int) => l = [bB c.1, i64 c.2]) (Q := fun c : Bs × Int => c.1.length ≤ B ∧ dL c.2) K T.cs a5 (B := B) (by omega) fun _ _ r hb => RQ (n := n + 2) T K r hb
 obtain ⟨y, chs, rfl, hy, hm, hg⟩ := gP.slice K T.gs a6 (B := B) (by omega) fun _ _ r hb => RP T K r hb
 rw [K.str] at h3 h4
 exact ⟨⟨z0, z1, z2, s, s', bP, chs⟩, ⟨x, y, rfl, hx, hy⟩, vj w0, vj w1, vj w2, by simp only; omega, by simp only; omega, hl, hc, hm, hg⟩
end
end
end Go.Am
namespace Go.Am.Seat
open Go.Cod
noncomputable section
structure GL (p : Pg) : Prop where
 e12 : aq 29 p.fs = f29
 e13 : aq 32 p.fs = f32
 e15 : aq 30 p.fs = f30
 e16 : aq 31 p.fs = f31
 e18 : aq 33 p.fs = f33
 e27 : aq 55 p.fs = f55
 e28 : aq 56 p.fs = f56
 e29 : aq 57 p.fs = f57
def bc (s : Bs) : List AV := s.map fun b => AV.int .u8 (b.toNat : Int)
theorem bU (s : Bs) : (bc s).length = s.length := by simp [bc]
theorem uZ (s t : Bs) : bc (s ++ t) = bc s ++ bc t := by simp [bc]
structure Wr (h0 h : Hp) (q : P4) (s : Bs) : Prop where
 old : Old h0 h
 wf : Wf h
 new : ag q h0 = .none
 ob : ∃ sv, sv.one = true ∧ Ob h q 110 true .plain [sv] ∧ dX h sv 5 1 (bc s) fun j => ag j h0 = .none ∧ j ≠ q
variable {p : Pg} {h0 h h' : Hp} {q : P4} {s : Bs}
theorem nv {x : AV} {el es : Nat} {l : List AV} {b : P4 → Prop} (w : dX h x el es l b) : x.one = true := by
 rcases w with ⟨_, rfl | ⟨q, rfl⟩⟩ | ⟨q, n, rfl, _⟩ <;> rfl
theorem Wr.app (w : Wr h0 h q s) {sv : AV} (ho : Ob h q 110 true .plain [sv]) (hw : dX h sv 5 1 (bc s) fun j => ag j h0 = .none ∧ j ≠ q) (t : Bs) (hl : s.length + t.length ≤ 16777216) :
  ∃ x h1 h2, lN 5 1 t.length (bc t) sv h = .ok x h1 ∧ sT (.ptr q 0) x h1 = .ok .undef h2 ∧ Wr h0 h2 q (s ++ t) := by
 obtain ⟨x, h1, e1, e2, e3, e4⟩ := iM (m := t.length) w.wf hw (by omega) (new := bc t) (by simp [bU]) (by simpa [bU] using hl)
 have hq : ag q h1 = ag q h := e4 q ho.ne (fun g => g.2 rfl)
 have ho1 := ho.eq hq
 obtain ⟨h2, f1, f2, f3, f4⟩ := dY (k := 0) ho1 (by simp) (nv e2)
 refine ⟨x, h1, h2, e1, f1, ⟨fun j hj => ?_, ?_, w.new, x, nv e2, f2, ?_⟩⟩
 ·have hjq : j ≠ q := fun g => by rw [g] at hj; exact hj w.new
  rw [f3 j hjq, e4 j (by rw [w.old j hj]; exact hj) (fun g => hj g.1), w.old j hj]
 ·exact e3.of f4 fun j hj => by
   by_cases g : j = q
   ·rw [g, hq] at hj
    exact absurd hj ho.ne
   ·rw [f3 j g]; exact hj
 ·rw [uZ]
  refine (e2.mono fun j hj => ?_).old fun j hj _ => f3 j hj.2
  rcases hj with hj | hj
  ·exact hj
  ·exact ⟨w.old.none hj, fun g => by rw [g] at hj; exact ho.ne hj⟩
theorem Wr.up (w : Wr h0 h q s) (O : Old h h') (W : Wf h') : Wr h0 h' q s := by
 obtain ⟨sv, e1, e2, e3⟩ := w.ob
 exact ⟨w.old.trans O, W, w.new, sv, e1, e2.old O, e3.old fun j _ hj => O j hj⟩
theorem Wr.Lj (w : Wr h0 h q s) (t : Bs) {m : Nat} (hm : t.length = m) {z : List AV} {ps : List Part} (hf : fits ps .nil = true) (hz : fill ps .nil z = bc t) (hl : s.length + t.length ≤ 16777216) :
  ∃ sv l h1 x h2 h3, Seat.lD (.ptr q 0) h = .ok sv h ∧ Seat.bs 5 1 m z ps h = .ok l h1 ∧ lj 5 1 sv l h1 = .ok x h2 ∧ sT (.ptr q 0) x h2 = .ok .undef h3 ∧ Wr h0 h3 q (s ++ t) := by
 subst hm
 obtain ⟨sv, e1, e2, e3⟩ := w.ob
 obtain ⟨j, h1, f1, f2, f3, f4, f5, f6⟩ := iL (el := 5) (es := 1) (n := t.length) w.wf hf hz (by simp [bU]; omega)
 have w1 := w.up f4 f5
 obtain ⟨x, h2, h3, g1, g2, g3⟩ := w1.app (e2.old f4) (e3.old fun j _ hj => f4 j hj) t hl
 refine ⟨sv, _, h1, x, h2, h3, CR (e2.cs (k := 0) (m := [sv]) (fun j hj => ⟨by omega, by simp⟩) (by simp)) (by simp), f1, ?_, g2, g3⟩
 rw [gu (m := t.length) (q := j) (o := 0) (l := bc t) (.inl ⟨_, rfl⟩) (by omega) (fun _ => f3.cs (k := 0) (fun j hj => ⟨by omega, by simp⟩) (by simp)) (by simp [bU]) (by omega)]
 exact g1
theorem w8 (n : Int) : IntKind.u8.wrap n = n % 256 := rfl
theorem w64 (n : Int) : IntKind.u64.wrap n = n % 18446744073709551616 := rfl
theorem lO (n : Int) (h : dL n) : IntKind.i64.wrap n = n := by
 unfold dL at h
 unfold IntKind.wrap
 dsimp only
 split
 ·rename_i g
  rw [Bool.and_eq_true, decide_eq_true_eq] at g
  have g1 : n % 18446744073709551616 ≥ 9223372036854775808 := g.2
  show n % 18446744073709551616 - 18446744073709551616 = n
  omega
 ·rename_i g
  rw [Bool.and_eq_true, decide_eq_true_eq] at g
  have g1 : ¬ n % 18446744073709551616 ≥ 9223372036854775808 := fun x => g ⟨rfl, x⟩
  show n % 18446744073709551616 = n
  omega
theorem UR (n : Nat) : bK .shr (.int .u64 n) (.int .u64 (.ofNat 8)) h = .ok (.int .u64 (n / 256 : Nat)) h := rfl
theorem Lk (k : Nat) : ∀ {n : Nat} {h : Hp} {s : Bs} {c : AC} {r0 : A2}, (∀ s, Rn p (.ah sw .skip) (T49 (.ptr q 0) (.int .u64 n) (.int .i64 k)) h s → Rn p c r0 h s) → Wr h0 h q s → n < 18446744073709551616 → s.length + k ≤ 16777216 → k ≤ 1000 →
  ∃ h', Rn p (.sat (.ah k55_0 (.seq (.label 0) (.ah sw .skip))) c) r0 h (.ret T6 h') ∧ Wr h0 h' q (s ++ le k n) := by
 induction k with
 | zero =>
  intro n h s c r0 hc w _ _ _
  refine ⟨h, .EK (hc _ (.ah (.all fun m => ?_))), by simpa [le] using w⟩
  simp only [sw, K3, t49_0, t49_1, t49_6, i0]
  rw [EL, bH, if_pos (by rfl)]
 | succ k ih =>
  intro n h s c r0 hc w hn hs hk
  obtain ⟨sv, l, h1, x, h2, h3, e1, e2, e3, e4, e5⟩ := w.Lj [UInt8.ofNat n] (m := 1) rfl (z := [.int .u8 (.ofNat 0)]) (ps := [.mk 0 1 (.c (.int .u8 ((n : Int) % 256)))]) rfl (by simp [bc]; rfl) (by simp; omega)
  obtain ⟨h', f1, f2⟩ := ih (n := n / 256) (h := h3) (s := s ++ [UInt8.ofNat n]) (c := .seq .skip (.ah sw .skip)) (fun _ e => .seq .skip e) e5 (by omega) (by simp; omega) (by omega)
  refine ⟨h', .KR (i := 0) (hc _ (.ah (.all fun m => ?_))) rfl f1, by simpa [le] using f2⟩
  simp only [sw, K3, t49_0, t49_1, t49_6, i0, i1]
  rw [EL, bH, if_neg (by simp; omega), fP, aA, aC e1, ly, w8, br, aH e2, aH e3, fP, aA, dQ e4, UR, br, Ep, lO _ (by unfold dL; simp; omega)]
  simp
section
variable {a b c d : AV}
theorem dE : y0 (aY [a] 0 .nil) = a := rfl
theorem gT : y0 (aY [a, b] 0 .nil) = a := rfl
theorem gU : y1 (aY [a, b] 0 .nil) = b := rfl
theorem wP : y0 (aY [a, b, c] 0 .nil) = a := rfl
theorem wQ : y1 (aY [a, b, c] 0 .nil) = b := rfl
theorem wR : y2 (aY [a, b, c] 0 .nil) = c := rfl
end
theorem CX (T : GL p) (w : Wr h0 h q s) {n k : Nat} (hn : n < 18446744073709551616) (hs : s.length + k ≤ 16777216) (hk : k ≤ 1000) :
  ∃ h', Cv p 55 [.ptr q 0, .int .u64 n, .int .i64 k] h cn h' ∧ Wr h0 h' q (s ++ le k n) := by
 have hc : ∀ s, Rn p (.ah sw .skip) (T49 (.ptr q 0) (.int .u64 n) (.int .i64 k)) h s → Rn p (.ah k55_0 (.seq (.label 0) (.ah sw .skip))) (aY [.ptr q 0, .int .u64 n, .int .i64 k] 0 .nil) h s := by
  intro s e
  refine .ah (Ev.mono (Rn.seq (a := .label 0) .label e) fun m e => ?_)
  simp only [k55_0, K3, wP, wQ, wR]
  exact e
 obtain ⟨h', e1, e2⟩ := Lk k hc w hn hs hk
 exact ⟨h', .of T.e27 (by simp) (.scope e1) rfl, e2⟩
theorem tp (T : GL p) (w : Wr h0 h q s) {n : Int} (hs : s.length + 1 ≤ 16777216) :
  ∃ h', Cv p 32 [.ptr q 0, i64 n] h cn h' ∧ Wr h0 h' q (s ++ le 1 (u64 n)) := by
 obtain ⟨h', e1, e2⟩ := CX T w (n := u64 n) (k := 1) (by unfold u64; omega) hs (by omega)
 refine ⟨h', .xl (r' := T6) (h1 := h') T.e13 (by simp) (.ah ?_) rfl, e2⟩
 refine Ev.mono e1 fun m e => ?_
 simp only [k32_0, K2, gT, gU, i1, i64]
 rw [ly, w64, br]
 have g : n % 18446744073709551616 = (u64 n : Int) := by unfold u64; omega
 rw [g]
 exact aM e
theorem Ll (T : GL p) (w : Wr h0 h q s) {n : Int} (hs : s.length + 2 ≤ 16777216) :
  ∃ h', Cv p 56 [.ptr q 0, i64 n] h cn h' ∧ Wr h0 h' q (s ++ le 2 (u64 n)) := by
 obtain ⟨h', e1, e2⟩ := CX T w (n := u64 n) (k := 2) (by unfold u64; omega) hs (by omega)
 refine ⟨h', .xl (r' := T6) (h1 := h') T.e28 (by simp) (.ah ?_) rfl, e2⟩
 refine Ev.mono e1 fun m e => ?_
 simp only [k56_0, K2, gT, gU, pi, i64]
 rw [ly, w64, br]
 have g : n % 18446744073709551616 = (u64 n : Int) := by unfold u64; omega
 rw [g]
 exact aM e
theorem nF (T : GL p) (w : Wr h0 h q s) {n : Int} (hs : s.length + 8 ≤ 16777216) :
  ∃ h', Cv p 30 [.ptr q 0, i64 n] h cn h' ∧ Wr h0 h' q (s ++ vB n) := by
 obtain ⟨h', e1, e2⟩ := CX T w (n := u64 n) (k := 8) (by unfold u64; omega) hs (by omega)
 refine ⟨h', .xl (r' := T6) (h1 := h') T.e15 (by simp) (.ah ?_) rfl, e2⟩
 refine Ev.mono e1 fun m e => ?_
 simp only [k30_0, K2, gT, gU, pi, i64]
 rw [ly, w64, br]
 have g : n % 18446744073709551616 = (u64 n : Int) := by unfold u64; omega
 rw [g]
 exact aM e
theorem tq (n : Nat) (h : n < 18446744073709551616) : u64 n = n := by unfold u64; omega
theorem qq (T : GL p) (w : Wr h0 h q s) {t : Bs} (hs : s.length + (2 + t.length) ≤ 16777216) :
  ∃ h', Cv p 31 [.ptr q 0, bB t] h cn h' ∧ Wr h0 h' q (s ++ Cod.text t) := by
 obtain ⟨h1, e1, w1⟩ := Ll T w (n := t.length) (by omega)
 obtain ⟨sv, g1, g2, g3⟩ := w1.ob
 have hl2 : (s ++ le 2 (u64 (t.length : Int))).length = s.length + 2 := by simp [bT]
 obtain ⟨x, h2, h3, f1, f2, f3⟩ := w1.app g2 g3 t (by rw [hl2]; omega)
 refine ⟨h3, .xl (r' := T6) (h1 := h3) T.e16 (by simp) (.ah ?_) rfl, ?_⟩
 ·refine Ev.mono e1 fun m e => ?_
  simp only [k31_0, K2, gT, gU, bB]
  simp only [i64] at e
  have ec : (t.map UInt8.toNat).map (fun b : Nat => AV.int .u8 (b : Int)) = bc t := by simp [bc]
  rw [EM, br, List.length_map, aM e, fP, aA, aC (CR (g2.cs (k := 0) (m := [sv]) (fun j hj => ⟨by omega, by simp⟩) (by simp)) (by simp)), aH (by rw [NX, ec, List.length_map]; exact f1), fP, aA, dQ f2]
 ·rw [tq _ (by omega)] at f3
  simpa [Cod.text] using f3
end
open Go.Cod
noncomputable section
variable {p : Pg} {h0 h h' h1 : Hp} {q : P4} {s : Bs}
theorem Wr.base (w : Wr h0 h q s) (O : Old h h1) (W : Wf h1) : ∃ h0', Old h0 h0' ∧ Wr h0' h1 q s ∧ ∀ j, ag j h = .none → ag j h0' = ag j h1 := by
 classical
 obtain ⟨h0', g⟩ := Et fun j => if ag j h = .none then ag j h1 else ag j h0
 have g1 : ∀ j, ag j h = .none → ag j h0' = ag j h1 := fun j hj => by rw [g, if_pos hj]
 have g2 : ∀ j, ag j h ≠ .none → ag j h0' = ag j h0 := fun j hj => by rw [g, if_neg hj]
 obtain ⟨sv, e1, e2, e3⟩ := w.ob
 refine ⟨h0', fun j hj => g2 j (by rw [w.old j hj]; exact hj), ⟨fun j hj => ?_, W, by rw [g2 q e2.ne]; exact w.new, sv, e1, e2.old O, ?_⟩, g1⟩
 ·by_cases hn : ag j h = .none
  ·rw [g1 j hn]
  ·rw [g2 j hn] at hj ⊢
   rw [O j hn, w.old j hj]
 ·rcases e3 with e3 | ⟨q', n, f1, f2, f3, f4⟩
  ·exact .inl e3
  ·exact .inr ⟨q', n, f1, f2, f3.old O, by rw [g2 q' f3.ne]; exact f4.1, f4.2⟩
theorem Wr.US {h0' : Hp} (w : Wr h0' h q s) (O : Old h0 h0') : Wr h0 h q s := by
 obtain ⟨sv, e1, e2, e3⟩ := w.ob
 exact ⟨O.trans w.old, w.wf, O.none w.new, sv, e1, e2, e3.mono fun j hj => ⟨O.none hj.1, hj.2⟩⟩
variable {α : Type} {es : Nat} {f : List AV → α → Prop} {x : AV} {xs : List α}
theorem dt.sl (r : dt h es f x xs) : ∃ q o, vO x es xs.length q o ∧ ∀ i (hi : i < xs.length), ∃ l, l.length = es ∧ Cs h q (o + i * es) l ∧ f l xs[i] := by
 obtain ⟨q, o, e, g⟩ := r
 refine ⟨q, o, ?_, g⟩
 rcases e with ⟨c, _, e⟩ | e | ⟨e, rfl⟩
 ·exact .inl ⟨c, e⟩
 ·exact .inr (.inl e)
 ·exact .inr (.inr ⟨e, rfl⟩)
theorem dt.up {f' : List AV → α → Prop} (r : dt h es f x xs) (O : Old h h') (g : ∀ l a, a ∈ xs → f l a → f' l a) : dt h' es f' x xs := by
 obtain ⟨q, o, e, k⟩ := r
 refine ⟨q, o, e, fun i hi => ?_⟩
 obtain ⟨l, a, b, c⟩ := k i hi
 exact ⟨l, a, b.old O, g _ _ (by simp) c⟩
theorem dP.up {r : List lQ} (a : dP h x r) (O : Old h h') : dP h' x r := dt.up a O fun _ _ _ e => e
theorem gE.up {l : List AV} {c : nu} (a : gE h l c) (O : Old h h') : gE h' l c := let ⟨x, e, r⟩ := a; ⟨x, e, dP.up r O⟩
theorem aZ.up {r : List nu} (a : aZ h x r) (O : Old h h') : aZ h' x r := dt.up a O fun _ _ _ e => gE.up e O
theorem aO.up {r : List (Bs × Int)} (a : aO h x r) (O : Old h h') : aO h' x r := dt.up a O fun _ _ _ e => e
theorem eE.up {l : List AV} {e : jA} (a : eE h l e) (O : Old h h') : eE h' l e := let ⟨x, y, g, r1, r2⟩ := a; ⟨x, y, g, aO.up r1 O, aZ.up r2 O⟩
theorem si.up {l : List AV} {e : Sp} (a : si h l e) (O : Old h h') : si h' l e := let ⟨x, y, g, r1, r2⟩ := a; ⟨x, y, g, aO.up r1 O, aZ.up r2 O⟩
theorem CY (s : Bs) : ∀ (k : List Nat → RV) (e : RV), eQ (bc s) k e = k (s.map UInt8.toNat) := by
 induction s with
 | nil => intro k e; rfl
 | cons b s ih =>
  intro k e
  show eQ (.int .u8 (b.toNat : Int) :: bc s) k e = _
  rw [pQ]
  show (@Bool.rec (fun _ => RV) e (eQ (bc s) (fun s => k (b.toNat :: s)) e) (Nat.ble b.toNat 255)) = _
  have hb := b.toNat_lt
  rw [Nat.ble_eq_true_of_le (by omega), ih]
  rfl
def fm (h : Hp) (x : AV) (s : Bs) : Prop := ∃ q o n, vO x 1 n q o ∧ s.length = n ∧ (n ≠ 0 → Cs h q o (bc s))
theorem dX.GH {b : P4 → Prop} (w : dX h x 5 1 (bc s) b) : fm h x s := by
 obtain ⟨q, n, e1, e2, e3⟩ := w.sl (by omega)
 exact ⟨q, 0, n, e1, by rw [bU] at e2; omega, e3⟩
theorem iR (r : fm h x s) : cK .LP x h = .ok (bB s) h := by
 obtain ⟨q, o, n, e1, e2, e3⟩ := r
 show elems 1 x h (fun l => eQ l (fun s => .ok (.str s) h) (.err 33)) (.err 34) = _
 rw [uY e1 (by omega) e3 (by rw [bU]; omega), CY]
theorem fm.len (r : fm h x s) : Am.len x h = .ok (.int .i64 (s.length : Int)) h := by
 obtain ⟨q, o, n, e1, e2, e3⟩ := r
 rw [eY e1, e2]
theorem fm.up (r : fm h x s) (O : Old h h') : fm h' x s := by
 obtain ⟨q, o, n, e1, e2, e3⟩ := r
 exact ⟨q, o, n, e1, e2, fun g => (e3 g).old O⟩
theorem GC (T : GL p) (W : Wf h) : ∃ q h', Cv p 29 [] h (.ptr q 0) h' ∧ Wr h h' q [] ∧ Old h h' := by
 obtain ⟨q, h1, e1, e2, e3, e4, e5, e6⟩ := oh (el := 110) (l := [.ar]) W (by simp)
 refine ⟨q, h1, .of (r' := T34 (.ptr q 0)) (h1 := h1) T.e12 (by simp) (.ah (.all fun m => ?_)) rfl, ⟨e4, e5, e2, .ar, rfl, e3, .inl ⟨rfl, .inl rfl⟩⟩, e4⟩
 simp only [k29_0]
 rw [vu (v := .agg [.ar]) (h' := h) rfl, lJ e1]
theorem vn (e29 : aq 57 p.fs = f57) (W : Wf h) {b : P4 → Prop} (w : dX h x 5 1 (bc s) b) (hl : s.length ≤ 16777216) : ∃ v h', Cv p 57 [x] h v h' ∧ dX h' v 5 1 (bc s) (fun j => ag j h = .none) ∧ Old h h' ∧ Wf h' := by
 by_cases hx : x = .ar
 ·subst hx
  refine ⟨.ar, h, .of (r' := T11 .ar) (h1 := h) e29 (by simp) (.ah (.all fun m => ?_)) rfl, ?_, .refl h, W⟩
  ·have hn : bK (.jR .s) .ar .ar h = .ok (.bool true) h := rfl
   simp only [Be, K1, dE]
   rw [aH hn, gY]
  ·rcases w with ⟨w, _⟩ | ⟨q, n, g, _⟩
   ·exact .inl ⟨w, .inl rfl⟩
   ·cases g
 ·have hn : bK (.jR .s) x .ar h = .ok (.bool false) h := by
   rcases w with ⟨_, rfl | ⟨q, rfl⟩⟩ | ⟨q, n, rfl, _⟩
   ·exact absurd rfl hx
   ·rfl
   ·rfl
  obtain ⟨j, h1, f1, f2, f3, f4, f5, f6⟩ := iL (el := 5) (es := 1) (n := 0) (z := []) (ps := []) (l := []) W rfl rfl (by simp)
  obtain ⟨q, o, n, g1, g2, g3⟩ := fm.up (dX.GH w) f4
  obtain ⟨v, h2, c1, c2, c3, c4⟩ := iM (m := n) (es := 1) f5 (x := .slice j 0 0 0) (b := fun _ => False) (el := 5) (l := []) (.inl ⟨rfl, .inr ⟨j, rfl⟩⟩) (by omega) (new := bc s) (by rw [bU]; omega) (by simp [bU]; omega)
  refine ⟨v, h2, .of (r' := T11 v) (h1 := h2) e29 (by simp) (.ah (.all fun m => ?_)) rfl, ?_, fun k hk => ?_, c3⟩
  ·simp only [Be, K1, dE]
   rw [aH hn, fK, aH f1, aH (by rw [gu g1 (by omega) g3 (by rw [bU]; omega) (by omega)]; exact c1)]
  ·refine dX.mono c2 fun k hk => ?_
   rcases hk with hk | hk
   ·exact hk.elim
   ·exact f4.none hk
  ·have := f4 k hk
   rw [c4 k (by rw [this]; exact hk) (fun g => g), this]
theorem Oj (T : GL p) (e29 : aq 57 p.fs = f57) (w : Wr h0 h q s) (hl : s.length ≤ 16777216) : ∃ v h', Cv p 33 [.ptr q 0] h v h' ∧ dX h' v 5 1 (bc s) (fun j => ag j h0 = .none) ∧ Old h0 h' ∧ Wf h' := by
 obtain ⟨sv, e1, e2, e3⟩ := w.ob
 obtain ⟨v, h', f1, f2, f3, f4⟩ := vn (p := p) e29 w.wf e3 hl
 refine ⟨v, h', .of (r' := T11 v) (h1 := h') T.e18 (by simp) (.ah (f1.mono fun m e => ?_)) rfl, dX.mono f2 fun j hj => w.old.none hj, w.old.trans f3, f4⟩
 simp only [k33_0, K1, dE]
 rw [fP, aA, aC (CR (e2.cs (k := 0) (m := [sv]) (fun j hj => ⟨by omega, by simp⟩) (by simp)) (by simp))]
 exact (aM e)
end
open Go.Cod
noncomputable section
variable {p : Pg} {h0 h h' h1 : Hp} {q : P4} {s : Bs} {x y : AV}
theorem aw {h : Hp} {q : P4} {o : Nat} {l : List AV} (c : Cs h q o l) (k : Nat) {v : AV} (e : l[k]? = some v) : lD (.ptr q (o + k)) h = .ok v h := by
 obtain ⟨hk, e⟩ := List.getElem?_eq_some_iff.1 e
 rw [KZ c k hk, e]
theorem cB {h : Hp} {q : P4} {o : Nat} {l : List AV} (c : Cs h q o l) {v : AV} (e : l[0]? = some v) : lD (.ptr q o) h = .ok v h := aw c 0 e
theorem mQ (e : aq 15 p.fs = f15) (n : Int) : Cv p 15 [i64 n] h (.bool (small n)) h := by
 refine .of (r' := T11 (.bool (small n))) (h1 := h) e (by simp) (.aR fun c i K => ?_) rfl
 simp only [k15_0, K1, dE, i64, ni, pi]
 (rw [TQ, br]; try rfl)
 by_cases hc : Int.negSucc 2147483647 ≤ n
 ·(rewrite [decide_eq_true hc]; (try dsimp only); rewrite [TR]; (try dsimp only); rewrite [TR]; (try dsimp only); rewrite [bA]; (try dsimp only); rewrite [CS]; (try dsimp only); rewrite [br]; (try dsimp only); try rfl)
  congr 3
  unfold small
  rw [decide_eq_true (show -2147483648 ≤ n from hc), Bool.true_and, decide_eq_decide]
  show n < 2147483648 ↔ n ≤ 2147483647
  omega
 ·(rw [decide_eq_false hc, PS, PS, CT, br]; try rfl)
  congr 3
  unfold small
  rw [decide_eq_false (show ¬ -2147483648 ≤ n from hc)]
  rfl
theorem yI (e : aq 13 p.fs = f13) (n : Int) : Cv p 13 [i64 n] h (i64 (gZ n)) h := by
 refine .of (r' := T11 (i64 (gZ n))) (h1 := h) e (by simp) (.ah (Ev.succ (.all fun m => ?_))) rfl
 simp only [k13_0, K1, dE, i64, ni, pi]
 (rw [bA]; try rfl)
 by_cases hc : n < Int.negSucc 999
 ·(rw [decide_eq_true hc, EN, EN, CS, br, gY, i0]; try rfl)
  unfold gZ
  rw [if_pos (.inl hc)]
  rfl
 ·(rewrite [decide_eq_false hc]; (try dsimp only); rewrite [NY]; (try dsimp only); rewrite [NY]; (try dsimp only); rewrite [iO]; (try dsimp only); rewrite [br]; (try dsimp only); rewrite [CT]; (try dsimp only); rewrite [br]; (try dsimp only); rewrite [bH]; (try dsimp only); try rfl)
  have hc' : ¬ n < -1000 := hc
  by_cases hd : (1000 : Int) < n
  ·rw [if_pos (show Int.ofNat 1000 < n from hd), i0]
   unfold gZ
   rw [if_pos (.inr hd)]
   rfl
  ·rw [if_neg (show ¬ Int.ofNat 1000 < n from hd)]
   unfold gZ
   rw [if_neg (by omega)]
   rfl
theorem gF {α : Type} {f : α → Bool} {l : List α} {i : Nat} (hi : i < l.length) : (l.take (i + 1)).all f = ((l.take i).all f && f l[i]) := by
 rw [List.take_succ_eq_append_getElem hi, List.all_append]; simp
theorem all_false {α : Type} {f : α → Bool} {l : List α} {i : Nat} (hi : i < l.length) (h : f l[i] = false) : l.all f = false := by
 rw [List.all_eq_false]; exact ⟨_, List.getElem_mem hi, by simp [h]⟩
theorem xG {n : Int} (K : AV → Hp → RS) : Seat.Y (.int .i64 n) (.int .i64 (.negSucc 2147483647)) h (fun j h => gD j false (fun k => k (.int .i64 n) h) h fun k h => gD j false (fun l => tR (dx k (.int .i64 (.ofNat 2147483647)) h) fun m h => l m h) h fun l h =>
  tR (fU (.c j) (.c (.bool true)) (.c l) .nil h) fun m h => K m h) = K (.bool (!small n)) h := by
 (rw [bA]; try rfl)
 by_cases hc : n < Int.negSucc 2147483647
 ·(rw [decide_eq_true hc, EN, EN, CS, br]; try rfl)
  have : small n = false := by
   unfold small
   rw [decide_eq_false (show ¬ -2147483648 ≤ n from fun g => by have : n < -2147483648 := hc; omega)]; rfl
  rw [this]; rfl
 ·(rewrite [decide_eq_false hc]; (try dsimp only); rewrite [NY]; (try dsimp only); rewrite [NY]; (try dsimp only); rewrite [iO]; (try dsimp only); rewrite [br]; (try dsimp only); rewrite [CT]; (try dsimp only); rewrite [br]; (try dsimp only); try rfl)
  have hc' : -2147483648 ≤ n := by have : ¬ n < -2147483648 := hc; omega
  congr 2
  unfold small
  rw [decide_eq_true hc', Bool.true_and, ← decide_not, decide_eq_decide]
  show (2147483647 : Int) < n ↔ _
  omega
theorem rK (e : aq 52 p.fs = f52) {ns : List Int} (r : dt h 1 (fun l n => l = [i64 n]) x ns) (hn : ns.length < 9223372036854775807) : Cv p 52 [x] h (.bool (ns.all small)) h := by
 obtain ⟨q, o, sl, g⟩ := dt.sl r
 have key : ∃ s, (s = .ret (T11 (.bool (ns.all small))) h ∨ (∃ r', s = .ex 0 r' h) ∧ ns.all small = true) ∧ Rn p (.loop (.ah xp (.ah Bd .skip))) (T46 x (i64 ns.length) i0) h s := by
  refine eT ns.length (Inv := fun i r h' => r = T46 x (i64 ns.length) (i64 i) ∧ h' = h ∧ (ns.take i).all small = true) (fun i r h' hi I => ?_) (fun r h' I => ?_) ns.length 0 _ h (by omega) ⟨rfl, rfl, by simp⟩
  ·obtain ⟨rfl, rfl, I⟩ := I
   obtain ⟨l, l1, l2, rfl⟩ := g i hi
   cases hs : small ns[i] with
   | true =>
    left
    refine ⟨_, _, .ef (r' := T46 x (i64 ns.length) (i64 i)) (h' := h') (fun c i' K => ?_) (.ah (Ev.succ (.all fun m => ?_))), rfl, rfl, by rw [gF hi, I, hs]; rfl⟩
    ·simp only [xp, K3, qg, qh, qi, i64, ni, pi]
     (rw [bA, bH, if_pos (by omega), du (ct sl hi), aC (cB l2 rfl), xG, hs, Bool.not_true, fK]; try rfl)
    ·show Bd (au p (exec p (m + 1))) (aB p (exec p (m + 1))) (fun r h => exec p (m + 1) .skip r h) _ h' = _
     simp only [Bd, K3, qg, qh, qi, i64, i1]
     (rw [mG, lO _ (by unfold dL; simp; omega)]; try rfl)
   | false =>
    right
    refine ⟨_, .inl rfl, .gG (.aR fun c i' K => ?_)⟩
    simp only [xp, K3, qg, qh, qi, i64, ni, pi]
    (rw [bA, bH, if_pos (by omega), du (ct sl hi), aC (cB l2 rfl), xG, hs, Bool.not_false, gY, all_false hi hs]; try rfl)
  ·obtain ⟨rfl, rfl, I⟩ := I
   refine ⟨_, .inr ⟨⟨T6, rfl⟩, by simpa using I⟩, .eI (.aR fun c i' K => ?_)⟩
   simp only [xp, K3, qg, qh, qi, i64]
   (rw [bA, bH, if_neg (by omega)]; try rfl)
 obtain ⟨s, hs, k⟩ := key
 have k1 : Rn p (.ah k52_1 (.block 0 (.loop (.ah xp (.ah Bd .skip))))) (T34 x) h (RS.rec (fun _ _ => s) (fun _ r h => .nm r h) (fun _ _ _ => s) (fun _ _ => s) (fun _ => s) (fun _ _ _ => s) s) := by
  refine .ef (r' := T46 x (i64 ns.length) i0) (h' := h) (fun c i' K => ?_) ?_
  ·simp only [k52_1, K1, xu]
   (rw [bt (eY sl)]; try rfl)
  ·rcases hs with rfl | ⟨⟨r', rfl⟩, _⟩
   ·exact .cV k
   ·exact .bN k
 rcases hs with rfl | ⟨⟨r', rfl⟩, ha⟩
 ·exact .of (r' := T11 (.bool (ns.all small))) (h1 := h) e (by simp) (.ef (r' := T34 x) (h' := h) (fun c i' K => by simp only [k52_0, K1, dE]) (.dn k1)) rfl
 ·refine .of (r' := T11 (.bool (ns.all small))) (h1 := h) e (by simp) (.ef (r' := T34 x) (h' := h) (fun c i' K => by simp only [k52_0, K1, dE]) (.seq k1 (.aR fun c i' K => ?_))) rfl
  rw [ha]; rfl
end
open Go.Cod
noncomputable section
variable {p : Pg} {h0 h h' h1 : Hp} {q : P4} {s : Bs} {x y : AV}
theorem iP (s : Bs) : fQ (bB s) h = .ok (.int .i64 (s.length : Int)) h := by rw [bB, EM, List.length_map]
theorem qt (e : aq 53 p.fs = f53) {ns : List Bs} (r : dt h 1 (fun l n => l = [bB n]) x ns) (hn : ns.length < 9223372036854775807) : Cv p 53 [x] h (.bool (ns.all Cod.short)) h := by
 obtain ⟨q, o, sl, g⟩ := dt.sl r
 have key : ∃ s, (s = .ret (T11 (.bool (ns.all Cod.short))) h ∨ (∃ r', s = .ex 0 r' h) ∧ ns.all Cod.short = true) ∧ Rn p (.loop (.ah xq .skip)) (T46 x (i64 ns.length) i0) h s := by
  refine eT ns.length (Inv := fun i r h' => r = T46 x (i64 ns.length) (i64 i) ∧ h' = h ∧ (ns.take i).all Cod.short = true) (fun i r h' hi I => ?_) (fun r h' I => ?_) ns.length 0 _ h (by omega) ⟨rfl, rfl, by simp⟩
  ·obtain ⟨rfl, rfl, I⟩ := I
   obtain ⟨l, l1, l2, rfl⟩ := g i hi
   cases hs : Cod.short ns[i] with
   | true =>
    left
    refine ⟨_, _, .aR fun c i' K => ?_, rfl, rfl, by rw [gF hi, I, hs]; rfl⟩
    simp only [xq, K3, qg, qh, qi]
    (rw [bA, bH, if_pos (by omega), du (ct sl hi), aC (cB l2 rfl), iP, br, iO, br, bH, if_neg (by unfold Cod.short at hs; simp at hs; show ¬ (65535 : Int) < _; omega), mG, lO _ (by unfold dL; simp; omega)]; try rfl)
   | false =>
    right
    refine ⟨_, .inl rfl, .gG (.aR fun c i' K => ?_)⟩
    simp only [xq, K3, qg, qh, qi]
    (rw [bA, bH, if_pos (by omega), du (ct sl hi), aC (cB l2 rfl), iP, br, iO, br, bH, if_pos (by unfold Cod.short at hs; simp at hs; show (65535 : Int) < _; omega), all_false hi hs]; try rfl)
  ·obtain ⟨rfl, rfl, I⟩ := I
   refine ⟨_, .inr ⟨⟨T46 x (i64 ns.length) (i64 ns.length), rfl⟩, by simpa using I⟩, .eI (.aR fun c i' K => ?_)⟩
   simp only [xq, K3, qg, qh, qi]
   (rw [bA, bH, if_neg (by omega)]; try rfl)
 obtain ⟨s, hs, k⟩ := key
 have k1 : Rn p (.ah k53_1 (.block 0 (.loop (.ah xq .skip)))) (T34 x) h (RS.rec (fun _ _ => s) (fun _ r h => .nm r h) (fun _ _ _ => s) (fun _ _ => s) (fun _ => s) (fun _ _ _ => s) s) := by
  refine .ef (r' := T46 x (i64 ns.length) i0) (h' := h) (fun c i' K => ?_) ?_
  ·simp only [k53_1, K1, xu]
   (rw [bt (eY sl)]; try rfl)
  ·rcases hs with rfl | ⟨⟨r', rfl⟩, _⟩
   ·exact .cV k
   ·exact .bN k
 rcases hs with rfl | ⟨⟨r', rfl⟩, ha⟩
 ·exact .of (r' := T11 (.bool (ns.all Cod.short))) (h1 := h) e (by simp) (.ef (r' := T34 x) (h' := h) (fun c i' K => by simp only [k53_0, K1, dE]) (.dn k1)) rfl
 ·refine .of (r' := T11 (.bool (ns.all Cod.short))) (h1 := h) e (by simp) (.ef (r' := T34 x) (h' := h) (fun c i' K => by simp only [k53_0, K1, dE]) (.seq k1 (.aR fun c i' K => ?_))) rfl
  rw [ha]; rfl
theorem Lm (W : Wf h) {el : Nat} {v z : AV} (hv : v.one = true) (hc : AV.cs v = [v]) (ha : v.asAgg = .no) : ∃ j h', Seat.bs el 1 1 [z] [.mk 0 1 (.c v)] h = .ok (.slice j 0 1 1) h' ∧ Cs h' j 0 [v] ∧ Old h h' ∧ Wf h' := by
 obtain ⟨j, h1, f1, f2, f3, f4, f5, f6⟩ := iL (el := el) (es := 1) (n := 1) (z := [z]) (ps := [.mk 0 1 (.c v)]) (l := [v]) W (by
  show (OL.rec (@Bool.rec (fun _ => Bool) false true (Bool.and v.one (Nat.beq 1 1))) (fun l => @Bool.rec (fun _ => Bool) false true (Nat.beq l.length 1)) v.asAgg : Bool) = true
  rw [ha, hv]; rfl) (by show nR (AV.cs v) 0 [z] = [v]; rw [hc]; rfl) (by simp)
 exact ⟨j, h1, f1, f3.cs (k := 0) (fun j hj => ⟨by omega, by simp⟩) (by simp), f4, f5⟩
theorem EO (W : Wf h) {el : Nat} {z : AV} (n : Int) : ∃ x h', Seat.bs el 1 1 [z] [.mk 0 1 (.c (i64 n))] h = .ok x h' ∧ dt h' 1 (fun l n => l = [i64 n]) x [n] ∧ Old h h' ∧ Wf h' := by
 obtain ⟨j, h1, f1, f2, f3, f4⟩ := Lm W (el := el) (v := i64 n) (z := z) rfl rfl rfl
 refine ⟨_, h1, f1, ⟨j, 0, .inl ⟨1, by simp, rfl⟩, fun i hi => ⟨_, rfl, ?_, rfl⟩⟩, f3, f4⟩
 have : i = 0 := by simpa using hi
 subst this
 simpa using f2
theorem yY (W : Wf h) {el : Nat} {z : AV} (n : Bs) : ∃ x h', Seat.bs el 1 1 [z] [.mk 0 1 (.c (bB n))] h = .ok x h' ∧ dt h' 1 (fun l n => l = [bB n]) x [n] ∧ Old h h' ∧ Wf h' := by
 obtain ⟨j, h1, f1, f2, f3, f4⟩ := Lm W (el := el) (v := bB n) (z := z) rfl rfl rfl
 refine ⟨_, h1, f1, ⟨j, 0, .inl ⟨1, by simp, rfl⟩, fun i hi => ⟨_, rfl, ?_, rfl⟩⟩, f3, f4⟩
 have : i = 0 := by simpa using hi
 subst this
 simpa using f2
end
open Go.Cod
noncomputable section
variable {p : Pg} {h0 h h' h1 : Hp} {q j : P4} {s : Bs} {x y a b d : AV}
theorem Ok (e38 : aq 52 p.fs = f52) (e39 : aq 53 p.fs = f53) {v : lQ} (W : Wf h) (c : Cs h j 0 (jc v)) : ∃ r' h', Os p [of d14 0 r4, ol d15 r14, o d16 (.cu 3 1 1 [i0] [.mk 0 1 r15]), oc d17 52 [r16], o d18 (.un .not r17), m d19 r18,
   .g .h1 .h3 false d20 (.op (.lS 2 r4)), .g .h1 .h3 false d21 (.op (.lP r20)), .g .h1 .h3 false d22 (.op (.cu 9 1 1 [iS] [.mk 0 1 r21])), .g .h1 .h3 false d23 (.call 53 [r22]), .g .h1 .h3 false d24 (.op (.un .not r23)),
   o d25 (.pick r19 (.c (.bool true)) r24)] (T48 (.ptr j 0) a b d) h (.nm r' h') ∧ y8 r' = a ∧ y9 r' = b ∧ y10 r' = d ∧ y25 r' = .bool (!eZ v) ∧ Old h h' ∧ Wf h' := by
 obtain ⟨x1, h1, f1, f2, f3, f4⟩ := EO W (el := 3) (z := i0) v.kind
 have n1 := rK (h := h1) e38 f2 (by simp)
 cases hk : small v.kind with
 | true =>
  have n1 : Cv p 52 [x1] h1 (.bool true) h1 := by simpa [hk] using n1
  obtain ⟨x2, h2, g1, g2, g3, g4⟩ := yY f4 (el := 9) (z := iS) v.s
  have n2 : Cv p 53 [x2] h2 (.bool (Cod.short v.s)) h2 := by simpa using qt (h := h2) e39 g2 (by simp)
  refine ⟨_, h2, .step (v := .ptr j 0) (h' := h) rfl <| .step (v := i64 v.kind) (h' := h) (cB c rfl) <| .step (v := x1) (h' := h1) f1 <| .call (v := .bool true) (h' := h1) n1 <|
   .step (v := .bool false) (h' := h1) rfl <| .step (v := .bool false) (h' := h1) rfl <| .on rfl <| .step (v := .ptr j 2) (h' := h1) rfl <| .on rfl <| .step (v := bB v.s) (h' := h1) (aw (c.old f3) 2 rfl) <|
   .on rfl <| .step (v := x2) (h' := h2) g1 <| .on rfl <| .call (v := .bool (Cod.short v.s)) (h' := h2) n2 <| .on rfl <| .step (v := .bool (!Cod.short v.s)) (h' := h2) (iQ _) <| .step (v := .bool (!Cod.short v.s)) (h' := h2) rfl <| .nil,
   rfl, rfl, rfl, ?_, f3.trans g3, g4⟩
  unfold eZ
  rw [hk]; rfl
 | false =>
  have n1 : Cv p 52 [x1] h1 (.bool false) h1 := by simpa [hk] using n1
  refine ⟨_, h1, .step (v := .ptr j 0) (h' := h) rfl <| .step (v := i64 v.kind) (h' := h) (cB c rfl) <| .step (v := x1) (h' := h1) f1 <| .call (v := .bool false) (h' := h1) n1 <|
   .step (v := .bool true) (h' := h1) rfl <| .step (v := .bool true) (h' := h1) rfl <| .off rfl <| .off rfl <| .off rfl <| .off rfl <| .off rfl <| .step (v := .bool true) (h' := h1) rfl <| .nil,
   rfl, rfl, rfl, ?_, f3, f4⟩
  unfold eZ
  rw [hk]; rfl
theorem Ol {body c A : AC} {bb : Bool} {i : Nat} {r r0 : A2} {P : Hp → Prop} (key : ∃ s, (∃ h', P h' ∧ ((∃ r', s = .ex i r' h' ∧ bb = true) ∨ (s = .ret (T11 (.bool false)) h' ∧ bb = false))) ∧ Rn p (.loop body) r h s)
  (fin : ∀ r' h', Rn p A r' h' (.ret (T11 (.bool true)) h')) (pre : ∀ s, Rn p (.block i (.loop body)) r h s → Rn p c r0 h1 s) : ∃ h', P h' ∧ Rn p (.seq c A) r0 h1 (.ret (T11 (.bool bb)) h') := by
 obtain ⟨s, ⟨h', hp, ⟨r', rfl, rfl⟩ | ⟨rfl, rfl⟩⟩, k⟩ := key
 ·exact ⟨h', hp, .seq (pre _ (.bN k)) (fin _ _)⟩
 ·exact ⟨h', hp, .dn (pre _ (.cV k))⟩
def bh : AC → AC
 | .ah _ x => x
 | .seq _ x => x
 | c => c
theorem RR (e38 : aq 52 p.fs = f52) (e39 : aq 53 p.fs = f53) (e40 : aq 54 p.fs = f54) (W : Wf h) {row : List lQ} (r : dP h x row) (hn : row.length < 9223372036854775807) :
  ∃ h', Cv p 54 [x] h (.bool (decide (row.length ≤ 255) && row.all eZ)) h' ∧ Old h h' ∧ Wf h' := by
 obtain ⟨q, o', sl, g⟩ := dt.sl r
 by_cases hl : row.length ≤ 255
 ·have fin : ∃ h', (Old h h' ∧ Wf h') ∧ Rn p (bh x54) (T34 x) h (.ret (T11 (.bool (row.all eZ))) h') := by
   refine Ol (r := T47 x (i64 row.length) i0) (h := h) ?_ (fun r' h' => .aR fun c i K => rfl) (fun s e => .ef (r' := T47 x (i64 row.length) i0) (h' := h) (fun c i K => ?_) e)
   ·refine eT row.length (Inv := fun i r h' => r = T47 x (i64 row.length) (i64 i) ∧ (Old h h' ∧ Wf h') ∧ (row.take i).all eZ = true) (fun i r h' hi I => ?_) (fun r h' I => ?_) row.length 0 _ h (by omega) ⟨rfl, ⟨.refl h, W⟩, by simp⟩
    ·obtain ⟨rfl, ⟨O, W'⟩, I⟩ := I
     obtain ⟨l, l1, l2, rfl⟩ := g i hi
     obtain ⟨j, h2, c1, c2, c3, c4, c5, _⟩ := AN (el := 50) W' sl hi (l2.old O) l1 (c0 := .k1 (Y3 i0 i0 iS)) trivial (by decide)
     obtain ⟨r3, h3, o1, o2, o3, o4, o5, o6, o7⟩ := Ok (p := p) (a := x) (b := i64 row.length) (d := i64 i) e38 e39 c5 (c3.cs (k := 0) (m := jc row[i]) (fun j hj => ⟨by omega, by simp⟩) (by simp))
     have s1 : ∀ c i' (K : A2 → Hp → RS), k54_2 c i' K (T47 x (i64 row.length) (i64 i)) h' = K (T47 x (i64 row.length) (i64 i)) h' := fun c i' K => by
      simp only [k54_2, K3, t47_8, t47_9, t47_10]
      (rw [bA, bH, if_pos (by omega)]; try rfl)
     have s2 : ∀ c i' (K : A2 → Hp → RS), k54_3 c i' K (T47 x (i64 row.length) (i64 i)) h' = K (T48 (.ptr j 0) x (i64 row.length) (i64 i)) h2 := fun c i' K => by
      simp only [k54_3, K3, t47_8, t47_9, t47_10]
      (rw [c1]; try rfl)
     have s3 : ∀ c i' (K : A2 → Hp → RS), k54_4 c i' K r3 h3 = Seat.I (.bool (!eZ row[i])) (.ret (T11 (.bool false)) h3) (.nm (T47 x (i64 row.length) (i64 i)) h3) := fun c i' K => by
      simp only [k54_4, K4, o2, o3, o4, o5]
     cases hs : eZ row[i] with
     | true =>
      refine .inl ⟨_, h3, .ef s1 (.seq (.block (.ef s2 (.seq (.ops o1) (.aR fun c i' K => by rw [s3, hs, Bool.not_true, fK])))) (.aR (s := .nm (T47 x (i64 row.length) (i64 (i + 1))) h3) fun c i' K => ?_)), rfl, ⟨(O.trans c4).trans o6, o7⟩, by rw [gF hi, I, hs]; rfl⟩
      simp only [k54_5, K3, t47_8, t47_9, t47_10]
      (rw [mG, lO _ (by unfold dL; simp; omega)]; try rfl)
     | false =>
      exact .inr ⟨_, ⟨h3, ⟨(O.trans c4).trans o6, o7⟩, .inr ⟨rfl, all_false hi hs⟩⟩, .gG (.ef s1 (.dn (.cV (.ef s2 (.seq (.ops o1) (.aR fun c i' K => by rw [s3, hs, Bool.not_false, gY]))))))⟩
    ·obtain ⟨rfl, O, I⟩ := I
     refine ⟨_, ⟨h', O, .inl ⟨T6, rfl, by simpa using I⟩⟩, .eI (.aR fun c i' K => ?_)⟩
     simp only [k54_2, K3, t47_8, t47_9, t47_10]
     (rw [bA, bH, if_neg (by omega)]; try rfl)
   ·simp only [k54_1, K1, xu]
    (rw [bt (eY sl)]; try rfl)
  obtain ⟨h', O, k⟩ := fin
  refine ⟨h', .of (r' := T11 (.bool (row.all eZ))) (h1 := h') e40 (by simp) (.ef (r' := T34 x) (h' := h) (fun c i K => ?_) k) (by rw [decide_eq_true hl]; rfl), O⟩
  simp only [k54_0, K1, dE]
  (rw [bt (eY sl), iO, br, bH, if_neg (by show ¬ (255 : Int) < _; omega)]; try rfl)
 ·refine ⟨h, .of (r' := T11 (.bool false)) (h1 := h) e40 (by simp) (.aR fun c i K => ?_) (by rw [decide_eq_false hl]; rfl), .refl h, W⟩
  simp only [k54_0, K1, dE]
  (rw [bt (eY sl), iO, br, bH, if_pos (by show (255 : Int) < _; omega)]; try rfl)
end
open Go.Cod
noncomputable section
variable {p : Pg} {h0 h h' h1 : Hp} {q j : P4} {s : Bs} {x y a b d : AV}
theorem Om (W : Wf h) {el : Nat} {z : AV} (a b c : Int) : ∃ x h', Seat.bs el 1 3 [z, z, z] [.mk 0 1 (.c (i64 a)), .mk 1 1 (.c (i64 b)), .mk 2 1 (.c (i64 c))] h = .ok x h' ∧ dt h' 1 (fun l n => l = [i64 n]) x [a, b, c] ∧ Old h h' ∧ Wf h' := by
 obtain ⟨j, h1, f1, f2, f3, f4, f5, f6⟩ := iL (el := el) (es := 1) (n := 3) (z := [z, z, z]) (ps := [.mk 0 1 (.c (i64 a)), .mk 1 1 (.c (i64 b)), .mk 2 1 (.c (i64 c))]) (l := [i64 a, i64 b, i64 c]) W rfl rfl (by simp)
 refine ⟨_, h1, f1, ⟨j, 0, .inl ⟨3, by simp, rfl⟩, fun i hi => ⟨_, rfl, f3.cs (k := 0 + i * 1) (m := [i64 ([a, b, c][i])]) (fun k hk => ?_) (by simp at hi ⊢; omega), rfl⟩⟩, f4, f5⟩
 have hk : k = 0 := by simpa using hk
 subst hk
 have hi : i < 3 := hi
 match i, hi with
 | 0, _ => exact ⟨by simp, rfl⟩
 | 1, _ => exact ⟨by simp, rfl⟩
 | 2, _ => exact ⟨by simp, rfl⟩
theorem Oo (W : Wf h) {el : Nat} {z : AV} (a b : Bs) : ∃ x h', Seat.bs el 1 2 [z, z] [.mk 0 1 (.c (bB a)), .mk 1 1 (.c (bB b))] h = .ok x h' ∧ dt h' 1 (fun l n => l = [bB n]) x [a, b] ∧ Old h h' ∧ Wf h' := by
 obtain ⟨j, h1, f1, f2, f3, f4, f5, f6⟩ := iL (el := el) (es := 1) (n := 2) (z := [z, z]) (ps := [.mk 0 1 (.c (bB a)), .mk 1 1 (.c (bB b))]) (l := [bB a, bB b]) W rfl rfl (by simp)
 refine ⟨_, h1, f1, ⟨j, 0, .inl ⟨2, by simp, rfl⟩, fun i hi => ⟨_, rfl, f3.cs (k := 0 + i * 1) (m := [bB ([a, b][i])]) (fun k hk => ?_) (by simp at hi ⊢; omega), rfl⟩⟩, f4, f5⟩
 have hk : k = 0 := by simpa using hk
 subst hk
 have hi : i < 2 := hi
 match i, hi with
 | 0, _ => exact ⟨by simp, rfl⟩
 | 1, _ => exact ⟨by simp, rfl⟩
theorem dt.len {α : Type} {es : Nat} {f : List AV → α → Prop} {x : AV} {xs : List α} (r : dt h es f x xs) : Am.len x h = .ok (.int .i64 (xs.length : Int)) h := by
 obtain ⟨q, o, sl, _⟩ := dt.sl r
 exact eY sl
def fst : AC → AC
 | .seq a _ => a
 | .ah _ a => a
 | .block _ a => a
 | .loop a => a
 | c => c
def dp : Nat → AC → AC
 | 0, c => c
 | n + 1, c => dp n (fst c)
def opsL : AC → List GI
 | .ops l => l
 | _ => []
theorem PU (n : Nat) : bK .gt (i64 n) (pi 255) h = .ok (.bool (!decide (n ≤ 255))) h := by
 show dx (.int .i64 n) (.int .i64 (.ofNat 255)) h = _
 rw [iO, ← decide_not]
 congr 2
 rw [decide_eq_decide]
 show (255 : Int) < _ ↔ _
 omega
def lB (e : jA) : Bool := (small e.aK && small e.seq && small e.kind) && (Cod.short e.name && Cod.short e.text) && decide (e.bP.length ≤ 255) && decide (e.changes.length ≤ 255)
theorem Oq (e38 : aq 52 p.fs = f52) (e39 : aq 53 p.fs = f53) {e : jA} (W : Wf h) (c : Cs h j 0 (cZ x y e)) (r1 : aO h x e.bP) (r2 : aZ h y e.changes) :
  ∃ r' h', Os p (opsL (fst (fst (bh x28)))) (T12 (.ptr j 0)) h (.nm r' h') ∧ y1 r' = .ptr j 0 ∧ y36 r' = .bool (!lB e) ∧ Old h h' ∧ Wf h' := by
 obtain ⟨x1, h1, f1, f2, f3, f4⟩ := Om W (el := 3) (z := i0) e.aK e.seq e.kind
 have n1 := rK (h := h1) e38 f2 (by simp)
 cases hk : [e.aK, e.seq, e.kind].all small with
 | false =>
  rw [hk] at n1
  refine ⟨_, h1, .step (v := .ptr j 0) (h' := h) rfl <| .step (v := i64 e.aK) (h' := h) (cB c rfl) <| .step (v := .ptr j 1) (h' := h) rfl <| .step (v := i64 e.seq) (h' := h) (aw c 1 rfl) <| .step (v := .ptr j 2) (h' := h) rfl <| .step (v := i64 e.kind) (h' := h) (aw c 2 rfl) <| .step (v := x1) (h' := h1) f1 <| .call (v := .bool false) (h' := h1) n1 <| .step (v := .bool true) (h' := h1) rfl <| .step (v := .bool true) (h' := h1) rfl <| .off rfl <| .off rfl <| .off rfl <| .off rfl <| .off rfl <| .off rfl <| .off rfl <| .step (v := .bool true) (h' := h1) rfl <| .step (v := .bool true) (h' := h1) rfl <| .off rfl <| .off rfl <| .off rfl <| .off rfl <| .step (v := .bool true) (h' := h1) rfl <| .step (v := .bool true) (h' := h1) rfl <| .off rfl <| .off rfl <| .off rfl <| .off rfl <| .step (v := .bool true) (h' := h1) rfl <| .nil, rfl, ?_, f3, f4⟩
  have : (small e.aK && small e.seq && small e.kind) = false := by simpa [Bool.and_assoc] using hk
  unfold lB; rw [this]; rfl
 | true =>
  rw [hk] at n1
  have k1 : (small e.aK && small e.seq && small e.kind) = true := by simpa [Bool.and_assoc] using hk
  obtain ⟨x2, h2, g1, g2, g3, g4⟩ := Oo f4 (el := 9) (z := iS) e.name e.text
  have n2 := qt (h := h2) e39 g2 (by simp)
  cases hk2 : [e.name, e.text].all Cod.short with
  | false =>
   rw [hk2] at n2
   refine ⟨_, h2, .step (v := .ptr j 0) (h' := h) rfl <| .step (v := i64 e.aK) (h' := h) (cB c rfl) <| .step (v := .ptr j 1) (h' := h) rfl <| .step (v := i64 e.seq) (h' := h) (aw c 1 rfl) <| .step (v := .ptr j 2) (h' := h) rfl <| .step (v := i64 e.kind) (h' := h) (aw c 2 rfl) <| .step (v := x1) (h' := h1) f1 <| .call (v := .bool true) (h' := h1) n1 <| .step (v := .bool false) (h' := h1) rfl <| .step (v := .bool false) (h' := h1) rfl <| .on rfl <| .step (v := .ptr j 3) (h' := h1) rfl <| .on rfl <| .step (v := bB e.name) (h' := h1) (aw (c.old f3) 3 rfl) <| .on rfl <| .step (v := .ptr j 4) (h' := h1) rfl <| .on rfl <| .step (v := bB e.text) (h' := h1) (aw (c.old f3) 4 rfl) <| .on rfl <| .step (v := x2) (h' := h2) g1 <| .on rfl <| .call (v := .bool false) (h' := h2) n2 <| .on rfl <| .step (v := .bool true) (h' := h2) rfl <| .step (v := .bool true) (h' := h2) rfl <| .step (v := .bool true) (h' := h2) rfl <| .off rfl <| .off rfl <| .off rfl <| .off rfl <| .step (v := .bool true) (h' := h2) rfl <| .step (v := .bool true) (h' := h2) rfl <| .off rfl <| .off rfl <| .off rfl <| .off rfl <| .step (v := .bool true) (h' := h2) rfl <| .nil, rfl, ?_, f3.trans g3, g4⟩
   have : (Cod.short e.name && Cod.short e.text) = false := by simpa using hk2
   unfold lB; rw [k1, this]; rfl
  | true =>
   rw [hk2] at n2
   have k2 : (Cod.short e.name && Cod.short e.text) = true := by simpa using hk2
   have gt3 := PU (h := h2) e.bP.length
   have gt4 := PU (h := h2) e.changes.length
   cases hk3 : decide (e.bP.length ≤ 255) with
   | false =>
    rw [hk3] at gt3
    refine ⟨_, h2, .step (v := .ptr j 0) (h' := h) rfl <| .step (v := i64 e.aK) (h' := h) (cB c rfl) <| .step (v := .ptr j 1) (h' := h) rfl <| .step (v := i64 e.seq) (h' := h) (aw c 1 rfl) <| .step (v := .ptr j 2) (h' := h) rfl <| .step (v := i64 e.kind) (h' := h) (aw c 2 rfl) <| .step (v := x1) (h' := h1) f1 <| .call (v := .bool true) (h' := h1) n1 <| .step (v := .bool false) (h' := h1) rfl <| .step (v := .bool false) (h' := h1) rfl <| .on rfl <| .step (v := .ptr j 3) (h' := h1) rfl <| .on rfl <| .step (v := bB e.name) (h' := h1) (aw (c.old f3) 3 rfl) <| .on rfl <| .step (v := .ptr j 4) (h' := h1) rfl <| .on rfl <| .step (v := bB e.text) (h' := h1) (aw (c.old f3) 4 rfl) <| .on rfl <| .step (v := x2) (h' := h2) g1 <| .on rfl <| .call (v := .bool true) (h' := h2) n2 <| .on rfl <| .step (v := .bool false) (h' := h2) rfl <| .step (v := .bool false) (h' := h2) rfl <| .step (v := .bool false) (h' := h2) rfl <| .on rfl <| .step (v := .ptr j 5) (h' := h2) rfl <| .on rfl <| .step (v := x) (h' := h2) (aw (c.old (f3.trans g3)) 5 rfl) <| .on rfl <| .step (v := i64 e.bP.length) (h' := h2) (dt.len (aO.up r1 (f3.trans g3))) <| .on rfl <| .step (v := .bool true) (h' := h2) gt3 <| .step (v := .bool true) (h' := h2) rfl <| .step (v := .bool true) (h' := h2) rfl <| .off rfl <| .off rfl <| .off rfl <| .off rfl <| .step (v := .bool true) (h' := h2) rfl <| .nil, rfl, ?_, f3.trans g3, g4⟩
    unfold lB; rw [k1, k2, hk3]; rfl
   | true =>
    rw [hk3] at gt3
    refine ⟨_, h2, .step (v := .ptr j 0) (h' := h) rfl <| .step (v := i64 e.aK) (h' := h) (cB c rfl) <| .step (v := .ptr j 1) (h' := h) rfl <| .step (v := i64 e.seq) (h' := h) (aw c 1 rfl) <| .step (v := .ptr j 2) (h' := h) rfl <| .step (v := i64 e.kind) (h' := h) (aw c 2 rfl) <| .step (v := x1) (h' := h1) f1 <| .call (v := .bool true) (h' := h1) n1 <| .step (v := .bool false) (h' := h1) rfl <| .step (v := .bool false) (h' := h1) rfl <| .on rfl <| .step (v := .ptr j 3) (h' := h1) rfl <| .on rfl <| .step (v := bB e.name) (h' := h1) (aw (c.old f3) 3 rfl) <| .on rfl <| .step (v := .ptr j 4) (h' := h1) rfl <| .on rfl <| .step (v := bB e.text) (h' := h1) (aw (c.old f3) 4 rfl) <| .on rfl <| .step (v := x2) (h' := h2) g1 <| .on rfl <| .call (v := .bool true) (h' := h2) n2 <| .on rfl <| .step (v := .bool false) (h' := h2) rfl <| .step (v := .bool false) (h' := h2) rfl <| .step (v := .bool false) (h' := h2) rfl <| .on rfl <| .step (v := .ptr j 5) (h' := h2) rfl <| .on rfl <| .step (v := x) (h' := h2) (aw (c.old (f3.trans g3)) 5 rfl) <| .on rfl <| .step (v := i64 e.bP.length) (h' := h2) (dt.len (aO.up r1 (f3.trans g3))) <| .on rfl <| .step (v := .bool false) (h' := h2) gt3 <| .step (v := .bool false) (h' := h2) rfl <| .step (v := .bool false) (h' := h2) rfl <| .on rfl <| .step (v := .ptr j 6) (h' := h2) rfl <| .on rfl <| .step (v := y) (h' := h2) (aw (c.old (f3.trans g3)) 6 rfl) <| .on rfl <| .step (v := i64 e.changes.length) (h' := h2) (dt.len (aZ.up r2 (f3.trans g3))) <| .on rfl <| .step (v := .bool (!decide (e.changes.length ≤ 255))) (h' := h2) gt4 <| .step (v := .bool (!decide (e.changes.length ≤ 255))) (h' := h2) rfl <| .nil, rfl, ?_, f3.trans g3, g4⟩
    unfold lB; rw [k1, k2, hk3]; rfl
theorem Ot (e38 : aq 52 p.fs = f52) (e39 : aq 53 p.fs = f53) {cl : Bs × Int} (W : Wf h) (c : Cs h j 0 [bB cl.1, i64 cl.2]) :
  ∃ r' h', Os p (opsL (dp 9 (bh (bh x28)))) (T40 a (.ptr j 0) b d y) h (.nm r' h') ∧ y1 r' = a ∧ y38 r' = b ∧ y39 r' = d ∧ y40 r' = y ∧ y55 r' = .bool (!(Cod.short cl.1 && small cl.2)) ∧ Old h h' ∧ Wf h' := by
 obtain ⟨x1, h1, f1, f2, f3, f4⟩ := EO W (el := 3) (z := i0) cl.2
 have n1 := rK (h := h1) e38 f2 (by simp)
 cases hk : small cl.2 with
 | true =>
  have n1 : Cv p 52 [x1] h1 (.bool true) h1 := by simpa [hk] using n1
  obtain ⟨x2, h2, g1, g2, g3, g4⟩ := yY f4 (el := 9) (z := iS) cl.1
  have n2 : Cv p 53 [x2] h2 (.bool (Cod.short cl.1)) h2 := by simpa using qt (h := h2) e39 g2 (by simp)
  refine ⟨_, h2, .step (v := .ptr j 1) (h' := h) rfl <| .step (v := i64 cl.2) (h' := h) (aw c 1 rfl) <| .step (v := x1) (h' := h1) f1 <| .call (v := .bool true) (h' := h1) n1 <| .step (v := .bool false) (h' := h1) rfl <| .step (v := .bool false) (h' := h1) rfl <| .on rfl <| .step (v := .ptr j 0) (h' := h1) rfl <| .on rfl <| .step (v := bB cl.1) (h' := h1) (cB (c.old f3) rfl) <| .on rfl <| .step (v := x2) (h' := h2) g1 <| .on rfl <| .call (v := .bool (Cod.short cl.1)) (h' := h2) n2 <| .on rfl <| .step (v := .bool (!Cod.short cl.1)) (h' := h2) (iQ _) <| .step (v := .bool (!Cod.short cl.1)) (h' := h2) rfl <| .nil, rfl, rfl, rfl, rfl, ?_, f3.trans g3, g4⟩
  rw [Bool.and_true]; rfl
 | false =>
  have n1 : Cv p 52 [x1] h1 (.bool false) h1 := by simpa [hk] using n1
  refine ⟨_, h1, .step (v := .ptr j 1) (h' := h) rfl <| .step (v := i64 cl.2) (h' := h) (aw c 1 rfl) <| .step (v := x1) (h' := h1) f1 <| .call (v := .bool false) (h' := h1) n1 <| .step (v := .bool true) (h' := h1) rfl <| .step (v := .bool true) (h' := h1) rfl <| .off rfl <| .off rfl <| .off rfl <| .off rfl <| .off rfl <| .step (v := .bool true) (h' := h1) rfl <| .nil, rfl, rfl, rfl, rfl, ?_, f3, f4⟩
  rw [Bool.and_false]; rfl
def RU (r : List lQ) : Bool := decide (r.length ≤ 255) && r.all eZ
theorem Ou (e38 : aq 52 p.fs = f52) (e39 : aq 53 p.fs = f53) (e40 : aq 54 p.fs = f54) {cg : nu} (W : Wf h) (c : Cs h j 0 (vP x cg)) (r : dP h x cg.row) (hn : cg.row.length < 9223372036854775807) :
  ∃ r' h', Os p (opsL (dp 9 (bh (bh (bh x28))))) (T42 (.ptr j 0) a b d) h (.nm r' h') ∧ y58 r' = a ∧ y59 r' = b ∧ y60 r' = d ∧ y74 r' = .bool (!iU cg) ∧ Old h h' ∧ Wf h' := by
 obtain ⟨x1, h1, f1, f2, f3, f4⟩ := yY W (el := 9) (z := iS) cg.table
 have n1 := qt (h := h1) e39 f2 (by simp)
 cases hk : Cod.short cg.table with
 | true =>
  have n1 : Cv p 53 [x1] h1 (.bool true) h1 := by simpa [hk] using n1
  obtain ⟨h2, n2, g3, g4⟩ := RR (p := p) e38 e39 e40 f4 (dP.up r f3) hn
  refine ⟨_, h2, .step (v := .ptr j 0) (h' := h) rfl <| .step (v := bB cg.table) (h' := h) (cB c rfl) <| .step (v := x1) (h' := h1) f1 <| .call (v := .bool true) (h' := h1) n1 <| .step (v := .bool false) (h' := h1) rfl <| .step (v := .bool false) (h' := h1) rfl <| .on rfl <| .step (v := .ptr j 1) (h' := h1) rfl <| .on rfl <| .step (v := x) (h' := h1) (aw (c.old f3) 1 rfl) <| .on rfl <| .call (v := .bool (RU cg.row)) (h' := h2) n2 <| .on rfl <| .step (v := .bool (!RU cg.row)) (h' := h2) (iQ _) <| .step (v := .bool (!RU cg.row)) (h' := h2) rfl <| .nil, rfl, rfl, rfl, ?_, f3.trans g3, g4⟩
  unfold iU; rw [hk, Bool.true_and]; rfl
 | false =>
  have n1 : Cv p 53 [x1] h1 (.bool false) h1 := by simpa [hk] using n1
  refine ⟨_, h1, .step (v := .ptr j 0) (h' := h) rfl <| .step (v := bB cg.table) (h' := h) (cB c rfl) <| .step (v := x1) (h' := h1) f1 <| .call (v := .bool false) (h' := h1) n1 <| .step (v := .bool true) (h' := h1) rfl <| .step (v := .bool true) (h' := h1) rfl <| .off rfl <| .off rfl <| .off rfl <| .off rfl <| .step (v := .bool true) (h' := h1) rfl <| .nil, rfl, rfl, rfl, ?_, f3, f4⟩
  unfold iU; rw [hk]; rfl
theorem Bj {α : Type} {f : List AV → α → Prop} {es el : Nat} {c0 : Cl} {xs : List α} {pred : α → Bool} {R : Nat → A2} {Rc : Nat → AV → A2} {kA kB kC kD : KF} {O : List GI} {bl lab : Nat} (rd : dt h es f x xs) (W : Wf h) (g0 : Gd c0) (g1 : es ≤ bz c0)
  (hA : ∀ i h c i' K, i < xs.length → kA c i' K (R i) h = K (R i) h) {Re : A2} (hE : ∀ h c i' K, kA c i' K (R xs.length) h = .ex lab Re h)
  (hB : ∀ i h c i' K, i < xs.length → kB c i' K (R i) h = Seat.X es x (.int .i64 (i : Int)) h (fun g h => Seat.M es g h fun k h => Seat.O el es c0 h fun l h => Seat.S es l k h fun _ h => K (Rc i l) h))
  (hO : ∀ i h2 j l a, i < xs.length → a ∈ xs → f l a → Old h h2 → Wf h2 → Cs h2 j 0 l → ∃ r' h3, Os p O (Rc i (.ptr j 0)) h2 (.nm r' h3) ∧ Old h2 h3 ∧ Wf h3 ∧ ∀ c i' K, kC c i' K r' h3 = Seat.I (.bool (!pred a)) (.ret (T11 (.bool false)) h3) (.nm (R i) h3))
  (hD : ∀ i h c i' K, i < xs.length → kD c i' K (R i) h = .nm (R (i + 1)) h) :
  ∃ s, (∃ h', (Old h h' ∧ Wf h') ∧ ((s = .ex lab Re h' ∧ xs.all pred = true) ∨ (s = .ret (T11 (.bool false)) h' ∧ xs.all pred = false))) ∧ Rn p (.loop (.ah kA (.seq (.block bl (.ah kB (.seq (.ops O) (.ah kC .skip)))) (.ah kD .skip)))) (R 0) h s := by
 obtain ⟨q, o', sl, g⟩ := dt.sl rd
 refine eT xs.length (Inv := fun i r h' => r = R i ∧ (Old h h' ∧ Wf h') ∧ (xs.take i).all pred = true) (fun i r h' hi I => ?_) (fun r h' I => ?_) xs.length 0 _ h (by omega) ⟨rfl, ⟨.refl h, W⟩, by simp⟩
 ·obtain ⟨rfl, ⟨O, W'⟩, I⟩ := I
  obtain ⟨l, l1, l2, l3⟩ := g i hi
  obtain ⟨j, h2, c1, c2, c3, c4, c5, _⟩ := AN (el := el) W' sl hi (l2.old O) l1 (c0 := c0) g0 g1
  obtain ⟨r3, h3, o1, o6, o7, o8⟩ := hO i h2 j l xs[i] hi (by simp) l3 (O.trans c4) c5 (c3.cs (k := 0) (m := l) (fun j hj => ⟨by omega, by simp⟩) (by simp))
  have s2 : ∀ c i' (K : A2 → Hp → RS), kB c i' K (R i) h' = K (Rc i (.ptr j 0)) h2 := fun c i' K => by rw [hB i h' c i' K hi, c1]
  cases hs : pred xs[i] with
  | true =>
   exact .inl ⟨_, h3, .ef (fun c i' K => hA i h' c i' K hi) (.seq (.block (.ef s2 (.seq (.ops o1) (.aR fun c i' K => by rw [o8, hs, Bool.not_true, fK])))) (.aR fun c i' K => hD i h3 c i' K hi)), rfl, ⟨(O.trans c4).trans o6, o7⟩, by rw [gF hi, I, hs]; rfl⟩
  | false =>
   exact .inr ⟨_, ⟨h3, ⟨(O.trans c4).trans o6, o7⟩, .inr ⟨rfl, all_false hi hs⟩⟩, .gG (.ef (fun c i' K => hA i h' c i' K hi) (.dn (.cV (.ef s2 (.seq (.ops o1) (.aR fun c i' K => by rw [o8, hs, Bool.not_false, gY]))))))⟩
 ·obtain ⟨rfl, O, I⟩ := I
  exact ⟨_, ⟨h', O, .inl ⟨rfl, by simpa using I⟩⟩, .eI (.aR fun c i' K => hE h' c i' K)⟩
end
open Go.Cod
noncomputable section
variable {p : Pg} {h0 h h' h1 : Hp} {q j : P4} {s : Bs} {x y a b d : AV}
theorem Ob.c0 {el : Nat} {ex : Bool} {fl : Fl} {l : List AV} (o : Ob h j el ex fl l) : Cs h j 0 l := o.cs (k := 0) (m := l) (fun k hk => ⟨by omega, by simp⟩) (by simp)
structure RW (p : Pg) : Prop where
 e10 : aq 15 p.fs = f15
 e26 : aq 28 p.fs = f28
 e38 : aq 52 p.fs = f52
 e39 : aq 53 p.fs = f53
 e40 : aq 54 p.fs = f54
theorem dS {h : Hp} {k : AV → Hp → RS} {i n : Nat} (hi : i < n) (hn : n < 9223372036854775807) : Seat.D (i64 (i : Int)) i1 h k = k (i64 ((i + 1 : Nat) : Int)) h := by
 rw [mG, lO _ (by unfold dL; simp; omega)]; rfl
theorem Bl (T : RW p) (W : Wf h) {l : List AV} {e : jA} {B : Nat} (r : eE h l e) (bd : wO B e) (hB : B < 9223372036854775807) : ∃ h', Cv p 28 [.agg l] h (.bool (takes e)) h' ∧ Old h h' ∧ Wf h' := by
 obtain ⟨x, y, rfl, r1, r2⟩ := r
 obtain ⟨b1, b2, b3, b4, b5, b6, b7, b8, b9⟩ := bd
 obtain ⟨j, h1, f1, f2, f3, f4, f5, f6⟩ := oh (el := 25) (l := cZ x y e) W (by simp [cZ])
 obtain ⟨r3, h3, o1, o2, o3, o4, o5⟩ := Oq (p := p) T.e38 T.e39 f5 (Ob.c0 f3) (aO.up r1 f4) (aZ.up r2 f4)
 have ht : takes e = (lB e && e.bP.all (fun c => Cod.short c.1 && small c.2) && e.changes.all iU) := by unfold takes lB; simp only [Bool.and_assoc]
 have s0 : ∀ c i' (K : A2 → Hp → RS), k28_0 c i' K (aY [.agg (cZ x y e)] 0 .nil) h = K (T12 (.ptr j 0)) h1 := fun c i' K => by
  simp only [k28_0, K1, dE]
  (rw [lJ f1]; try rfl)
 have s1 : ∀ c i' (K : A2 → Hp → RS), k28_1 c i' K r3 h3 = Seat.I (.bool (!lB e)) (.ret (T11 (.bool false)) h3) (.nm (T12 (.ptr j 0)) h3) := fun c i' K => by simp only [k28_1, K2, o2, o3]
 have out : ∀ (bb : Bool) (h' : Hp), Rn p (bh x28) (T12 (.ptr j 0)) h1 (.ret (T11 (.bool bb)) h') → Cv p 28 [.agg (cZ x y e)] h (.bool bb) h' := fun bb h' k => .of T.e26 (by simp) (.ef s0 k) rfl
 cases hk : lB e with
 | false =>
  refine ⟨h3, out _ _ (.dn (.seq (.ops o1) (.aR fun c i' K => ?_))), f4.trans o4, o5⟩
  rw [s1, hk, Bool.not_false, gY, ht, hk]; rfl
 | true =>
  have O3 := f4.trans o4
  have c3 := (Ob.c0 f3).old o4
  have rc := aO.up r1 O3
  have a1 : ∀ c i' (K : A2 → Hp → RS), k28_2 c i' K (T12 (.ptr j 0)) h3 = K (T39 (.ptr j 0) x (i64 e.bP.length) i0) h3 := fun c i' K => by
   simp only [k28_2, K1, t12_1]
   (rw [aA, aC (aw c3 5 rfl), bt (dt.len rc)]; try rfl)
  obtain ⟨s4, ⟨h4, ⟨O4, W4⟩, k4⟩, l4⟩ := Bj (p := p) (c0 := .k1 (Y2 iS i0)) (el := 41) (pred := fun c : Bs × Int => Cod.short c.1 && small c.2) (R := fun i => T39 (.ptr j 0) x (i64 e.bP.length) (i64 i)) (Rc := fun i l => T40 (.ptr j 0) l x (i64 e.bP.length) (i64 i))
   (kA := k28_3) (kB := k28_4) (kC := k28_5) (kD := k28_6) (O := opsL (dp 9 (bh (bh x28)))) (bl := 1) (lab := 0) rc o5 trivial (by decide)
   (fun i h c i' K hi => by
    simp only [k28_3, K4, t39_1, t39_38, t39_39, t39_40]
    (rw [bA, bH, if_pos (by omega)]; try rfl))
   (Re := T12 (.ptr j 0)) (fun h c i' K => by
    simp only [k28_3, K4, t39_1, t39_38, t39_39, t39_40]
    (rw [bA, bH, if_neg (by omega)]; try rfl))
   (fun i h c i' K hi => by simp only [k28_4, K4, t39_1, t39_38, t39_39, t39_40])
   (fun i h2 j2 l cl hi hm hl O2 W2 c2 => by
    subst hl
    obtain ⟨r', h3, p1, p2, p3, p4, p5, p6, p7, p8⟩ := Ot (p := p) (a := .ptr j 0) (b := x) (d := i64 e.bP.length) (y := i64 i) T.e38 T.e39 W2 c2
    exact ⟨r', h3, p1, p7, p8, fun c i' K => by simp only [k28_5, K5, p2, p3, p4, p5, p6]⟩)
   (fun i h c i' K hi => by
    simp only [k28_6, K4, t39_1, t39_38, t39_39, t39_40]
    (rw [dS hi (by omega)]; try rfl))
  rcases k4 with ⟨rfl, ha⟩ | ⟨rfl, ha⟩
  ·have O4' := O3.trans O4
   have c4 := c3.old O4
   have rg := aZ.up r2 O4'
   have a2 : ∀ c i' (K : A2 → Hp → RS), k28_7 c i' K (T12 (.ptr j 0)) h4 = K (T41 y (i64 e.changes.length) i0) h4 := fun c i' K => by
    simp only [k28_7, K1, t12_1]
    (rw [aA, aC (aw c4 6 rfl), bt (dt.len rg)]; try rfl)
   obtain ⟨s5, ⟨h5, ⟨O5, W5⟩, k5⟩, l5⟩ := Bj (p := p) (c0 := .k1 (Y3 iS .ar (.bool false))) (el := 48) (pred := iU) (R := fun i => T41 y (i64 e.changes.length) (i64 i)) (Rc := fun i l => T42 l y (i64 e.changes.length) (i64 i))
    (kA := k28_8) (kB := k28_9) (kC := k28_10) (kD := k28_11) (O := opsL (dp 9 (bh (bh (bh x28))))) (bl := 3) (lab := 2) rg W4 trivial (by decide)
    (fun i h c i' K hi => by
     simp only [k28_8, K3, t41_58, t41_59, t41_60]
     (rw [bA, bH, if_pos (by omega)]; try rfl))
    (Re := T6) (fun h c i' K => by
     simp only [k28_8, K3, t41_58, t41_59, t41_60]
     (rw [bA, bH, if_neg (by omega)]; try rfl))
    (fun i h c i' K hi => by simp only [k28_9, K3, t41_58, t41_59, t41_60])
    (fun i h2 j2 l cg hi hm hl O2 W2 c2 => by
     obtain ⟨z, rfl, hz⟩ := hl
     obtain ⟨r', h3, p1, p2, p3, p4, p5, p6, p7⟩ := Ou (p := p) (a := y) (b := i64 e.changes.length) (d := i64 i) T.e38 T.e39 T.e40 W2 c2 (dP.up hz O2) (by have := (b9 cg hm).2.1; omega)
     exact ⟨r', h3, p1, p6, p7, fun c i' K => by simp only [k28_10, K4, p2, p3, p4, p5]⟩)
    (fun i h c i' K hi => by
     simp only [k28_11, K3, t41_58, t41_59, t41_60]
     (rw [dS hi (by omega)]; try rfl))
   have pre : ∀ bb h' , Rn p (bh (bh (bh x28))) (T12 (.ptr j 0)) h4 (.ret (T11 (.bool bb)) h') → Rn p (bh x28) (T12 (.ptr j 0)) h1 (.ret (T11 (.bool bb)) h') := fun bb h' k =>
    .seq (.seq (.ops o1) (.aR (s := .nm (T12 (.ptr j 0)) h3) fun c i' K => by rw [s1, hk, Bool.not_true, fK])) (.seq (.ef a1 (.bN l4)) k)
   have hb : takes e = e.changes.all iU := by rw [ht, hk, ha]; simp
   rcases k5 with ⟨rfl, hc⟩ | ⟨rfl, hc⟩
   ·refine ⟨h5, out _ _ (pre _ _ (.seq (.ef a2 (.bN l5)) (.aR fun c i' K => ?_))), O4'.trans O5, W5⟩
    rw [hb, hc]; rfl
   ·refine ⟨h5, out _ _ (pre _ _ (.dn (.ef a2 (.cV ?_)))), O4'.trans O5, W5⟩
    rw [hb, hc]; exact l5
  ·refine ⟨h4, out _ _ (.seq (.seq (.ops o1) (.aR (s := .nm (T12 (.ptr j 0)) h3) fun c i' K => ?_)) (.dn (.ef a1 (.cV ?_)))), O3.trans O4, W4⟩
   ·rw [s1, hk, Bool.not_true, fK]
   ·rw [ht, hk, ha]
    exact l4
end
open Go.Cod
noncomputable section
variable {p : Pg} {h0 h h' h1 : Hp} {q j : P4} {s : Bs} {x y a b d e f : AV}
theorem il {α : Type} {g : α → Bs} {l : List α} {i : Nat} (hi : i < l.length) : (l.take (i + 1)).flatMap g = (l.take i).flatMap g ++ g l[i] := by
 rw [List.take_succ_eq_append_getElem hi, List.flatMap_append]; simp
theorem lC {α : Type} {g : α → Bs} (l : List α) (i : Nat) : ((l.take i).flatMap g).length ≤ (l.flatMap g).length := by
 conv => rhs; rw [← List.take_append_drop i l, List.flatMap_append, List.length_append]
 omega
theorem Wr.copy (w : Wr h0 h q s) {es n el o i : Nat} {x : AV} {q' : P4} {l : List AV} (sl : vO x es n q' o) (hi : i < n) (c : Cs h0 q' (o + i * es) l) (hl : l.length = es) {c0 : Cl} (hc : Gd c0) (hr : es ≤ bz c0) :
  ∃ j h1 h0', (∀ K : AV → Hp → RS, Seat.X es x (.int .i64 (i : Int)) h (fun g h => Seat.M es g h fun k h => Seat.O el es c0 h fun l h => Seat.S es l k h fun _ h => K l h) = K (.ptr j 0) h1) ∧ Old h0 h0' ∧ Wr h0' h1 q s ∧ Cs h0' j 0 l := by
 obtain ⟨j, h1, c1, c2, c3, c4, c5, _⟩ := AN (el := el) w.wf sl hi (c.old w.old) hl hc hr
 obtain ⟨h0', g1, g2, g3⟩ := w.base c4 c5
 exact ⟨j, h1, h0', c1, g1, g2, (Ob.c0 c3).eq (g3 j c2)⟩
theorem Ln (T : GL p) {row : List lQ} (w : Wr h0 h q s) (r : dP h0 x row) (hs : s.length + (row.flatMap mO).length ≤ 16777216) (hn : row.length < 9223372036854775807) :
  ∃ h', Rn p (.loop (.ah KU .skip)) (T20 (.ptr q 0) a b d e x (i64 row.length) i0) h (.ex 4 (T20 (.ptr q 0) a b d e x (i64 row.length) (i64 row.length)) h') ∧ Wr h0 h' q (s ++ row.flatMap mO) := by
 obtain ⟨q', o', sl, g⟩ := dt.sl r
 obtain ⟨r', h', ⟨_, I⟩, k⟩ := gv (p := p) (body := .ah KU .skip) (r := T20 (.ptr q 0) a b d e x (i64 row.length) i0) (h := h) row.length
  (Inv := fun i r h => r = T20 (.ptr q 0) a b d e x (i64 row.length) (i64 i) ∧ Wr h0 h q (s ++ (row.take i).flatMap mO)) (l := 4) (Re := T20 (.ptr q 0) a b d e x (i64 row.length) (i64 row.length)) (fun i r h hi I => by
   obtain ⟨rfl, w⟩ := I
   obtain ⟨l, l1, l2, rfl⟩ := g i hi
   obtain ⟨j, h1, h0', c1, c2, c3, c4⟩ := w.copy (el := 50) sl hi l2 l1 (c0 := .k1 (Y3 i0 i0 iS)) trivial (by decide)
   have hz : (s ++ (row.take i).flatMap mO).length + (mO row[i]).length ≤ 16777216 := by
    have := lC (g := mO) row (i + 1)
    rw [il hi, List.length_append] at this
    rw [List.length_append]; omega
   have hv : (mO row[i]).length = 8 + 8 + (2 + row[i].s.length) := by unfold mO; simp only [List.length_append, aQ, aN]
   obtain ⟨h2, a1, w2⟩ := nF T c3 (n := row[i].kind) (by omega)
   obtain ⟨h3, a2, w3⟩ := nF T w2 (n := row[i].n) (by rw [List.length_append, aQ]; omega)
   obtain ⟨h4, a3, w4⟩ := qq T w3 (t := row[i].s) (by rw [List.length_append, List.length_append, aQ, aQ]; omega)
   refine ⟨T20 (.ptr q 0) a b d e x (i64 row.length) (i64 (i + 1 : Nat)), h4, .ah ((a1.and (a2.and a3)).mono fun m g => ?_), rfl, ?_⟩
   ·obtain ⟨g1, g2, g3⟩ := g
    simp only [KU, K8, t20_3, t20_7, t20_62, t20_63, t20_64, t20_78, t20_79, t20_80]
    (rw [bA, bH, if_pos (by omega), c1, aA, aC (cB (c4.old c3.old) rfl), aM g1, aA, aC (aw (c4.old w2.old) 1 rfl), aM g2, aA, aC (aw (c4.old w3.old) 2 rfl), aM g3, dS hi hn]; try rfl)
   ·have := w4.US c2
    rw [il hi, mO]
    simpa only [List.append_assoc] using this) (fun r h I => by
   obtain ⟨rfl, w⟩ := I
   refine .aR fun c i K => ?_
   simp only [KU, K8, t20_3, t20_7, t20_62, t20_63, t20_64, t20_78, t20_79, t20_80]
   (rw [bA, bH, if_neg (by omega)]; try rfl)) ⟨rfl, by simpa using w⟩
 exact ⟨h', k, by simpa using I⟩
theorem Bm (c : nu) : (mN c).length = (2 + c.table.length) + 1 + (c.row.flatMap mO).length + 1 := by unfold mN; simp only [List.length_append, aN, bT]
theorem Lp (T : GL p) {cs : List nu} (w : Wr h0 h q s) (r : aZ h0 x cs) (hs : s.length + (cs.flatMap mN).length ≤ 16777216) (hn : cs.length < 9223372036854775807) (hr : ∀ c, c ∈ cs → c.row.length < 9223372036854775807) :
  ∃ h', Rn p (dp 3 (bh (bh (bh (bh x7))))) (T17 (.ptr q 0) x (i64 cs.length) i0) h (.ex 2 (T18 (.ptr q 0)) h') ∧ Wr h0 h' q (s ++ cs.flatMap mN) := by
 obtain ⟨q', o', sl, g⟩ := dt.sl r
 obtain ⟨r', h', ⟨_, I⟩, k⟩ := gv (p := p) (body := dp 4 (bh (bh (bh (bh x7))))) (r := T17 (.ptr q 0) x (i64 cs.length) i0) (h := h) cs.length
  (Inv := fun i r h => r = T17 (.ptr q 0) x (i64 cs.length) (i64 i) ∧ Wr h0 h q (s ++ (cs.take i).flatMap mN)) (l := 2) (Re := T18 (.ptr q 0)) (fun i r h hi I => by
   obtain ⟨rfl, w⟩ := I
   obtain ⟨l, l1, l2, z, rfl, hrow⟩ := g i hi
   obtain ⟨j, h1, h0', c1, c2, c3, c4⟩ := w.copy (el := 48) sl hi l2 l1 (c0 := .k1 (Y3 iS .ar (.bool false))) trivial (by decide)
   have hz : (s ++ (cs.take i).flatMap mN).length + (mN cs[i]).length ≤ 16777216 := by
    have := lC (g := mN) cs (i + 1)
    rw [il hi, List.length_append] at this
    rw [List.length_append]; omega
   rw [Bm] at hz
   have hl := hr cs[i] (by simp)
   obtain ⟨h2, a1, w2⟩ := qq T c3 (t := cs[i].table) (by omega)
   obtain ⟨h3, a2, w3⟩ := tp T w2 (n := cs[i].row.length) (by rw [List.length_append, aN]; omega)
   have hrow' : dP h0' z cs[i].row := dP.up hrow c2
   obtain ⟨h4, a3, w4⟩ := Ln (p := p) (a := .ptr j 0) (b := x) (d := i64 cs.length) (e := i64 i) T w3 hrow' (by rw [List.length_append, List.length_append, aN, bT]; omega) hl
   obtain ⟨h5, a4, w5⟩ := tp T w4 (n := if cs[i].remove then 1 else 0) (by rw [List.length_append, List.length_append, List.length_append, aN, bT]; omega)
   have s1 : ∀ c i' (K : A2 → Hp → RS), k7_6 c i' K (T17 (.ptr q 0) x (i64 cs.length) (i64 i)) h = K (T17 (.ptr q 0) x (i64 cs.length) (i64 i)) h := fun c i' K => by
    simp only [k7_6, K4, t17_3, t17_62, t17_63, t17_64]
    (rw [bA, bH, if_pos (by omega)]; try rfl)
   have s2 : Ev fun m => ∀ K : A2 → Hp → RS, k7_7 (au p (exec p m)) (aB p (exec p m)) K (T17 (.ptr q 0) x (i64 cs.length) (i64 i)) h = K (T19 (.ptr q 0) (.ptr j 0) x (i64 cs.length) (i64 i)) h3 := (a1.and a2).mono fun m g K => by
    obtain ⟨g1, g2⟩ := g
    simp only [k7_7, K4, t17_3, t17_62, t17_63, t17_64]
    (rw [c1, aA, aC (cB (c4.old c3.old) rfl), aM g1, aA, aC (aw (c4.old w2.old) 1 rfl), bt (dt.len (dP.up hrow' w2.old)), aM g2]; try rfl)
   have s3 : ∀ c i' (K : A2 → Hp → RS), k7_8 c i' K (T19 (.ptr q 0) (.ptr j 0) x (i64 cs.length) (i64 i)) h3 = K (T20 (.ptr q 0) (.ptr j 0) x (i64 cs.length) (i64 i) z (i64 cs[i].row.length) i0) h3 := fun c i' K => by
    simp only [k7_8, K5, t19_3, t19_7, t19_62, t19_63, t19_64]
    (rw [aA, aC (aw (c4.old w3.old) 1 rfl), bt (dt.len (dP.up hrow' w3.old))]; try rfl)
   have s4 : Rn p (.ah k7_10 .skip) (T20 (.ptr q 0) (.ptr j 0) x (i64 cs.length) (i64 i) z (i64 cs[i].row.length) (i64 cs[i].row.length)) h4 (.nm (T17 (.ptr q 0) x (i64 cs.length) (i64 i)) h5) := .ah (a4.mono fun m g4 => by
    simp only [k7_10, K5, t20_3, t20_7, t20_62, t20_63, t20_64]
    (rw [aA, aC (aw (c4.old w4.old) 2 rfl), TP]; try rfl)
    cases hb : cs[i].remove with
    | true =>
     rw [hb] at g4
     rw [if_pos rfl]
     exact aM g4
    | false =>
     rw [hb] at g4
     rw [if_neg (by simp)]
     exact aM g4)
   have s5 : ∀ c i' (K : A2 → Hp → RS), k7_11 c i' K (T17 (.ptr q 0) x (i64 cs.length) (i64 i)) h5 = .nm (T17 (.ptr q 0) x (i64 cs.length) (i64 (i + 1 : Nat))) h5 := fun c i' K => by
    simp only [k7_11, K4, t17_3, t17_62, t17_63, t17_64]
    (rw [dS hi hn]; try rfl)
   refine ⟨_, h5, .ef s1 (.seq (.block (.to s2 (.seq (.ef s3 (.bN a3)) s4))) (.aR s5)), rfl, ?_⟩
   have w6 := w5.US c2
   rw [tq _ (by omega)] at w6
   have hb : u64 (if cs[i].remove then 1 else 0) = if cs[i].remove then 1 else 0 := by split <;> rfl
   rw [hb] at w6
   rw [il hi, mN]
   simpa only [List.append_assoc] using w6) (fun r h I => by
   obtain ⟨rfl, w⟩ := I
   refine .aR fun c i K => ?_
   simp only [k7_6, K4, t17_3, t17_62, t17_63, t17_64]
   (rw [bA, bH, if_neg (by omega)]; try rfl)) ⟨rfl, by simpa using w⟩
 exact ⟨h', k, by simpa using I⟩
theorem Lq (T : GL p) {cs : List (Bs × Int)} (w : Wr h0 h q s) (r : aO h0 x cs) (hs : s.length + (cs.flatMap mM).length ≤ 16777216) (hn : cs.length < 9223372036854775807) :
  ∃ h', Rn p (dp 3 (bh (bh x7))) (T16 a (.ptr q 0) x (i64 cs.length) i0) h (.ex 0 (T16 a (.ptr q 0) x (i64 cs.length) (i64 cs.length)) h') ∧ Wr h0 h' q (s ++ cs.flatMap mM) := by
 obtain ⟨q', o', sl, g⟩ := dt.sl r
 obtain ⟨r', h', ⟨_, I⟩, k⟩ := gv (p := p) (body := dp 4 (bh (bh x7))) (r := T16 a (.ptr q 0) x (i64 cs.length) i0) (h := h) cs.length
  (Inv := fun i r h => r = T16 a (.ptr q 0) x (i64 cs.length) (i64 i) ∧ Wr h0 h q (s ++ (cs.take i).flatMap mM)) (l := 0) (Re := T16 a (.ptr q 0) x (i64 cs.length) (i64 cs.length)) (fun i r h hi I => by
   obtain ⟨rfl, w⟩ := I
   obtain ⟨l, l1, l2, rfl⟩ := g i hi
   obtain ⟨j, h1, h0', c1, c2, c3, c4⟩ := w.copy (el := 41) sl hi l2 l1 (c0 := .k1 (Y2 iS i0)) trivial (by decide)
   have hz : (s ++ (cs.take i).flatMap mM).length + (mM cs[i]).length ≤ 16777216 := by
    have := lC (g := mM) cs (i + 1)
    rw [il hi, List.length_append] at this
    rw [List.length_append]; omega
   have hv : (mM cs[i]).length = (2 + cs[i].1.length) + 8 := by unfold mM; simp only [List.length_append, aQ, aN]
   obtain ⟨h2, a1, w2⟩ := qq T c3 (t := cs[i].1) (by omega)
   obtain ⟨h3, a2, w3⟩ := nF T w2 (n := cs[i].2) (by rw [List.length_append, aN]; omega)
   refine ⟨T16 a (.ptr q 0) x (i64 cs.length) (i64 (i + 1 : Nat)), h3, .ah ((a1.and a2).mono fun m g => ?_), rfl, ?_⟩
   ·obtain ⟨g1, g2⟩ := g
    simp only [k7_3, K5, t16_1, t16_3, t16_41, t16_42, t16_43]
    (rw [bA, bH, if_pos (by omega), c1, aA, aC (cB (c4.old c3.old) rfl), aM g1, aA, aC (aw (c4.old w2.old) 1 rfl), aM g2, dS hi hn]; try rfl)
   ·have := w3.US c2
    rw [il hi, mM]
    simpa only [List.append_assoc] using this) (fun r h I => by
   obtain ⟨rfl, w⟩ := I
   refine .aR fun c i K => ?_
   simp only [k7_3, K5, t16_1, t16_3, t16_41, t16_42, t16_43]
   (rw [bA, bH, if_neg (by omega)]; try rfl)) ⟨rfl, by simpa using w⟩
 exact ⟨h', k, by simpa using I⟩
end
open Go.Cod
noncomputable section
variable {p : Pg} {h0 h h' h1 h2 : Hp} {q j : P4} {s full : Bs} {x y sv : AV} {r : Rd}
def Fr (q : P4) (h h' : Hp) : Prop := ∀ j, j ≠ q → ag j h ≠ .none → ag j h' = ag j h
theorem Fr.refl (q : P4) (h : Hp) : Fr q h h := fun _ _ _ => rfl
theorem Fr.trans (a : Fr q h h1) (b : Fr q h1 h2) : Fr q h h2 := fun j hq hj => (b j hq (by rw [a j hq hj]; exact hj)).trans (a j hq hj)
theorem Fr.of (O : Old h h') : Fr q h h' := fun j _ hj => O j hj
theorem Fr.old (F : Fr q h h') (O : Old h0 h) (hq : ag q h0 = .none) : Old h0 h' := fun j hj => by
 have e := O j hj
 rw [F j (fun g => by rw [g] at hj; exact hj hq) (by rw [e]; exact hj), e]
theorem Fr.ob (F : Fr q h h') {el : Nat} {ex : Bool} {fl : Fl} {l : List AV} (o : Ob h j el ex fl l) (hj : j ≠ q) : Ob h' j el ex fl l := o.eq (F j hj o.ne)
theorem _root_.Go.Am.Ob.apart {el el' : Nat} {ex ex' : Bool} {fl fl' : Fl} {l l' : List AV} (o : Ob h q el ex fl l) (o' : Ob h j el' ex' fl' l') (g : el ≠ el' ∨ ex ≠ ex') : q ≠ j := by
 rintro rfl
 obtain ⟨c, e, _⟩ := o
 obtain ⟨c', e', _⟩ := o'
 rw [e] at e'
 obtain ⟨a1, _, a2, _⟩ := Obj.cells.inj e'
 rcases g with g | g
 ·exact g a1
 ·exact g a2
theorem Fr.own (F : Fr q h h') {el es el' : Nat} {ex' : Bool} {fl' : Fl} {l l' : List AV} {b : P4 → Prop} (w : dX h x el es l b) (o : Ob h q el' ex' fl' l') (g : el' ≠ el ∨ ex' ≠ false) : dX h' x el es l b := by
 rcases w with w | ⟨k, n, e1, e2, e3, e4⟩
 ·exact .inl w
 ·exact .inr ⟨k, n, e1, e2, F.ob e3 (fun e => (o.apart e3 g) e.symm), e4⟩
structure CZ (h : Hp) (q : P4) (sv : AV) (full : Bs) (a : Nat) (why wh : Int) : Prop where
 wf : Wf h
 ob : Ob h q 115 true .plain [sv, i64 a, i64 why, i64 wh]
 own : dX h sv 5 1 (bc full) fun _ => True
 len : full.length ≤ 16777216
 oq : a ≤ full.length
def jQ (h : Hp) (q : P4) (r : Rd) : Prop := ∃ sv full a why wh, CZ h q sv full a why wh ∧ r = if why = 0 then some (full.drop a) else none
theorem CZ.c {a : Nat} {why wh : Int} (w : CZ h q sv full a why wh) : Cs h q 0 [sv, i64 a, i64 why, i64 wh] := Ob.c0 w.ob
theorem CZ.set {a a' : Nat} {why wh why' wh' : Int} (w : CZ h q sv full a why wh) (o : Ob h' q 115 true .plain [sv, i64 a', i64 why', i64 wh']) (g : ∀ j, j ≠ q → ag j h' = ag j h) (hn : h'.next = h.next) (ha : a' ≤ full.length) :
  CZ h' q sv full a' why' wh' where
 wf := w.wf.of hn fun j hj => by rw [g j (fun e => by rw [e] at hj; exact w.ob.ne hj)]; exact hj
 ob := o
 own := Fr.own (fun j hj _ => g j hj) w.own w.ob (.inr (by simp))
 len := w.len
 oq := ha
theorem jQ.wf (w : jQ h q r) : Wf h := let ⟨_, _, _, _, _, w, _⟩ := w; w.wf
theorem jQ.ne (w : jQ h q r) : ag q h ≠ .none := let ⟨_, _, _, _, _, w, _⟩ := w; w.ob.ne
theorem jQ.apart (w : jQ h q r) {el : Nat} {ex : Bool} {fl : Fl} {l : List AV} (o : Ob h j el ex fl l) (g : el ≠ 115) : j ≠ q := let ⟨_, _, _, _, _, w, _⟩ := w; o.apart w.ob (.inl g)
theorem jQ.up (w : jQ h q r) (O : Old h h') (W : Wf h') : jQ h' q r := let ⟨sv, full, a, why, wh, w, e⟩ := w; ⟨sv, full, a, why, wh, ⟨W, w.ob.old O, w.own.old fun j _ hj => O j hj, w.len, w.oq⟩, e⟩
theorem jQ.fr (w : jQ h q r) {el : Nat} {fl : Fl} {l : List AV} (o : Ob h j el true fl l) (hj : el ≠ 115) (F : Fr j h h') (W : Wf h') : jQ h' q r :=
 let ⟨sv, full, a, why, wh, w, e⟩ := w
 ⟨sv, full, a, why, wh, ⟨W, F.ob w.ob (fun g => o.apart w.ob (.inl hj) g.symm), F.own w.own o (.inr (by simp)), w.len, w.oq⟩, e⟩
theorem ED {a : Int} (ha : a ≠ 0) : jL (i64 a) i0 h = .ok (.bool true) h := by
 have := Ez (h := h) .i64 a (Int.ofNat 0)
 rw [decide_eq_false (show ¬ a = Int.ofNat 0 from ha)] at this
 exact this
theorem xd {a : Int} (ha : a = 0) : jL (i64 a) i0 h = .ok (.bool false) h := by subst ha; rfl
theorem xH (e99 : aq 60 p.fs = f60) (w : jQ h q r) {e n : Int} (he : e ≠ 0) : ∃ h', Cv p 60 [.ptr q 0, i64 e, i64 n] h cn h' ∧ jQ h' q none ∧ Fr q h h' := by
 obtain ⟨sv, full, a, why, wh, w, hr⟩ := w
 by_cases hw : why = 0
 ·obtain ⟨h1, g1, g2, g3, g4⟩ := dY (k := 2) (v := i64 e) w.ob (by simp) rfl
  obtain ⟨h2, k1, k2, k3, k4⟩ := dY (k := 3) (v := i64 n) g2 (by simp) rfl
  refine ⟨h2, .xl (r' := T6) (h1 := h2) e99 (by simp) (.ah (.all fun m => ?_)) rfl, ⟨sv, full, a, e, n, w.set k2 (fun j hj => by rw [k3 j hj, g3 j hj]) (by rw [k4, g4]) w.oq, (if_neg he).symm⟩, fun j hj _ => by rw [k3 j hj, g3 j hj]⟩
  simp only [k60_0, K3, wP, wQ, wR]
  (rw [fP, aA, aC (aw w.c 2 rfl), EL, bH, if_pos (show why = Int.ofNat 0 from hw), fP, aA, dQ g1, fP, aA, dQ k1]; try rfl)
 ·refine ⟨h, .xl (r' := T6) (h1 := h) e99 (by simp) (.ah (.all fun m => ?_)) rfl, ⟨sv, full, a, why, wh, w, (if_neg hw).symm⟩, .refl q h⟩
  simp only [k60_0, K3, wP, wQ, wR]
  (rw [fP, aA, aC (aw w.c 2 rfl), EL, bH, if_neg (show ¬ why = Int.ofNat 0 from hw)]; try rfl)
def TU (x : AV) (a k : Nat) : AV := match x with
 | .fq q _ _ _ => .fq q a k 1
 | y => y
theorem RX {b : P4 → Prop} (w : dX h x 5 1 (bc s) b) {a k : Nat} (hk : a + k ≤ s.length) : fN 1 (.c x) (.some (.c (i64 a))) (.some (.c (i64 (a + k : Nat)))) .none .nil h = .ok (TU x a k) h ∧ fm h (TU x a k) ((s.drop a).take k) := by
 rcases w with ⟨e, hv⟩ | ⟨k', n, rfl, e2, e3, _⟩
 ·have hs : s = [] := by cases s with | nil => rfl | cons _ _ => simp [bc] at e
  subst hs
  have h1 : a = 0 := by simp at hk; omega
  have h2 : k = 0 := by simp at hk; omega
  subst h1 h2
  rcases hv with rfl | ⟨z, rfl⟩
  ·exact ⟨rfl, .eN 0 0, 0, 0, .inr (.inr ⟨rfl, rfl⟩), rfl, fun g => absurd rfl g⟩
  ·exact ⟨rfl, z, 0, 0, .inl ⟨0, rfl⟩, rfl, fun g => absurd rfl g⟩
 ·rw [bU, Nat.mul_one] at e2
  have hb := e3
  obtain ⟨c, f1, f2, f3⟩ := hb
  refine ⟨?_, k', a, k, .inr (.inl rfl), by simp; omega, fun _ => e3.cs (k := a) (m := bc ((s.drop a).take k)) (fun i hi => ?_) ?_⟩
  ·show (@Bool.rec (fun _ => RV) (.err 42) (Obj.aU (ag k' h) (fun _ m _ _ _ => @Bool.rec (fun _ => RV) (.err 45) (.ok (.fq k' (Nat.add 0 (Nat.mul a 1)) (Nat.sub (a + k) a) 1) h) (Nat.ble (Nat.add 0 (Nat.mul (a + k) 1)) m)) (.err 46)) (Nat.ble a (a + k))) = _
   rw [Nat.ble_eq_true_of_le (Nat.le_add_right a k), f1]
   show (@Bool.rec (fun _ => RV) (.err 45) (.ok (.fq k' (0 + a * 1) (a + k - a) 1) h) (Nat.ble (0 + (a + k) * 1) (bc s).length)) = _
   rw [Nat.ble_eq_true_of_le (show 0 + (a + k) * 1 ≤ (bc s).length by rw [bU]; omega), Nat.mul_one, Nat.zero_add, Nat.add_sub_cancel_left]
   rfl
  ·have hi' : i < k ∧ i < s.length - a := by simpa [bc, Nat.lt_min] using hi
   refine ⟨by rw [bU]; omega, ?_⟩
   simp [bc]
  ·rw [bU, bU]
   simp
   omega
theorem Ov {b : P4 → Prop} (w : dX h x 5 1 (bc s) b) {a k : Nat} (hk : a + k ≤ s.length) : ∃ v, fN 1 (.c x) (.some (.c (i64 a))) (.some (.c (i64 (a + k : Nat)))) .none .nil h = .ok v h ∧ fm h v ((s.drop a).take k) := ⟨_, RX w hk⟩
theorem TV {a b : Nat} (hb : b ≤ a) (ha : a ≤ 9223372036854775807) : nV (i64 a) (i64 b) h = .ok (i64 ((a - b : Nat) : Int)) h := by
 rw [KY, lO _ (by unfold dL; omega), show (a : Int) - (b : Int) = ((a - b : Nat) : Int) by omega]
theorem Ui (a b : Int) : dx (i64 a) (i64 b) h = .ok (.bool (decide (b < a))) h := iO _ _ _
theorem EP (e97 : aq 61 p.fs = f61) (e99 : aq 60 p.fs = f60) (w : jQ h q r) {k : Nat} (hk : k ≤ 16777216) : ∃ v h', Cv p 61 [.ptr q 0, i64 k] h v h' ∧ fm h' v (Cod.take k r).1 ∧ jQ h' q (Cod.take k r).2 ∧ Fr q h h' := by
 obtain ⟨sv, full, a, why, wh, w, hr⟩ := w
 have n0 : nC (.ptr q 0) h = .ok (.ptr q 0) h := rfl
 have a0 : fA 0 (.ptr q 0) h = .ok (.ptr q 0) h := rfl
 have a1 : fA 1 (.ptr q 0) h = .ok (.ptr q 1) h := rfl
 have l0 : lD (.ptr q 0) h = .ok sv h := cB w.c rfl
 have l1 : lD (.ptr q 1) h = .ok (i64 a) h := aw w.c 1 rfl
 have hfl := w.len
 have hal := w.oq
 by_cases hw : why = 0
 ·rw [if_pos hw] at hr
  have z0 : ∀ c i (K : A2 → Hp → RS), k61_0 c i K (aY [.ptr q 0, i64 k] 0 .nil) h = K (T27 (.ptr q 0) (i64 k)) h := fun c i K => by
   simp only [k61_0, K2, gT, gU]
   (rw [fP, aA, aC (aw w.c 2 rfl), aH (xd hw), fK]; try rfl)
  have hs := TV (h := h) hal (by omega)
  by_cases hl : full.length - a < k
  ·obtain ⟨h1, c1, w1, F1⟩ := xH (p := p) e99 ⟨sv, full, a, why, wh, w, rfl⟩ (e := 10) (n := full.length) (by omega)
   have c1 : Cv p 60 [.ptr q 0, pi 10, i64 full.length] h cn h1 := c1
   have ht : Cod.take k r = ([], none) := by subst hr; unfold Cod.take; simp only [List.length_drop]; rw [if_pos hl]
   rw [ht]
   refine ⟨.ar, h1, .of (r' := T31 .ar) (h1 := h1) e97 (by simp) (.ef z0 (.ah (c1.mono fun m g1 => ?_))) rfl, ⟨.eN 0 0, 0, 0, .inr (.inr ⟨rfl, rfl⟩), rfl, fun g => absurd rfl g⟩, w1, F1⟩
   simp only [k61_1, K2, mH, mI]
   (rw [aD n0, aD a0, aD l0, aD (fm.len (dX.GH w.own)), aD n0, aD a1, aD l1, aD hs, aD (Ui _ _), bH, if_pos (by omega), fP, aA, aC (cB w.c rfl), bt (fm.len (dX.GH w.own)), aM g1]; try rfl)
  ·have ht : Cod.take k r = ((full.drop a).take k, some ((full.drop a).drop k)) := by subst hr; unfold Cod.take; simp only [List.length_drop]; rw [if_neg hl]
   rw [ht]
   obtain ⟨h1, g1, g2, g3, g4⟩ := dY (k := 1) (v := i64 (a + k : Nat)) w.ob (by simp) rfl
   have w1 : CZ h1 q sv full (a + k) why wh := w.set g2 g3 g4 (by omega)
   obtain ⟨v, s1, s2⟩ := Ov (h := h1) (a := a) (k := k) w1.own (by omega)
   refine ⟨v, h1, .of (r' := T31 v) (h1 := h1) e97 (by simp) (.ef z0 (.ef (r' := T27 (.ptr q 0) (i64 k)) (h' := h) (fun c i K => ?_) (.ef (r' := T27 (.ptr q 0) (i64 k)) (h' := h1) (fun c i K => ?_) (.aR fun c i K => ?_)))) rfl, s2, ⟨sv, full, a + k, why, wh, w1, by rw [if_pos hw, List.drop_drop]⟩, fun j hj _ => g3 j hj⟩
   ·simp only [k61_1, K2, mH, mI]
    (rw [aD n0, aD a0, aD l0, aD (fm.len (dX.GH w.own)), aD n0, aD a1, aD l1, aD hs, aD (Ui _ _), bH, if_neg (by omega)]; try rfl)
   ·simp only [k61_2, K2, mH, mI]
    have hd : ∀ K : AV → Hp → RS, Seat.D (i64 a) (i64 k) h K = K (i64 (a + k : Nat)) h := fun K => by
     rw [mG, lO _ (by unfold dL; omega)]; rfl
    (rw [fP, aA, aC (aw w.c 1 rfl), hd, fP, aA, dQ g1]; try rfl)
   ·simp only [k61_3, K2, mH, mI]
    have n0 : nC (.ptr q 0) h1 = .ok (.ptr q 0) h1 := rfl
    have a0 : fA 0 (.ptr q 0) h1 = .ok (.ptr q 0) h1 := rfl
    have a1 : fA 1 (.ptr q 0) h1 = .ok (.ptr q 1) h1 := rfl
    have l0 : lD (.ptr q 0) h1 = .ok sv h1 := cB w1.c rfl
    have l1 : lD (.ptr q 1) h1 = .ok (i64 (a + k : Nat)) h1 := aw w1.c 1 rfl
    have hs : nV (i64 (a + k : Nat)) (i64 k) h1 = .ok (i64 a) h1 := by
     rw [TV (by omega) (by omega), Nat.add_sub_cancel]
    (rw [aD n0, aD a0, aD l0, aD n0, aD a1, aD l1, aD hs, aD n0, aD a1, aD l1, aD s1]; try rfl)
 ·rw [if_neg hw] at hr
  subst hr
  refine ⟨.ar, h, .of (r' := T31 .ar) (h1 := h) e97 (by simp) (.aR fun c i K => ?_) rfl, ⟨.eN 0 0, 0, 0, .inr (.inr ⟨rfl, rfl⟩), rfl, fun g => absurd rfl g⟩, ⟨sv, full, a, why, wh, w, (if_neg hw).symm⟩, .refl q h⟩
  simp only [k61_0, K2, gT, gU]
  (rw [fP, aA, aC (aw w.c 2 rfl), aH (ED hw), gY]; try rfl)
theorem UT (n : Nat) (hn : n * 256 < 18446744073709551616) : bK .shl (.int .u64 (n : Int)) (.int .u64 (.ofNat 8)) h = .ok (.int .u64 ((n * 256 : Nat) : Int)) h := by
 show RV.ok (.int .u64 (.ofNat (n * 256 % 18446744073709551616))) h = _
 rw [Nat.mod_eq_of_lt hn]; rfl
theorem RY (m b : Nat) (hb : b < 256) (hm : m * 256 < 18446744073709551616) : MX (.int .u64 ((m * 256 : Nat) : Int)) (.int .u64 (b : Int)) h = .ok (.int .u64 ((b + 256 * m : Nat) : Int)) h := by
 show RV.ok (.int .u64 (.ofNat (Nat.lor (m * 256 % 18446744073709551616) (b % 18446744073709551616) % 18446744073709551616))) h = _
 have e : Nat.lor (m * 256) b = b + 256 * m := by
  have := Nat.shiftLeft_add_eq_or_of_lt (show b < 2 ^ 8 from hb) m
  rw [Nat.shiftLeft_eq] at this
  have this : m * 256 + b = Nat.lor (m * 256) b := this
  rw [← this]; omega
 rw [Nat.mod_eq_of_lt hm, Nat.mod_eq_of_lt (show b < 18446744073709551616 by omega), e, Nat.mod_eq_of_lt (by omega)]; rfl
theorem TW (b : UInt8) : cK (.toInt .u64) (.int .u8 (b.toNat : Int)) h = .ok (.int .u64 (b.toNat : Int)) h := by
 rw [ly, w64]
 have := b.toNat_lt
 rw [show ((b.toNat : Int) % 18446744073709551616) = (b.toNat : Int) by omega]
theorem vg {K : AV → Hp → RS} {i : Nat} (hi : i < 9223372036854775807) : Seat.Z (i64 ((i + 1 : Nat) : Int)) i1 h K = K (i64 (i : Int)) h := by
 rw [Ep, lO _ (by unfold dL; simp; omega)]
 simp
theorem fm.at (rb : fm h x s) {i : Nat} (hi : i < s.length) : ∃ a, iX 1 x (i64 (i : Int)) h = .ok a h ∧ lD a h = .ok (.int .u8 (s[i].toNat : Int)) h := by
 obtain ⟨q, o, n, e1, e2, e3⟩ := rb
 have c := e3 (by omega)
 refine ⟨.ptr q (o + i), by have := ct (h := h) e1 (i := i) (by omega); rw [Nat.mul_one] at this; exact this, ?_⟩
 rw [KZ c i (by rw [bU]; exact hi)]
 simp [bc]
theorem ER {n : Nat} : dx (i64 ((n + 1 : Nat) : Int)) i0 h = .ok (.bool true) h := by
 have := iO (h := h) .i64 ((n + 1 : Nat) : Int) (Int.ofNat 0)
 rw [decide_eq_true (show Int.ofNat 0 < ((n + 1 : Nat) : Int) by show (0 : Int) < _; omega)] at this
 exact this
theorem Bn (rb : fm h x s) (hs : s.length ≤ 8) : ∀ (i : Nat), i ≤ s.length → ∀ {c : AC} {r0 : A2} {hc : Hp}, (∀ st, Rn p (.ah xr .skip) (T46 (.int .u64 (un (s.drop i) : Nat)) x (i64 i)) h st → Rn p c r0 hc st) →
  Rn p (.sat (.ah k58_1 (.seq (.label 0) (.ah xr .skip))) c) r0 hc (.ret (T31 (.int .u64 (un s : Nat))) h)
 | 0, _, c, r0, hc, g => .EK (g _ (.aR fun c i K => by
   simp only [xr, K3, qg, qh, qi]
   have g0 : dx (i64 ((0 : Nat) : Int)) i0 h = .ok (.bool false) h := rfl
   (rw [aH g0, fK]; try rfl)))
 | i + 1, hi, c, r0, hc, g => by
  obtain ⟨a, b1, b2⟩ := rb.at (i := i) (by omega)
  have hd : s.drop i = s[i] :: s.drop (i + 1) := List.drop_eq_getElem_cons (by omega)
  have hu : un (s.drop i) = s[i].toNat + 256 * un (s.drop (i + 1)) := by rw [hd]; rfl
  have hlt : un (s.drop (i + 1)) * 256 < 18446744073709551616 := by
   have h1 := Lc (s.drop (i + 1))
   have h2 : 256 ^ (s.drop (i + 1)).length ≤ 256 ^ 7 := Nat.pow_le_pow_right (by omega) (by simp; omega)
   omega
  have hb := s[i].toNat_lt
  refine .KR (i := 0) (g _ (.aR (s := .go 0 (T46 (.int .u64 (un (s.drop i) : Nat)) x (i64 i)) h) fun c i' K => ?_)) rfl (Bn rb hs i (by omega) (c := .seq .skip (.ah xr .skip)) fun _ e => .seq .skip e)
  rw [hu]
  simp only [xr, K3, qg, qh, qi]
  (rw [aH ER, gY, vg (by omega), aH (UT _ hlt), du b1, aC b2, aH (TW _), aH (RY _ _ hb hlt)]; try rfl)
structure sL (p : Pg) : Prop where
 e36 : aq 34 p.fs = f34
 e38 : aq 37 p.fs = f37
 e58 : aq 57 p.fs = f57
 e63 : aq 58 p.fs = f58
 e64 : aq 35 p.fs = f35
 e65 : aq 36 p.fs = f36
 e73 : aq 39 p.fs = f39
 e97 : aq 61 p.fs = f61
 e98 : aq 59 p.fs = f59
 e99 : aq 60 p.fs = f60
theorem Da (T : sL p) (w : jQ h q r) {k : Nat} (hk : k ≤ 8) : ∃ h', Cv p 58 [.ptr q 0, pi k] h (.int .u64 ((Cod.get k r).1 : Nat)) h' ∧ jQ h' q (Cod.get k r).2 ∧ Fr q h h' := by
 obtain ⟨v, h1, c1, rb, w1, F⟩ := EP (p := p) T.e97 T.e99 w (k := k) (by omega)
 have c1 : Cv p 61 [.ptr q 0, pi k] h v h1 := c1
 have hl := Cod.vD k r
 refine ⟨h1, .of (r' := T31 (.int .u64 (un (Cod.take k r).1 : Nat))) (h1 := h1) T.e63 (by simp) (.ef (r' := T27 (.ptr q 0) (pi k)) (h' := h) (fun c i K => by simp only [k58_0, K2, gT, gU])
  (.scope (Bn (p := p) rb (by omega) (Cod.take k r).1.length (Nat.le_refl _) fun st e => ?_))) rfl, w1, F⟩
 rw [List.drop_length] at e
 refine .to (r' := T46 (.int .u64 (.ofNat 0)) v (i64 (Cod.take k r).1.length)) (h' := h1) (c1.mono fun m g K => ?_) (.seq .label e)
 simp only [k58_1, K2, mH, mI]
 (rw [aM g, bt (fm.len rb)]; try rfl)
theorem Ls {n : Nat} (hn : n < 9223372036854775808) : cK (.toInt .i64) (.int .u64 (n : Int)) h = .ok (i64 (n : Int)) h := by
 rw [ly, lO _ (by unfold dL; omega)]
theorem Lt (n : Nat) (hn : n < 18446744073709551616) : IntKind.i64.wrap (n : Int) = s64 n := by
 unfold IntKind.wrap s64
 dsimp only
 split
 ·rename_i g
  rw [Bool.and_eq_true, decide_eq_true_eq] at g
  have g1 : (n : Int) % 18446744073709551616 ≥ 9223372036854775808 := g.2
  show (n : Int) % 18446744073709551616 - 18446744073709551616 = _
  rw [if_neg (by omega)]; omega
 ·rename_i g
  rw [Bool.and_eq_true, decide_eq_true_eq] at g
  have g1 : ¬ (n : Int) % 18446744073709551616 ≥ 9223372036854775808 := fun x => g ⟨rfl, x⟩
  show (n : Int) % 18446744073709551616 = _
  rw [if_pos (by omega)]; omega
theorem qu (T : sL p) (w : jQ h q r) : ∃ h', Cv p 37 [.ptr q 0] h (i64 ((bW r).1 : Nat)) h' ∧ jQ h' q (bW r).2 ∧ Fr q h h' := by
 obtain ⟨h1, c1, w1, F⟩ := Da T w (k := 1) (by omega)
 have c1 : Cv p 58 [.ptr q 0, i1] h (.int .u64 ((bW r).1 : Nat)) h1 := c1
 have hl : (bW r).1 < 256 := Cod.gQ 1 r
 refine ⟨h1, .of (r' := T11 (i64 ((bW r).1 : Nat))) (h1 := h1) T.e38 (by simp) (.ah (c1.mono fun m g => ?_)) rfl, w1, F⟩
 simp only [k37_0, K1, dE]
 (rw [aM g, aH (Ls (by omega))]; try rfl)
theorem GD (T : sL p) (w : jQ h q r) : ∃ h', Cv p 59 [.ptr q 0] h (i64 ((Cod.get 2 r).1 : Nat)) h' ∧ jQ h' q (Cod.get 2 r).2 ∧ Fr q h h' := by
 obtain ⟨h1, c1, w1, F⟩ := Da T w (k := 2) (by omega)
 have hl := Cod.gQ 2 r
 refine ⟨h1, .of (r' := T11 (i64 ((Cod.get 2 r).1 : Nat))) (h1 := h1) T.e98 (by simp) (.ah (c1.mono fun m g => ?_)) rfl, w1, F⟩
 simp only [k59_0, K1, dE]
 (rw [aM g, aH (Ls (by omega))]; try rfl)
theorem kG (T : sL p) (w : jQ h q r) : ∃ h', Cv p 35 [.ptr q 0] h (i64 (bR r).1) h' ∧ jQ h' q (bR r).2 ∧ Fr q h h' := by
 obtain ⟨h1, c1, w1, F⟩ := Da T w (k := 8) (by omega)
 have hl := Cod.gQ 8 r
 have e : cK (.toInt .i64) (.int .u64 ((Cod.get 8 r).1 : Nat)) h1 = .ok (i64 (bR r).1) h1 := by
  rw [ly, Lt _ hl]; rfl
 refine ⟨h1, .of (r' := T11 (i64 (bR r).1)) (h1 := h1) T.e64 (by simp) (.ah (c1.mono fun m g => ?_)) rfl, w1, F⟩
 simp only [k35_0, K1, dE]
 (rw [aM g, aH e]; try rfl)
def TX (most : Nat) (n : Nat) : Rd → Rd
 | none => none
 | some l => if n > most then none else some l
theorem Lu (most : Nat) (r : Rd) : bu most r = Cod.take (Cod.get 2 r).1 (TX most (Cod.get 2 r).1 (Cod.get 2 r).2) := by
 unfold bu
 cases hg : Cod.get 2 r with
 | mk n r1 =>
  cases r1 with
  | none => rfl
  | some l =>
   simp only [TX]
   split
   ·rfl
   ·rfl
theorem Lw (w : jQ h q r) {n most : Nat} {f : AV} : ∃ r', Os p (opsL (fst (fst (bh x36)))) (T35 (.ptr q 0) (pi most) f (i64 n)) h (.nm r' h) ∧ y0 r' = .ptr q 0 ∧ y5 r' = f ∧ y6 r' = i64 n ∧ y23 r' = .bool (r.isSome && decide (most < n)) := by
 obtain ⟨sv, full, a, why, wh, w, hr⟩ := w
 have l2 : lD (.ptr q 2) h = .ok (i64 why) h := aw w.c 2 rfl
 by_cases hw : why = 0
 ·rw [if_pos hw] at hr
  subst hr
  have e0 : bK .eq (i64 why) i0 h = .ok (.bool true) h := by subst hw; rfl
  have e1 : bK .gt (i64 n) (pi most) h = .ok (.bool (decide (most < n))) h := by
   show dx (i64 n) (i64 most) h = _
   rw [Ui]
   congr 2
   rw [decide_eq_decide]; omega
  exact ⟨_, .step (v := .ptr q 0) (h' := h) rfl <| .step (v := .ptr q 0) (h' := h) rfl <| .step (v := .ptr q 2) (h' := h) rfl <| .step (v := i64 why) (h' := h) l2 <| .step (v := .bool true) (h' := h) e0 <| .step (v := .bool true) (h' := h) rfl <|
   .on rfl <| .step (v := i64 n) (h' := h) rfl <| .on rfl <| .step (v := pi most) (h' := h) rfl <| .on rfl <| .step (v := pi most) (h' := h) rfl <| .on rfl <| .step (v := .bool (decide (most < n))) (h' := h) e1 <|
   .step (v := .bool (decide (most < n))) (h' := h) rfl <| .nil, rfl, rfl, rfl, rfl⟩
 ·rw [if_neg hw] at hr
  subst hr
  have e0 : bK .eq (i64 why) i0 h = .ok (.bool false) h := by
   show uC (.int .i64 why) (.int .i64 (.ofNat 0)) h = _
   rw [En, decide_eq_false (show ¬ why = Int.ofNat 0 from hw)]
  exact ⟨_, .step (v := .ptr q 0) (h' := h) rfl <| .step (v := .ptr q 0) (h' := h) rfl <| .step (v := .ptr q 2) (h' := h) rfl <| .step (v := i64 why) (h' := h) l2 <| .step (v := .bool false) (h' := h) e0 <| .step (v := .bool false) (h' := h) rfl <|
   .off rfl <| .off rfl <| .off rfl <| .off rfl <| .step (v := .bool false) (h' := h) rfl <| .nil, rfl, rfl, rfl, rfl⟩
theorem mW (T : sL p) (w : jQ h q r) (most : Nat) : ∃ h', Cv p 36 [.ptr q 0, pi most] h (bB (bu most r).1) h' ∧ jQ h' q (bu most r).2 ∧ Fr q h h' := by
 have w' := w
 obtain ⟨sv, full, a, why, wh, wx, hr⟩ := w'
 obtain ⟨h1, c1, w1, F1⟩ := GD T w
 obtain ⟨r', o1, o2, o3, o4, o5⟩ := Lw (p := p) w1 (n := (Cod.get 2 r).1) (most := most) (f := i64 a)
 have hl := Cod.gQ 2 r
 generalize hn : (Cod.get 2 r).1 = n at *
 have s0 : Ev fun m => ∀ K : A2 → Hp → RS, k36_0 (au p (exec p m)) (aB p (exec p m)) K (aY [.ptr q 0, pi most] 0 .nil) h = K (T35 (.ptr q 0) (pi most) (i64 a) (i64 n)) h1 := c1.mono fun m g K => by
  simp only [k36_0, K2, gT, gU]
  (rw [fP, aA, aC (aw wx.c 1 rfl), aM g]; try rfl)
 have LW : ∃ h2, Rn p (.ah k36_1 .skip) r' h1 (.nm (T43 (.ptr q 0) (i64 n)) h2) ∧ jQ h2 q (TX most n (Cod.get 2 r).2) ∧ Fr q h1 h2 := by
  cases hb : ((Cod.get 2 r).2.isSome && decide (most < n)) with
  | true =>
   obtain ⟨h2, c2, w2, F2⟩ := xH (p := p) T.e99 w1 (e := 3) (n := a) (by omega)
   have c2 : Cv p 60 [.ptr q 0, pi 3, i64 a] h1 cn h2 := c2
   refine ⟨h2, .ah (c2.mono fun m g => ?_), ?_, F2⟩
   ·simp only [k36_1, K4, o2, o3, o4, o5, hb]
    (rw [gY, aM g]; try rfl)
   ·rw [Bool.and_eq_true, decide_eq_true_eq] at hb
    cases hg : (Cod.get 2 r).2 with
    | none => exact w2
    | some l =>
     have : TX most n (some l) = none := if_pos hb.2
     rw [this]; exact w2
  | false =>
   refine ⟨h1, .aR fun c i K => ?_, ?_, .refl q h1⟩
   ·simp only [k36_1, K4, o2, o3, o4, o5, hb]
    (rw [fK]; try rfl)
   ·cases hg : (Cod.get 2 r).2 with
    | none => rw [hg] at w1; exact w1
    | some l =>
     rw [hg] at hb w1
     have : TX most n (some l) = some l := if_neg (by simpa using hb)
     rw [this]; exact w1
 obtain ⟨h2, k2, w2, F2⟩ := LW
 obtain ⟨v, h3, c3, rb, w3, F3⟩ := EP (p := p) T.e97 T.e99 w2 (k := n) (by omega)
 rw [Lu, hn]
 refine ⟨h3, .of (r' := T31 (bB _)) (h1 := h3) T.e65 (by simp) (.to s0 (.seq (.seq (.ops o1) k2) (.ah (c3.mono fun m g => ?_)))) rfl, w3, (F1.trans F2).trans F3⟩
 simp only [k36_2, K2, t43_0, t43_6]
 (rw [aM g, aH (iR rb)]; try rfl)
theorem Ly (e58 : aq 57 p.fs = f57) (W : Wf h) (r : fm h x s) (hl : s.length ≤ 16777216) : ∃ v h', Cv p 57 [x] h v h' ∧ dX h' v 5 1 (bc s) (fun j => ag j h = .none) ∧ Old h h' ∧ Wf h' := by
 obtain ⟨q, o, n, g1, g2, g3⟩ := r
 by_cases hx : x = .ar
 ·subst hx
  refine ⟨.ar, h, .of (r' := T11 .ar) (h1 := h) e58 (by simp) (.ah (.all fun m => ?_)) rfl, ?_, .refl h, W⟩
  ·have hn : bK (.jR .s) .ar .ar h = .ok (.bool true) h := rfl
   simp only [Be, K1, dE]
   rw [aH hn, gY]
  ·rcases g1 with ⟨_, g⟩ | g | ⟨_, g⟩
   ·cases g
   ·cases g
   ·have : s = [] := by cases s with | nil => rfl | cons _ _ => simp at g2; omega
    subst this
    exact .inl ⟨rfl, .inl rfl⟩
 ·have hn : bK (.jR .s) x .ar h = .ok (.bool false) h := by
   rcases g1 with ⟨_, rfl⟩ | rfl | ⟨rfl, _⟩
   ·rfl
   ·rfl
   ·exact absurd rfl hx
  obtain ⟨j, h1, f1, f2, f3, f4, f5, f6⟩ := iL (el := 5) (es := 1) (n := 0) (z := []) (ps := []) (l := []) W rfl rfl (by simp)
  obtain ⟨v, h2, c1, c2, c3, c4⟩ := iM (m := n) (es := 1) f5 (x := .slice j 0 0 0) (b := fun _ => False) (el := 5) (l := []) (.inl ⟨rfl, .inr ⟨j, rfl⟩⟩) (by omega) (new := bc s) (by rw [bU]; omega) (by simp [bU]; omega)
  refine ⟨v, h2, .of (r' := T11 v) (h1 := h2) e58 (by simp) (.ah (.all fun m => ?_)) rfl, ?_, fun k hk => ?_, c3⟩
  ·simp only [Be, K1, dE]
   rw [aH hn, fK, aH f1, aH (by rw [gu g1 (by omega) (fun z => (g3 z).old f4) (by rw [bU]; omega) (by omega)]; exact c1)]
  ·refine dX.mono c2 fun k hk => ?_
   rcases hk with hk | hk
   ·exact hk.elim
   ·exact f4.none hk
  ·have := f4 k hk
   rw [c4 k (by rw [this]; exact hk) (fun g => g), this]
theorem RZ {b : P4 → Prop} {l : List AV} (w : dX h x 5 1 l b) : bl [.ar, i0, i0, i0] [.mk 0 1 (.c x)] h = .ok (.agg [x, i0, i0, i0]) h := by
 rcases w with ⟨_, rfl | ⟨q, rfl⟩⟩ | ⟨q, n, rfl, _⟩ <;> rfl
theorem GF (T : sL p) (W : Wf h) (rb : fm h x s) (hl : s.length ≤ 16777216) : ∃ q h', Cv p 34 [x] h (.ptr q 0) h' ∧ jQ h' q (some s) ∧ ag q h = .none ∧ Old h h' := by
 obtain ⟨v, h1, c1, c2, c3, c4⟩ := Ly (p := p) T.e58 W rb hl
 obtain ⟨q, h2, e1, e2, e3, e4, e5, e6⟩ := oh (el := 115) (l := [v, i0, i0, i0]) c4 (by simp)
 refine ⟨q, h2, .of (r' := T11 (.ptr q 0)) (h1 := h2) T.e36 (by simp) (.ah (c1.mono fun m g => ?_)) rfl, ⟨v, s, 0, 0, 0, ⟨e5, e3, (dX.mono c2 fun _ _ => True.intro).old fun j _ hj => e4 j hj, hl, by omega⟩, by simp⟩, c3.none e2, c3.trans e4⟩
 simp only [k34_0, K1, dE]
 (rw [aM g, vu (RZ c2), lJ e1]; try rfl)
theorem Sa (T : sL p) (w : jQ h q r) : ∃ n m : Int, Cv p 39 [.ptr q 0] h (.jj [i64 n, i64 m]) h ∧ (n = 0 ↔ r = some []) := by
 obtain ⟨sv, full, a, why, wh, w, hr⟩ := w
 have n0 : nC (.ptr q 0) h = .ok (.ptr q 0) h := rfl
 have a0 : fA 0 (.ptr q 0) h = .ok (.ptr q 0) h := rfl
 have a1 : fA 1 (.ptr q 0) h = .ok (.ptr q 1) h := rfl
 have a2 : fA 2 (.ptr q 0) h = .ok (.ptr q 2) h := rfl
 have a3 : fA 3 (.ptr q 0) h = .ok (.ptr q 3) h := rfl
 have l0 : lD (.ptr q 0) h = .ok sv h := cB w.c rfl
 have l1 : lD (.ptr q 1) h = .ok (i64 a) h := aw w.c 1 rfl
 have l2 : lD (.ptr q 2) h = .ok (i64 why) h := aw w.c 2 rfl
 have l3 : lD (.ptr q 3) h = .ok (i64 wh) h := aw w.c 3 rfl
 have hal := w.oq
 have s0 : ∀ c i (K : A2 → Hp → RS), k39_0 c i K (aY [.ptr q 0] 0 .nil) h = K (T34 (.ptr q 0)) h := fun c i K => by simp only [k39_0, K1, dE]
 by_cases hw : why = 0
 ·rw [if_pos hw] at hr
  have lt : qR (i64 a) (i64 full.length) h = .ok (.bool (decide ((a : Int) < full.length))) h := AM _ _ _
  by_cases hl : a < full.length
  ·refine ⟨11, a, .of (r' := T25 (pi 11) (i64 a)) (h1 := h) T.e73 (by simp) (.ef s0 (.aR fun c i K => ?_)) rfl, ?_⟩
   ·simp only [k39_1, K1, xu]
    (rw [fP, aA, aC (aw w.c 2 rfl), aH (xd hw), fK, aD n0, aD a1, aD l1, aD n0, aD a0, aD l0, aD (fm.len (dX.GH w.own)), aD lt, bH, if_pos (by omega), aD n0, aD a1, aD l1]; try rfl)
   ·subst hr
    constructor
    ·intro h; omega
    ·intro h
     have h := Option.some.inj h
     have : (full.drop a).length = 0 := by rw [h]; rfl
     rw [List.length_drop] at this
     omega
  ·refine ⟨0, 0, .of (r' := T25 i0 i0) (h1 := h) T.e73 (by simp) (.ef s0 (.ef (r' := T6) (h' := h) (fun c i K => ?_) (.aR fun c i K => rfl))) rfl, ?_⟩
   ·simp only [k39_1, K1, xu]
    (rw [fP, aA, aC (aw w.c 2 rfl), aH (xd hw), fK, aD n0, aD a1, aD l1, aD n0, aD a0, aD l0, aD (fm.len (dX.GH w.own)), aD lt, bH, if_neg (by omega)]; try rfl)
   ·subst hr
    exact ⟨fun _ => by rw [List.drop_of_length_le (by omega)], fun _ => rfl⟩
 ·rw [if_neg hw] at hr
  subst hr
  refine ⟨why, wh, .of (r' := T25 (i64 why) (i64 wh)) (h1 := h) T.e73 (by simp) (.ef s0 (.aR fun c i K => ?_)) rfl, ⟨fun g => absurd g hw, fun g => by cases g⟩⟩
  simp only [k39_1, K1, xu]
  (rw [fP, aA, aC (aw w.c 2 rfl), aH (ED hw), gY, aD n0, aD a2, aD l2, aD n0, aD a3, aD l3]; try rfl)
end
open Go.Cod
noncomputable section
variable {p : Pg} {h0 h h' h1 h2 : Hp} {q j k jb jf : P4} {s full : Bs} {x y xv : AV} {r rr : Rd}
theorem yZ (W : Wf h) {el es m : Nat} {l : List AV} {b : P4 → Prop} (w : dX h x el es l b) (hes : 0 < es) {new : List AV} (hn : new.length = m * es) (hs : l.length + new.length ≤ 16777216) :
  ∃ v h', lN el es m new x h = .ok v h' ∧ dX h' v el es (l ++ new) (fun j => b j ∨ ag j h = .none) ∧ Wf h' ∧ (∀ k, ag k h ≠ .none → ¬ b k → ag k h' = ag k h) ∧
   ∀ k el' ex' fl' l', Ob h k el' ex' fl' l' → (el' ≠ el ∨ ex' ≠ false) → ag k h' = ag k h := by
 have w' : dX h x el es l fun j => b j ∧ ∃ n c, ag j h = .cells el n false .plain c := by
  rcases w with w | ⟨q, n, e1, e2, e3, e4⟩
  ·exact .inl w
  ·obtain ⟨c, f1, f2⟩ := e3
   exact .inr ⟨q, n, e1, e2, ⟨c, f1, f2⟩, e4, _, c, f1⟩
 obtain ⟨v, h', c1, c2, c3, c4⟩ := iM W w' hes hn hs
 refine ⟨v, h', c1, dX.mono c2 fun j hj => hj.imp_left (·.1), c3, fun k hk hb => c4 k hk fun g => hb g.1, fun k el' ex' fl' l' o g => c4 k o.ne ?_⟩
 rintro ⟨_, n, c, e⟩
 obtain ⟨c', e', _⟩ := o
 rw [e] at e'
 obtain ⟨a1, _, a2, _⟩ := Obj.cells.inj e'
 rcases g with g | g
 ·exact g a1.symm
 ·exact g a2.symm
theorem _root_.Go.Am.dX.fk {el es : Nat} {l : List AV} {b : P4 → Prop} (w : dX h x el es l b) (g : ∀ k fl l', Ob h k el false fl l' → ag k h' = ag k h) : dX h' x el es l b := by
 rcases w with w | ⟨q, n, e1, e2, e3, e4⟩
 ·exact .inl w
 ·exact .inr ⟨q, n, e1, e2, e3.eq (g _ _ _ e3), e4⟩
theorem jQ.fk (w : jQ h q r) (W : Wf h') (g : ∀ k el ex fl l, Ob h k el ex fl l → el = 115 ∨ el = 5 → ag k h' = ag k h) : jQ h' q r :=
 let ⟨sv, full, a, why, wh, w, e⟩ := w
 ⟨sv, full, a, why, wh, ⟨W, w.ob.eq (g _ _ _ _ _ w.ob (.inl rfl)), w.own.fk fun k _ _ o => g k _ _ _ _ o (.inr rfl), w.len, w.oq⟩, e⟩
theorem Fr.set (F : Fr q h h') (hk : ag k h = .none) (g : ∀ j, j ≠ k → ag j h1 = ag j h') : Fr q h h1 := fun j hj hn => by
 rw [g j (fun e => by rw [e] at hn; exact hn hk), F j hj hn]
theorem Fr.none (F : Fr q h h') (hq : ag q h' ≠ .none) (hk : ag k h' = .none) : ag k h = .none := by
 have e : k ≠ q := fun e => by rw [e] at hk; exact hq hk
 cases g : ag k h with
 | none => rfl
 | _ =>
  have := F k e (by rw [g]; simp)
  rw [hk, g] at this
  cases this
structure GG (h : Hp) (q jb jf : P4) (t : Bs) (h' : Hp) (xv : AV) (vs : List lQ) (rr : Rd) : Prop where
 fr : Fr q h h'
 rd : jQ h' q rr
 ob : Ob h' jb 48 true .plain [iS, .ar, .bool false]
 of : Ob h' jf 48 true .plain [bB t, xv, .bool false]
 ow : dX h' xv 50 3 (vs.flatMap jc) fun j => ag j h = .none
variable {t : Bs} {vs : List lQ}
theorem GG.rL (I : GG h q jb jf t h' xv vs r) (w : jQ h2 q rr) (F : Fr q h' h2) : GG h q jb jf t h2 xv vs rr := by
 obtain ⟨_, _, _, _, _, w0, _⟩ := I.rd
 exact ⟨I.fr.trans F, w, F.ob I.ob (I.rd.apart I.ob (by decide)), F.ob I.of (I.rd.apart I.of (by decide)), F.own I.ow w0.ob (.inl (by decide))⟩
theorem GG.up (I : GG h q jb jf t h' xv vs r) (O : Old h' h2) (W : Wf h2) : GG h q jb jf t h2 xv vs r :=
 ⟨I.fr.trans (.of O), I.rd.up O W, I.ob.old O, I.of.old O, I.ow.old fun j _ hj => O j hj⟩
theorem gV {el : Nat} {ex : Bool} {fl : Fl} {l : List AV} (W : Wf h) (o : Ob h k el ex fl l) (g : ∀ j, j ≠ k → ag j h' = ag j h) (hn : h'.next = h.next) : Wf h' :=
 W.of hn fun j hj => by rw [g j (fun e => by rw [e] at hj; exact o.ne hj)]; exact hj
theorem GG.st (I : GG h q jb jf t h' xv vs r) {el : Nat} {fl : Fl} {l : List AV} (o : Ob h' k el true fl l) (h1 : el ≠ 115) (h70 : el ≠ 48) (hk : ag k h = .none) (g : ∀ j, j ≠ k → ag j h2 = ag j h') (hn : h2.next = h'.next) : GG h q jb jf t h2 xv vs r :=
 ⟨I.fr.set hk g, I.rd.fr o h1 (fun j hj _ => g j hj) (gV I.rd.wf o g hn), I.ob.eq (g _ (I.ob.apart o (.inl (Ne.symm h70)))), I.of.eq (g _ (I.of.apart o (.inl (Ne.symm h70)))), Fr.own (fun j hj _ => g j hj) I.ow o (.inr (by simp))⟩
theorem LA (vs : List lQ) (v : lQ) : (vs ++ [v]).flatMap jc = vs.flatMap jc ++ jc v := by simp
theorem TY (vs : List lQ) : (vs.flatMap jc).length = vs.length * 3 := by
 induction vs with
 | nil => rfl
 | cons v vs ih => simp only [List.flatMap_cons, List.length_append, ih, List.length_cons]; simp [jc]; omega
theorem LB (T : sL p) (I : GG h q jb jf t h' xv vs r) (nb : ag jb h = .none) (nf : ag jf h = .none) (hne : jb ≠ jf) (hv : vs.length ≤ 1000) {m : Nat} (hm : m < 1000) :
  ∃ xv' h2, Rn p (.ah Bc (.ah k38_3 .skip)) (T45 (.ptr q 0) (.ptr jb 0) (.ptr jf 0) (i64 (m + 1 : Nat))) h' (.nm (T45 (.ptr q 0) (.ptr jb 0) (.ptr jf 0) (i64 m)) h2) ∧ GG h q jb jf t h2 xv' (vs ++ [(lA r).1]) (lA r).2 := by
 obtain ⟨h1, c1, w1, F1⟩ := kG T I.rd
 have I1 := I.rL w1 F1
 obtain ⟨h2, c2, w2, F2⟩ := kG T I1.rd
 have I2 := I1.rL w2 F2
 generalize ha : (bR r).1 = a at *
 generalize hr1 : (bR r).2 = r1 at *
 generalize hb : (bR r1).1 = b at *
 generalize hr2 : (bR r1).2 = r2 at *
 obtain ⟨l, h3, e1, e2, e3, e4, e5, _⟩ := lx (el := 50) (n := 3) I2.rd.wf (c := .k1 (Y3 i0 i0 iS)) trivial (by decide)
 have I3 := I2.up e4 e5
 have hl : ag l h = .none := I2.fr.none I2.rd.ne e2
 obtain ⟨h4, f1, f2, f3, f4⟩ := gO (k := 0) (m := 3) (l' := [i64 a, i64 b, iS]) e3 rfl (by rw [cD]; omega)
 have f2 : Ob h4 l 50 true .plain [i64 a, i64 b, iS] := f2
 have I4 := I3.st e3 (by decide) (by decide) hl f3 f4
 obtain ⟨h5, c5, w5, F5⟩ := mW T I4.rd 65535
 have I5 := I4.rL w5 F5
 have o5 := F5.ob f2 (I4.rd.apart f2 (by decide))
 generalize hs : (bu 65535 r2).1 = s at *
 generalize hr3 : (bu 65535 r2).2 = r3 at *
 obtain ⟨h6, g1, g2, g3, g4⟩ := dY (k := 2) (v := bB s) o5 (by simp) rfl
 have g2 : Ob h6 l 50 true .plain [i64 a, i64 b, bB s] := g2
 have I6 := I5.st o5 (by decide) (by decide) hl g3 g4
 have hv' : lA r = (⟨a, b, s⟩, r3) := by
  show ((⟨(bR r).1, (bR (bR r).2).1, (bu 65535 (bR (bR r).2).2).1⟩ : lQ), (bu 65535 (bR (bR r).2).2).2) = _
  rw [ha, hr1, hb, hr2, hs, hr3]
 rw [hv']
 obtain ⟨m', h7, u1, u2, u3, u4, u5, u6⟩ := iL (el := 50) (es := 3) (n := 1) (z := [i0, i0, iS]) (ps := [.mk 0 3 (.c (.agg [i64 a, i64 b, bB s]))]) (l := [i64 a, i64 b, bB s]) I6.rd.wf rfl rfl (by simp)
 have I7 := I6.up u4 u5
 obtain ⟨v', h8, z1, z2, z3, z4, z5⟩ := yZ (m := 1) I7.rd.wf I7.ow (by omega) (new := [i64 a, i64 b, bB s]) rfl (by rw [TY]; simp; omega)
 have V : lj 50 3 xv (.slice m' 0 1 1) h7 = .ok v' h8 := by
  rw [gu (m := 1) (q := m') (o := 0) (l := [i64 a, i64 b, bB s]) (.inl ⟨_, rfl⟩) (by omega) (fun _ => Ob.c0 u3) rfl (by omega)]
  exact z1
 have of8 := I7.of.eq (z5 _ _ _ _ _ I7.of (.inl (by decide)))
 have ob8 := I7.ob.eq (z5 _ _ _ _ _ I7.ob (.inl (by decide)))
 have rd8 : jQ h8 q r3 := I7.rd.fk z3 fun k el ex fl l o g => z5 k el ex fl l o (.inl (by rcases g with rfl | rfl <;> decide))
 have fr8 : Fr q h h8 := fun j hj hn => by
  have e := I7.fr j hj hn
  rw [z4 j (by rw [e]; exact hn) (fun g => hn g), e]
 obtain ⟨h9, k1, k2, k3, k4⟩ := dY (k := 1) (v := v') of8 (by simp) (nv z2)
 have k2 : Ob h9 jf 48 true .plain [bB t, v', .bool false] := k2
 refine ⟨v', h9, .to (r' := T45 (.ptr q 0) (.ptr jb 0) (.ptr jf 0) (i64 (m + 1 : Nat))) (h' := h9) ((c1.and (c2.and c5)).mono fun n g K => ?_) (.aR fun c i K => ?_), ⟨fr8.set nf k3, rd8.fr of8 (by decide) (fun j hj _ => k3 j hj) (gV z3 of8 k3 k4), ob8.eq (k3 jb hne), k2, ?_⟩⟩
 ·obtain ⟨gg1, gg2, gg5⟩ := g
  simp only [Bc, K4, t45_0, t45_2, t45_3, t45_4]
  have U0 : bl [i0, i0, iS] [.mk 0 1 (.c (i64 a)), .mk 1 1 (.c (i64 b))] h2 = .ok (.agg [i64 a, i64 b, iS]) h2 := rfl
  (rw [aH ER, gY, aM gg1, aM gg2, vu U0, mK e1, ky f1, aM gg5, aA, Nat.zero_add, dQ g1, aA, aC (aw (Ob.c0 I6.of) 1 rfl), kx (bJ (m := 3) (Ob.c0 g2) rfl), aH u1, aH V, aA, Nat.zero_add, dQ k1]; try rfl)
 ·simp only [k38_3, K4, t45_0, t45_2, t45_3, t45_4]
  (rw [vg (by omega)]; try rfl)
 ·rw [LA]
  exact (dX.mono (Fr.own (fun j hj _ => k3 j hj) z2 of8 (.inr (by simp))) fun j hj => hj.elim id fun g => I7.fr.none I7.rd.ne g)
theorem Ow (T : sL p) (e72 : aq 38 p.fs = f38) (w : jQ h q r) : ∃ xv h', Cv p 38 [.ptr q 0] h (.agg (vP xv (mU r).1)) h' ∧ jQ h' q (mU r).2 ∧ Fr q h h' ∧ dX h' xv 50 3 ((mU r).1.row.flatMap jc) fun j => ag j h = .none := by
 obtain ⟨jb, h1, a1, a2, a3, a4, a5, _⟩ := lx (el := 48) (n := 3) w.wf (c := .k1 (Y3 iS .ar (.bool false))) trivial (by decide)
 have a3 : Ob h1 jb 48 true .plain [iS, .ar, .bool false] := a3
 have w1 := w.up a4 a5
 obtain ⟨h2, c2, w2, F2⟩ := mW T w1 65535
 generalize ht : (bu 65535 r).1 = t at *
 generalize hr1 : (bu 65535 r).2 = r1 at *
 have b2 := F2.ob a3 (w1.apart a3 (by decide))
 obtain ⟨jf, h3, b1, b3, b4, b5, b6, _⟩ := lx (el := 48) (n := 3) w2.wf (c := .k1 (Y3 iS .ar (.bool false))) trivial (by decide)
 have b4 : Ob h3 jf 48 true .plain [iS, .ar, .bool false] := b4
 have hne : jb ≠ jf := fun e => b2.ne (e ▸ b3)
 obtain ⟨h4, d1, d2, d3, d4⟩ := gO (k := 0) (m := 3) (l' := [bB t, .ar, .bool false]) b4 rfl (by simp)
 have d2 : Ob h4 jf 48 true .plain [bB t, .ar, .bool false] := d2
 have F12 : Fr q h h2 := (Fr.of a4).trans F2
 have nb : ag jb h = .none := a2
 have nf : ag jf h = .none := F12.none w2.ne b3
 have I4 : GG h q jb jf t h4 .ar [] r1 := ⟨(F12.trans (.of b5)).set nf d3, (w2.up b5 b6).fr b4 (by decide) (fun j hj _ => d3 j hj) (gV b6 b4 d3 d4), (b2.old b5).eq (d3 jb hne), d2, .inl ⟨rfl, .inl rfl⟩⟩
 obtain ⟨h5, c5, w5, F5⟩ := qu T I4.rd
 have I5 := I4.rL w5 F5
 have hn : (bW r1).1 < 256 := Cod.gQ 1 r1
 generalize hk : (bW r1).1 = n at *
 generalize hr2 : (bW r1).2 = r2 at *
 obtain ⟨r', h6, ⟨xv, _, I6⟩, k6⟩ := gv (p := p) (body := .ah Bc (.ah k38_3 .skip)) (r := T45 (.ptr q 0) (.ptr jb 0) (.ptr jf 0) (i64 n)) (h := h5) n
  (Inv := fun i r h' => ∃ xv, r = T45 (.ptr q 0) (.ptr jb 0) (.ptr jf 0) (i64 (n - i : Nat)) ∧ GG h q jb jf t h' xv (many lA i r2).1 (many lA i r2).2) (l := 0) (Re := T44 (.ptr q 0) (.ptr jb 0) (.ptr jf 0)) (fun i r h' hi I => by
   obtain ⟨xv, rfl, I⟩ := I
   obtain ⟨m, hm⟩ : ∃ m, n - i = m + 1 := ⟨n - i - 1, by omega⟩
   obtain ⟨xv', h2, k, I'⟩ := LB (p := p) T I nb nf hne (by rw [iV]; omega) (m := m) (by omega)
   rw [hm]
   refine ⟨_, h2, k, xv', by rw [show n - (i + 1) = m by omega], ?_⟩
   rw [qp]
   exact I') (fun r h' I => by
   obtain ⟨xv, rfl, I⟩ := I
   refine .aR fun c i K => ?_
   rw [Nat.sub_self]
   simp only [Bc, K4, t45_0, t45_2, t45_3, t45_4]
   have g0 : dx (i64 ((0 : Nat) : Int)) i0 h' = .ok (.bool false) h' := rfl
   (rw [aH g0, fK]; try rfl)) ⟨.ar, rfl, I5⟩
 obtain ⟨h7, c7, w7, F7⟩ := qu T I6.rd
 have I7 := I6.rL w7 F7
 generalize hvs : (many lA n r2).1 = vs at *
 generalize hr3 : (many lA n r2).2 = r3 at *
 generalize hb : (bW r3).1 = b at *
 generalize hr4 : (bW r3).2 = r4 at *
 have hc : mU r = (⟨t, vs, decide (0 < b)⟩, r4) := by
  show ((⟨(bu 65535 r).1, (many lA (bW (bu 65535 r).2).1 (bW (bu 65535 r).2).2).1, decide (0 < (bW (many lA (bW (bu 65535 r).2).1 (bW (bu 65535 r).2).2).2).1)⟩ : nu), (bW (many lA (bW (bu 65535 r).2).1 (bW (bu 65535 r).2).2).2).2) = _
  rw [ht, hr1, hk, hr2, hvs, hr3, hb, hr4]
 rw [hc]
 have gt : dx (i64 (b : Nat)) i0 h7 = .ok (.bool (decide (0 < b))) h7 := by
  show dx (i64 (b : Nat)) (i64 0) h7 = _
  rw [Ui]
  congr 2
  rw [decide_eq_decide]; omega
 obtain ⟨h8, g1, g2, g3, g4⟩ := dY (k := 2) (v := .bool (decide (0 < b))) I7.of (by simp) rfl
 have g2 : Ob h8 jf 48 true .plain [bB t, xv, .bool (decide (0 < b))] := g2
 have ob8 := I7.ob.eq (g3 jb hne)
 obtain ⟨h9, k1, k2, k3, k4⟩ := gO (k := 0) (m := 3) (l' := [bB t, xv, .bool (decide (0 < b))]) ob8 rfl (by simp)
 have k2 : Ob h9 jb 48 true .plain [bB t, xv, .bool (decide (0 < b))] := k2
 have s0 : Ev fun m => ∀ K : A2 → Hp → RS, k38_0 (au p (exec p m)) (aB p (exec p m)) K (aY [.ptr q 0] 0 .nil) h = K (T44 (.ptr q 0) (.ptr jb 0) (.ptr jf 0)) h4 := c2.mono fun m g K => by
  simp only [k38_0, K1, dE]
  have U0 : bl [iS, .ar, .bool false] [.mk 0 1 (.c (bB t))] h2 = .ok (.agg [bB t, .ar, .bool false]) h2 := rfl
  (rw [mK a1, aM g, vu U0, mK b1, ky d1]; try rfl)
 have s1 : Ev fun m => ∀ K : A2 → Hp → RS, k38_1 (au p (exec p m)) (aB p (exec p m)) K (T44 (.ptr q 0) (.ptr jb 0) (.ptr jf 0)) h4 = K (T45 (.ptr q 0) (.ptr jb 0) (.ptr jf 0) (i64 n)) h5 := c5.mono fun m g K => by
  simp only [k38_1, K3, t44_0, t44_2, t44_3]
  (rw [aM g]; try rfl)
 have rt : ue [.agg 3 .h0 .h2] (T11 (.ptr jb 0)) h9 = .ok (.agg (vP xv ⟨t, vs, decide (0 < b)⟩)) h9 := by
  show (RV.rec (fun v _ => .ok v h9) (fun n => .err n) (Seat.lR 3 (.ptr jb 0) h9) : RV) = _
  rw [bJ (m := 3) (Ob.c0 k2) rfl]; rfl
 refine ⟨xv, h9, .of (r' := T11 (.ptr jb 0)) (h1 := h9) e72 (by simp) (.to s0 (.seq (.to s1 (.bN k6)) (.ah (c7.mono fun m g => ?_)))) rt, ?_, (I7.fr.set nf g3).set nb k3, ?_⟩
 ·simp only [k38_4, K3, t44_0, t44_2, t44_3]
  (rw [aM g, aH gt, aA, Nat.zero_add, dQ g1, kx (bJ (m := 3) (Ob.c0 g2) rfl), ky k1]; try rfl)
 ·have w8 := I7.rd.fr I7.of (by decide) (fun j hj _ => g3 j hj) (gV I7.rd.wf I7.of g3 g4)
  exact w8.fr ob8 (by decide) (fun j hj _ => k3 j hj) (gV w8.wf ob8 k3 k4)
 ·exact Fr.own (fun j hj _ => k3 j hj) (Fr.own (fun j hj _ => g3 j hj) I7.ow I7.of (.inr (by simp))) ob8 (.inr (by simp))
end
open Go.Cod
noncomputable section
variable {p : Pg} {h0 h h' h1 : Hp} {q j : P4} {s : Bs} {x y a b d e f : AV}
theorem nz (T : GL p) (TT : RW p) (e17 : aq 7 p.fs = f7) (e29 : aq 57 p.fs = f57) (W : Wf h) {l : List AV} {e : jA} {B : Nat} (r : eE h l e) (bd : wO B e) (hB : B < 9223372036854775807) (hs : (enc e).length ≤ 16777216) :
  ∃ v h', Cv p 7 [.agg l] h v h' ∧ dX h' v 5 1 (bc (if takes e = true then enc e else [])) (fun j => ag j h = .none) ∧ Old h h' ∧ Wf h' := by
 obtain ⟨x, y, rfl, r1, r2⟩ := r
 obtain ⟨j, h1, f1, f2, f3, f4, f5, f6⟩ := oh (el := 25) (l := cZ x y e) W (by simp [cZ])
 obtain ⟨h2, t1, t2, t3⟩ := Bl (p := p) TT f5 (l := cZ x y e) (e := e) ⟨x, y, rfl, aO.up r1 f4, aZ.up r2 f4⟩ bd hB
 have M1 := bJ (m := 7) (Ob.c0 f3) (by simp [cZ])
 cases ht : takes e with
 | false =>
  rw [ht] at t1
  refine ⟨.ar, h2, .of (r' := T11 .ar) (h1 := h2) e17 (by simp) (.ah (t1.mono fun m g => ?_)) rfl, ?_, f4.trans t2, t3⟩
  ·simp only [k7_0, K1, dE]
   (rw [lJ f1, kx M1, aM g, iQ, br, Bool.not_false, gY]; try rfl)
  ·rw [if_neg (by simp)]
   exact .inl ⟨rfl, .inl rfl⟩
 | true =>
  rw [ht] at t1
  rw [if_pos rfl]
  obtain ⟨b1, b2, b3, b4, b5, b6, b7, b8, b9⟩ := bd
  have O2 := f4.trans t2
  have c2 := (Ob.c0 f3).old t2
  have rc := aO.up r1 O2
  have rg := aZ.up r2 O2
  obtain ⟨q, h3, a0, w3, _⟩ := GC T t3
  have hz : (enc e).length = 8 + 8 + 8 + (2 + e.name.length) + (2 + e.text.length) + 1 + (e.bP.flatMap mM).length + 1 + (e.changes.flatMap mN).length := by
   unfold enc; simp only [List.length_append, aQ, aN, bT]
  obtain ⟨h4, a1, w4⟩ := nF T w3 (n := e.aK) (by simp)
  obtain ⟨h5, a2, w5⟩ := nF T w4 (n := e.seq) (by simp [aQ])
  obtain ⟨h6, a3, w6⟩ := nF T w5 (n := e.kind) (by simp [aQ])
  obtain ⟨h7, a4, w7⟩ := qq T w6 (t := e.name) (by simp only [List.length_append, List.length_nil, aQ]; omega)
  obtain ⟨h8, a5, w8⟩ := qq T w7 (t := e.text) (by simp only [List.length_append, List.length_nil, aQ, aN]; omega)
  obtain ⟨h9, a6, w9⟩ := tp T w8 (n := e.bP.length) (by simp only [List.length_append, List.length_nil, aQ, aN]; omega)
  obtain ⟨ha, a7, wa⟩ := Lq (p := p) (a := .ptr j 0) T w9 rc (by simp only [List.length_append, List.length_nil, aQ, aN, bT]; omega) (by omega)
  obtain ⟨hb, a8, wb⟩ := tp T wa (n := e.changes.length) (by simp only [List.length_append, List.length_nil, aQ, aN, bT]; omega)
  obtain ⟨hc, a9, wc⟩ := Lp (p := p) T wb rg (by simp only [List.length_append, List.length_nil, aQ, aN, bT]; omega) (by omega) (fun c hc => by have := (b9 c hc).2.1; omega)
  obtain ⟨v, hd, aa, wd, Od, Wd⟩ := Oj T e29 wc (by simp only [List.length_append, List.length_nil, aQ, aN, bT]; omega)
  have s0 : Ev fun m => ∀ K : A2 → Hp → RS, k7_0 (au p (exec p m)) (aB p (exec p m)) K (aY [.agg (cZ x y e)] 0 .nil) h = K (T13 (.ptr j 0) (.ptr q 0)) h6 := (t1.and (a0.and (a1.and (a2.and a3)))).mono fun m g K => by
   obtain ⟨g0, g1, g2, g3, g4⟩ := g
   simp only [k7_0, K1, dE]
   (rw [lJ f1, kx M1, aM g0, iQ, br, Bool.not_true, fK, aM g1, aA, aC (cB (c2.old w3.old) rfl), aM g2, aA, aC (aw (c2.old w4.old) 1 rfl), aM g3, aA, aC (aw (c2.old w5.old) 2 rfl), aM g4]; try rfl)
  have s1 : Ev fun m => ∀ K : A2 → Hp → RS, k7_1 (au p (exec p m)) (aB p (exec p m)) K (T13 (.ptr j 0) (.ptr q 0)) h6 = K (T13 (.ptr j 0) (.ptr q 0)) h9 := (a4.and (a5.and a6)).mono fun m g K => by
   obtain ⟨g0, g1, g2⟩ := g
   simp only [k7_1, K2, vd, wY]
   (rw [aA, aC (aw (c2.old w6.old) 3 rfl), aM g0, aA, aC (aw (c2.old w7.old) 4 rfl), aM g1, aA, aC (aw (c2.old w8.old) 5 rfl), bt (dt.len (aO.up rc w8.old)), aM g2]; try rfl)
  have s2 : ∀ c i' (K : A2 → Hp → RS), k7_2 c i' K (T13 (.ptr j 0) (.ptr q 0)) h9 = K (T16 (.ptr j 0) (.ptr q 0) x (i64 e.bP.length) i0) h9 := fun c i' K => by
   simp only [k7_2, K2, vd, wY]
   (rw [aA, aC (aw (c2.old w9.old) 5 rfl), bt (dt.len (aO.up rc w9.old))]; try rfl)
  have s4 : Ev fun m => ∀ K : A2 → Hp → RS, k7_4 (au p (exec p m)) (aB p (exec p m)) K (T16 (.ptr j 0) (.ptr q 0) x (i64 e.bP.length) (i64 e.bP.length)) ha = K (T13 (.ptr j 0) (.ptr q 0)) hb := a8.mono fun m g K => by
   simp only [k7_4, K2, t16_1, t16_3]
   (rw [aA, aC (aw (c2.old wa.old) 6 rfl), bt (dt.len (aZ.up rg wa.old)), aM g]; try rfl)
  have s5 : ∀ c i' (K : A2 → Hp → RS), k7_5 c i' K (T13 (.ptr j 0) (.ptr q 0)) hb = K (T17 (.ptr q 0) y (i64 e.changes.length) i0) hb := fun c i' K => by
   simp only [k7_5, K2, vd, wY]
   (rw [aA, aC (aw (c2.old wb.old) 6 rfl), bt (dt.len (aZ.up rg wb.old))]; try rfl)
  have s6 : Rn p (.ah k7_12 .skip) (T18 (.ptr q 0)) hc (.ret (T11 v) hd) := .ah (aa.mono fun m g => by
   simp only [k7_12, K1, t18_3]
   (rw [aM g]; try rfl))
  refine ⟨v, hd, .of (r' := T11 v) (h1 := hd) e17 (by simp) (.to s0 (.to s1 (.seq (.ef s2 (.bN a7)) (.to s4 (.seq (.ef s5 (.bN a9)) s6))))) rfl, ?_, O2.trans Od, Wd⟩
  have k1 := tq e.bP.length (by omega)
  have k2 := tq e.changes.length (by omega)
  rw [k1, k2] at wd
  refine dX.mono (b := fun j => ag j h2 = .none) ?_ fun j hj => O2.none hj
  simpa only [enc, List.nil_append, List.append_assoc] using wd
end
open Go.Cod
noncomputable section
variable {p : Pg} {h0 h h' h1 h2 : Hp} {q j k jb jk : P4} {s full : Bs} {x y xv xc xg : AV} {r rr : Rd}
def LR (c : Bs × Int) : List AV := [bB c.1, i64 c.2]
def sg (b : P4 → Prop) (h : Hp) (x : AV) (cs : List nu) : Prop := ∃ xs : List AV, xs.length = cs.length ∧ dX h x 48 3 (List.zipWith vP xs cs).flatten b ∧ ∀ i (h1 : i < xs.length) (h2 : i < cs.length), dX h xs[i] 50 3 (cs[i].row.flatMap jc) fun _ => True
theorem sg.fk {b : P4 → Prop} {cs : List nu} (w : sg b h x cs) (g : ∀ k el fl l, Ob h k el false fl l → el = 50 ∨ el = 48 → ag k h' = ag k h) : sg b h' x cs := by
 obtain ⟨xs, e1, e2, e3⟩ := w
 exact ⟨xs, e1, e2.fk fun k fl l o => g k _ _ _ o (.inr rfl), fun i h1 h2 => (e3 i h1 h2).fk fun k fl l o => g k _ _ _ o (.inl rfl)⟩
structure sM (h0 : Hp) (q jb jk : P4) (e : jA) (h' : Hp) (xc xg : AV) (rr : Rd) : Prop where
 old : Old h0 h'
 rd : jQ h' q rr
 ob : Ob h' jb 25 true .plain [i0, i0, i0, iS, iS, .ar, .ar]
 ok : Ob h' jk 25 true .plain (cZ xc xg e)
 oc : dX h' xc 41 2 (e.bP.flatMap LR) fun j => ag j h0 = .none
 og : sg (fun j => ag j h0 = .none) h' xg e.changes
variable {e : jA}
theorem sM.one (I : sM h0 q jb jk e h' xc xg r) {el : Nat} {fl : Fl} {l : List AV} (o : Ob h' k el true fl l) (F : Fr k h' h2) (hk : ag k h0 = .none) (w : jQ h2 q rr) (h26 : el ≠ 25) : sM h0 q jb jk e h2 xc xg rr :=
 ⟨F.old I.old hk, w, F.ob I.ob (I.ob.apart o (.inl (Ne.symm h26))), F.ob I.ok (I.ok.apart o (.inl (Ne.symm h26))), F.own I.oc o (.inr (by simp)), I.og.fk fun j el' fl' l' o' _ => F j (o'.apart o (.inr (by simp))) o'.ne⟩
theorem sM.rL (I : sM h0 q jb jk e h' xc xg r) (hq : ag q h0 = .none) (w : jQ h2 q rr) (F : Fr q h' h2) : sM h0 q jb jk e h2 xc xg rr := by
 obtain ⟨_, _, _, _, _, w0, _⟩ := I.rd
 exact I.one w0.ob F hq w (by decide)
theorem sM.up (I : sM h0 q jb jk e h' xc xg r) (O : Old h' h2) (W : Wf h2) : sM h0 q jb jk e h2 xc xg r :=
 ⟨I.old.trans O, I.rd.up O W, I.ob.old O, I.ok.old O, I.oc.old fun j _ hj => O j hj, I.og.fk fun j _ _ _ o _ => O j o.ne⟩
theorem sM.st (I : sM h0 q jb jk e h' xc xg r) {el : Nat} {fl : Fl} {l : List AV} (o : Ob h' k el true fl l) (h1 : el ≠ 115) (h26 : el ≠ 25) (hk : ag k h0 = .none) (g : ∀ j, j ≠ k → ag j h2 = ag j h') (hn : h2.next = h'.next) : sM h0 q jb jk e h2 xc xg r :=
 I.one o (fun j hj _ => g j hj) hk (I.rd.fr o h1 (fun j hj _ => g j hj) (gV I.rd.wf o g hn)) h26
theorem LC (cs : List (Bs × Int)) (c : Bs × Int) : (cs ++ [c]).flatMap LR = cs.flatMap LR ++ LR c := by simp
theorem TZ (cs : List (Bs × Int)) : (cs.flatMap LR).length = cs.length * 2 := by
 induction cs with
 | nil => rfl
 | cons v vs ih => simp only [List.flatMap_cons, List.length_append, ih, List.length_cons]; simp [LR]; omega
theorem LD (T : sL p) (I : sM h0 q jb jk e h' xc xg r) (hq : ag q h0 = .none) (hk : ag jk h0 = .none) (hne : jb ≠ jk) (hv : e.bP.length ≤ 1000) {a : AV} {m : Nat} (hm : m < 1000) :
  ∃ xc' h2, Rn p (.ah KW (.ah k8_3 .skip)) (T22 a (.ptr jb 0) (.ptr q 0) (.ptr jk 0) (i64 (m + 1 : Nat))) h' (.nm (T22 a (.ptr jb 0) (.ptr q 0) (.ptr jk 0) (i64 m)) h2) ∧ sM h0 q jb jk { e with bP := e.bP ++ [(vC r).1] } h2 xc' xg (vC r).2 := by
 obtain ⟨h1, c1, w1, F1⟩ := mW T I.rd 65535
 have I1 := I.rL hq w1 F1
 generalize hs : (bu 65535 r).1 = s at *
 generalize hr1 : (bu 65535 r).2 = r1 at *
 obtain ⟨l, h3, e1, e2, e3, e4, e5, _⟩ := lx (el := 41) (n := 2) I1.rd.wf (c := .k1 (Y2 iS i0)) trivial (by decide)
 have I3 := I1.up e4 e5
 have hl : ag l h0 = .none := I1.old.none e2
 obtain ⟨h4, f1, f2, f3, f4⟩ := gO (k := 0) (m := 2) (l' := [bB s, i0]) e3 rfl (by rw [cD]; omega)
 have f2 : Ob h4 l 41 true .plain [bB s, i0] := f2
 have I4 := I3.st e3 (by decide) (by decide) hl f3 f4
 obtain ⟨h5, c5, w5, F5⟩ := kG T I4.rd
 have I5 := I4.rL hq w5 F5
 have o5 := F5.ob f2 (I4.rd.apart f2 (by decide))
 generalize hn : (bR r1).1 = n at *
 generalize hr2 : (bR r1).2 = r2 at *
 obtain ⟨h6, g1, g2, g3, g4⟩ := dY (k := 1) (v := i64 n) o5 (by simp) rfl
 have g2 : Ob h6 l 41 true .plain [bB s, i64 n] := g2
 have I6 := I5.st o5 (by decide) (by decide) hl g3 g4
 have hv' : vC r = ((s, n), r2) := by
  show (((bu 65535 r).1, (bR (bu 65535 r).2).1), (bR (bu 65535 r).2).2) = _
  rw [hs, hr1, hn, hr2]
 rw [hv']
 obtain ⟨m', h7, u1, u2, u3, u4, u5, u6⟩ := iL (el := 41) (es := 2) (n := 1) (z := [iS, i0]) (ps := [.mk 0 2 (.c (.agg [bB s, i64 n]))]) (l := [bB s, i64 n]) I6.rd.wf rfl rfl (by simp)
 have I7 := I6.up u4 u5
 obtain ⟨v', h8, z1, z2, z3, z4, z5⟩ := yZ (m := 1) I7.rd.wf I7.oc (by omega) (new := [bB s, i64 n]) rfl (by rw [TZ]; simp; omega)
 have V : lj 41 2 xc (.slice m' 0 1 1) h7 = .ok v' h8 := by
  rw [gu (m := 1) (q := m') (o := 0) (l := [bB s, i64 n]) (.inl ⟨_, rfl⟩) (by omega) (fun _ => Ob.c0 u3) rfl (by omega)]
  exact z1
 have ok8 := I7.ok.eq (z5 _ _ _ _ _ I7.ok (.inl (by decide)))
 have ob8 := I7.ob.eq (z5 _ _ _ _ _ I7.ob (.inl (by decide)))
 have rd8 : jQ h8 q r2 := I7.rd.fk z3 fun k el ex fl l o g => z5 k el ex fl l o (.inl (by rcases g with rfl | rfl <;> decide))
 have old8 : Old h0 h8 := fun j hj => by
  have e := I7.old j hj
  rw [z4 j (by rw [e]; exact hj) (fun g => hj g), e]
 have og8 : sg (fun j => ag j h0 = .none) h8 xg e.changes := I7.og.fk fun k el fl l o g => z5 k el _ fl l o (.inl (by rcases g with rfl | rfl <;> decide))
 obtain ⟨h9, k1, k2, k3, k4⟩ := dY (k := 5) (v := v') ok8 (by simp [cZ]) (nv z2)
 have k2 : Ob h9 jk 25 true .plain (cZ v' xg { e with bP := e.bP ++ [(s, n)] }) := k2
 refine ⟨v', h9, .to (r' := T22 a (.ptr jb 0) (.ptr q 0) (.ptr jk 0) (i64 (m + 1 : Nat))) (h' := h9) ((c1.and c5).mono fun n g K => ?_) (.aR fun c i K => ?_),
  ⟨Fr.old (fun j hj _ => k3 j hj) old8 hk, rd8.fr ok8 (by decide) (fun j hj _ => k3 j hj) (gV z3 ok8 k3 k4), ob8.eq (k3 jb hne), k2, ?_, og8.fk fun k el fl l o _ => k3 k (o.apart ok8 (.inr (by simp)))⟩⟩
 ·obtain ⟨gg1, gg5⟩ := g
  simp only [KW, K5, t22_0, t22_2, t22_4, t22_5, t22_6]
  have U0 : bl [iS, i0] [.mk 0 1 (.c (bB s))] h1 = .ok (.agg [bB s, i0]) h1 := rfl
  (rw [aH ER, gY, aM gg1, vu U0, mK e1, ky f1, aM gg5, aA, Nat.zero_add, dQ g1, aA, aC (aw (Ob.c0 I6.ok) 5 rfl), kx (bJ (m := 2) (Ob.c0 g2) rfl), aH u1, aH V, aA, Nat.zero_add, dQ k1]; try rfl)
 ·simp only [k8_3, K5, t22_0, t22_2, t22_4, t22_5, t22_6]
  (rw [vg (by omega)]; try rfl)
 ·rw [LC]
  exact dX.mono (Fr.own (fun j hj _ => k3 j hj) z2 ok8 (.inr (by simp))) fun j hj => hj.elim id fun g => I7.old.none g
theorem _root_.Go.Am.Ds.dZ {p : Pg} {l : List DI} {d : bw} {aop : oZ} {rg : A2} {h h' g : Hp} {hs : List Hp} {v : AV} {st : RS} (e : aop.run rg h = .ok v h') (k : Ds p l (cm d v rg) h' h' (g :: hs) st) : Ds p (.mk .dZ (.o d (.op aop)) :: l) rg h g hs st := k.mono fun m k => by
 show nH d (dI p (exec p m) l) rg g hs (aop.run rg h).lL = st
 rw [e]; exact k
theorem LF {el es : Nat} {l : List AV} {b : P4 → Prop} (w : dX h x el es l b) : same x x = true := by
 rcases w with ⟨_, rfl | ⟨q, rfl⟩⟩ | ⟨q, n, rfl, _⟩
 ·rfl
 ·exact mL (es := 1) (n := 0) (q := q) (o := 0) (.inl ⟨0, rfl⟩)
 ·exact mL (es := es) (n := n) (q := q) (o := 0) (.inr (.inl rfl))
theorem Ox {xs : List AV} {cs : List nu} (hl : xs.length = cs.length) (a : AV) (c : nu) : (List.zipWith vP (xs ++ [a]) (cs ++ [c])).flatten = (List.zipWith vP xs cs).flatten ++ vP a c := by
 rw [List.zipWith_append hl]; simp
theorem Oy {xs : List AV} {cs : List nu} (hl : xs.length = cs.length) : (List.zipWith vP xs cs).flatten.length = cs.length * 3 := by
 induction xs generalizing cs with
 | nil => cases cs with | nil => rfl | cons _ _ => simp at hl
 | cons a xs ih => cases cs with
  | nil => simp at hl
  | cons c cs =>
   simp only [List.zipWith_cons_cons, List.flatten_cons, List.length_append, ih (by simpa using hl), List.length_cons]
   simp [vP]; omega
theorem LG (T : sL p) (e72 : aq 38 p.fs = f38) (I : sM h0 q jb jk e h' xc xg r) (hq : ag q h0 = .none) (hk : ag jk h0 = .none) (hne : jb ≠ jk) (hv : e.changes.length ≤ 1000) {a : AV} {m : Nat} (hm : m < 1000) :
  ∃ xg' h2, Rn p (dp 4 (bh (bh x8))) (T23 a (.ptr jb 0) (.ptr q 0) (.ptr jk 0) (i64 (m + 1 : Nat))) h' (.nm (T23 a (.ptr jb 0) (.ptr q 0) (.ptr jk 0) (i64 m)) h2) ∧ sM h0 q jb jk { e with changes := e.changes ++ [(mU r).1] } h2 xc xg' (mU r).2 := by
 obtain ⟨xv, h1, c1, w1, F1, ow1⟩ := Ow (p := p) T e72 I.rd
 have I1 := I.rL hq w1 F1
 generalize hc : (mU r).1 = c at *
 generalize hr1 : (mU r).2 = r1 at *
 obtain ⟨m', h2, u1, u2, u3, u4, u5, u6⟩ := iL (el := 48) (es := 3) (n := 1) (z := [iS, .ar, .bool false]) (ps := [.mk 0 3 (.c (.agg (vP xv c)))]) (l := vP xv c) I1.rd.wf rfl rfl (by simp [vP])
 have I2 := I1.up u4 u5
 have ow2 := ow1.old fun j _ hj => u4 j hj
 obtain ⟨xs, g1, g2, g3⟩ := I2.og
 obtain ⟨v', h3, z1, z2, z3, z4, z5⟩ := yZ (m := 1) I2.rd.wf g2 (by omega) (new := vP xv c) rfl (by rw [Oy g1]; simp [vP]; omega)
 have V : lj 48 3 xg (.slice m' 0 1 1) h2 = .ok v' h3 := by
  rw [gu (m := 1) (q := m') (o := 0) (l := vP xv c) (.inl ⟨_, rfl⟩) (by omega) (fun _ => Ob.c0 u3) rfl (by omega)]
  exact z1
 have ok3 := I2.ok.eq (z5 _ _ _ _ _ I2.ok (.inl (by decide)))
 have ob3 := I2.ob.eq (z5 _ _ _ _ _ I2.ob (.inl (by decide)))
 have rd3 : jQ h3 q r1 := I2.rd.fk z3 fun k el ex fl l o g => z5 k el ex fl l o (.inl (by rcases g with rfl | rfl <;> decide))
 have old3 : Old h0 h3 := fun j hj => by
  have e := I2.old j hj
  rw [z4 j (by rw [e]; exact hj) (fun g => hj g), e]
 have oc3 := I2.oc.fk (h' := h3) fun k fl l o => z5 k _ _ fl l o (.inl (by decide))
 have rows3 : ∀ i (h1 : i < xs.length) (h2 : i < e.changes.length), dX h3 xs[i] 50 3 (e.changes[i].row.flatMap jc) fun _ => True := fun i a1 a2 => (g3 i a1 a2).fk fun k fl l o => z5 k _ _ fl l o (.inl (by decide))
 have ow3 := ow2.fk (h' := h3) fun k fl l o => z5 k _ _ fl l o (.inl (by decide))
 obtain ⟨h4, k1, k2, k3, k4⟩ := dY (k := 6) (v := v') ok3 (by simp [cZ]) (nv z2)
 have k2 : Ob h4 jk 25 true .plain (cZ xc v' { e with changes := e.changes ++ [c] }) := k2
 have kp : ∀ k el fl l, Ob h3 k el false fl l → ag k h4 = ag k h3 := fun k el fl l o => k3 k (o.apart ok3 (.inr (by simp)))
 have sm := LF g2
 have L0 : lD (.ptr jk 6) h' = .ok xg h' := aw (Ob.c0 I.ok) 6 rfl
 have L1 : lD (.ptr jk 6) h1 = .ok xg h1 := aw (Ob.c0 I1.ok) 6 rfl
 have L2 : lD (.ptr jk 6) h2 = .ok xg h2 := aw (Ob.c0 I2.ok) 6 rfl
 have s5 : ∀ cc i (K : A2 → Hp → RS), k8_5 cc i K (T23 a (.ptr jb 0) (.ptr q 0) (.ptr jk 0) (i64 (m + 1 : Nat))) h' = K (T23 a (.ptr jb 0) (.ptr q 0) (.ptr jk 0) (i64 (m + 1 : Nat))) h' := fun cc i K => by
  simp only [k8_5, K5, t23_0, t23_2, t23_4, t23_5, t23_8]
  (rw [aH ER, gY]; try rfl)
 have ops : ∃ r', Rn p (dp 6 (bh (bh x8))) (T23 a (.ptr jb 0) (.ptr q 0) (.ptr jk 0) (i64 (m + 1 : Nat))) h' (.nm r' h4) ∧ y0 r' = a ∧ y2 r' = .ptr jb 0 ∧ y4 r' = .ptr q 0 ∧ y5 r' = .ptr jk 0 ∧ y8 r' = i64 (m + 1 : Nat) :=
  ⟨_, .block (.qv (.bV (v := .ptr q 0) (g' := h') rfl <| .call (v := .agg (vP xv c)) (h' := h1) c1 <| .dZ (v := .slice m' 0 1 1) (h' := h2) u1 <|
   .Ug (v := .ptr jk 6) (g' := h2) (h1' := h1) (h2' := h') rfl rfl rfl (La _ _) <| .Ug (v := xg) (g' := h2) (h1' := h1) (h2' := h') L2 L1 L0 sm <|
   .dZ (v := v') (h' := h3) V <| .bV (v := .ptr jk 6) (g' := h3) rfl <| .dZ (v := .undef) (h' := h4) k1 <| .nil)), rfl, rfl, rfl, rfl, rfl⟩
 obtain ⟨r', o1, o2, o3, o4, o5, o6⟩ := ops
 refine ⟨v', h4, .ef s5 (.seq o1 (.aR fun cc i K => ?_)), ⟨Fr.old (fun j hj _ => k3 j hj) old3 hk, rd3.fr ok3 (by decide) (fun j hj _ => k3 j hj) (gV z3 ok3 k3 k4), ob3.eq (k3 jb hne), k2, oc3.fk fun k fl l o => kp k _ fl l o, xs ++ [xv], by simp [g1], ?_, fun i a1 a2 => ?_⟩⟩
 ·simp only [k8_6, K5, o2, o3, o4, o5, o6]
  (rw [vg (by omega)]; try rfl)
 ·rw [Ox g1]
  exact dX.mono (z2.fk fun k fl l o => kp k _ fl l o) fun j hj => hj.elim id fun g => I2.old.none g
 ·by_cases hi : i < xs.length
  ·simp only [List.getElem_append_left hi, List.getElem_append_left (show i < e.changes.length by omega)]
   exact (rows3 i hi (by omega)).fk fun k fl l o => kp k _ fl l o
  ·have hi' : i = xs.length := by simp at a1; omega
   subst hi'
   have q1 : (xs ++ [xv])[xs.length]'a1 = xv := by simp
   have q2 : (e.changes ++ [c])[xs.length]'a2 = c := by
    have := List.getElem_append_right («as» := e.changes) (bs := [c]) (i := xs.length) (by omega) (h₂ := a2)
    rw [this]; simp
   rw [q1, q2]
   exact dX.mono (ow3.fk fun k fl l o => kp k _ fl l o) fun _ _ => True.intro
end
open Go.Cod
noncomputable section
variable {p : Pg} {h0 h h' h1 : Hp} {q j : P4} {s : Bs} {x y a b d e f : AV}
end
open Go.Cod
noncomputable section
variable {p : Pg} {h0 h h' h1 : Hp} {q j : P4} {s : Bs} {x y a b d e f : AV}
end
open Go.Cod
noncomputable section
variable {p : Pg} {h0 h h' h1 : Hp} {q j : P4} {s : Bs} {x y a b d e f : AV}
end
open Go.Cod
noncomputable section
variable {p : Pg} {h0 h h' h1 : Hp} {q j : P4} {s : Bs} {x y a b d e f : AV}
end
open Go.Cod
noncomputable section
variable {p : Pg} {h0 h h' h1 : Hp} {q j : P4} {s : Bs} {x y a b d e f : AV}
structure Bb (h0 h : Hp) (x : AV) (s : Bs) : Prop where
 old : Old h0 h
 wf : Wf h
 own : dX h x 5 1 (bc s) fun j => ag j h0 = .none
theorem Bb.rd (w : Bb h0 h x s) : fm h x s := dX.GH w.own
theorem Bb.app (w : Bb h0 h x s) (t : Bs) {m : Nat} (hm : t.length = m) (hl : s.length + t.length ≤ 16777216) : ∃ v h2, lN 5 1 m (bc t) x h = .ok v h2 ∧ Bb h0 h2 v (s ++ t) := by
 subst hm
 obtain ⟨v, h2, c1, c2, c3, c4⟩ := iM (m := t.length) (es := 1) w.wf w.own (by omega) (new := bc t) (by rw [bU]; omega) (by simp only [bU]; exact hl)
 refine ⟨v, h2, c1, fun k hk => ?_, c3, ?_⟩
 ·have := w.old k hk
  rw [c4 k (by rw [this]; exact hk) (fun g => hk g), this]
 ·rw [uZ]
  refine dX.mono c2 fun k hk => ?_
  rcases hk with hk | hk
  ·exact hk
  ·exact w.old.none hk
theorem Bb.up (w : Bb h0 h x s) (O : Old h h') (W : Wf h') : Bb h0 h' x s := ⟨w.old.trans O, W, w.own.old fun j _ hj => O j hj⟩
theorem Bb.Lj (w : Bb h0 h x s) (t : Bs) {m : Nat} (hm : t.length = m) {z : List AV} {ps : List Part} (hf : fits ps .nil = true) (hz : fill ps .nil z = bc t) (hl : s.length + t.length ≤ 16777216) :
  ∃ l h1 v h2, Seat.bs 5 1 m z ps h = .ok l h1 ∧ lj 5 1 x l h1 = .ok v h2 ∧ Bb h0 h2 v (s ++ t) := by
 obtain ⟨j, h1, f1, f2, f3, f4, f5, f6⟩ := iL (el := 5) (es := 1) (n := m) w.wf hf hz (by simp [bU]; omega)
 obtain ⟨v, h2, g1, g2⟩ := (Bb.up w f4 f5).app t hm hl
 refine ⟨_, h1, v, h2, f1, ?_, g2⟩
 rw [gu (m := m) (q := j) (o := 0) (l := bc t) (.inl ⟨_, rfl⟩) (by omega) (fun _ => Ob.c0 f3) (by simp [bU, hm]) (by omega)]
 exact g1
end
open Go.Cod
noncomputable section
variable {p : Pg} {h0 h h' h1 : Hp} {q j : P4} {s : Bs} {x y a b d e f : AV}
end
open Go.Cod
noncomputable section
variable {p : Pg} {h0 h h' h1 : Hp} {q j : P4} {s : Bs} {x y a b d e f : AV}
end
open Go.Cod
noncomputable section
variable {p : Pg} {h0 h h' h1 : Hp} {q j : P4} {s : Bs} {x y a b d e f : AV}
end
open Go.Cod
noncomputable section
variable {p : Pg} {h0 h h' h1 : Hp} {q j : P4} {s : Bs} {x y a b d e f : AV}
theorem Es (s : Bs) (n : Nat) (hn : n ≤ s.length) : gM (.c (bB s)) .none (.some (.c (pi n))) .nil h = .ok (bB (s.take n)) h := by
 rw [bB, NZ _ _ (by simpa using hn), ← List.map_take]
theorem za {A C : List AV} {a b c v : AV} : (A ++ ([a, b, c] ++ C)).set (A.length + 2) v = A ++ ([a, b, v] ++ C) ∧ (A ++ ([a, b, c] ++ C)).set A.length v = A ++ ([v, b, c] ++ C) := by
 constructor
 ·rw [List.set_append_right _ _ (by omega)]; simp
 ·rw [List.set_append_right _ _ (by omega)]; simp
theorem Ob.LW {el : Nat} {ex : Bool} {fl : Fl} {A C : List AV} {m : List AV} (o : Ob h q el ex fl (A ++ (m ++ C))) : Cs h q A.length m :=
 o.cs (fun j hj => ⟨by simp; omega, by rw [List.getElem_append_right (by omega), List.getElem_append_left (by omega)]; simp⟩) (by simp)
theorem Oz (e24 : aq 13 p.fs = f13) {A C : List AV} {v : lQ} {n i : Nat} (W : Wf h) (o : Ob h q 50 false .plain (A ++ (jc v ++ C))) (hA : A.length = i * 3) (hi : i < n) :
  ∃ h', (∀ X s', Rn p X (T38 a b d e f (.fq q 0 n 3) (i64 i)) h' s' → Rn p (.ah xm X) (T38 a b d e f (.fq q 0 n 3) (i64 i)) h s') ∧ Ob h' q 50 false .plain (A ++ (jc (sK v) ++ C)) ∧ (∀ j, j ≠ q → ag j h' = ag j h) ∧ Wf h' := by
 have sl : vO (.fq q 0 n 3) 3 n q 0 := .inr (.inl rfl)
 have hp : 0 + i * 3 = A.length := by omega
 have gt : dx (i64 v.s.length) (pi 41) h = .ok (.bool (decide ((41 : Int) < v.s.length))) h := iO _ _ _
 by_cases hc : 41 < v.s.length
 ·obtain ⟨h2, a1, a2, a3, a4⟩ := dY (k := A.length + 2) (v := bB (v.s.take 41)) o (by simp [jc]) rfl
  have a2 : Ob h2 q 50 false .plain (A ++ ([i64 v.kind, i64 v.n, bB (v.s.take 41)] ++ C)) := by
   have e := (za (A := A) (C := C) (a := i64 v.kind) (b := i64 v.n) (c := bB v.s) (v := bB (v.s.take 41))).1
   rw [show A ++ (jc v ++ C) = A ++ ([i64 v.kind, i64 v.n, bB v.s] ++ C) from rfl, e] at a2; exact a2
  have nr := yI (p := p) (h := h2) e24 v.kind
  obtain ⟨h3, b1, b2, b3, b4⟩ := dY (k := A.length) (v := i64 (gZ v.kind)) a2 (by simp) rfl
  have b2 : Ob h3 q 50 false .plain (A ++ ([i64 (gZ v.kind), i64 v.n, bB (v.s.take 41)] ++ C)) := by
   rw [(za (A := A) (C := C) (a := i64 v.kind) (b := i64 v.n) (c := bB (v.s.take 41)) (v := i64 (gZ v.kind))).2] at b2; exact b2
  refine ⟨h3, fun X s' e => .to (nr.mono fun m g K => ?_) e, b2, fun j hj => by rw [b3 j hj, a3 j hj], ?_⟩
  ·simp only [xm, K7, xw, xy, xz, xA, xB, xD, xE]
   (rw [du (ct sl hi), hp, aA, aC (aw (Ob.LW o) 2 rfl), iP, br, aH gt, bH, if_pos (by omega), du (ct sl hi), hp, aA, aC (aw (Ob.LW o) 2 rfl), aH (Es _ _ (by omega)), du (ct sl hi), hp, aA, dQ a1, du (ct sl hi), hp, aA, Nat.add_zero, aC (cB (Ob.LW a2) rfl), aM g, du (ct sl hi), hp, aA, Nat.add_zero, dQ b1]; try rfl)
  ·refine W.of (by rw [b4, a4]) fun j hj => ?_
   have hq : j ≠ q := fun g => o.ne (g ▸ hj)
   rw [b3 j hq, a3 j hq, hj]
 ·have nr := yI (p := p) (h := h) e24 v.kind
  obtain ⟨h3, b1, b2, b3, b4⟩ := dY (k := A.length) (v := i64 (gZ v.kind)) o (by simp [jc]) rfl
  have b2 : Ob h3 q 50 false .plain (A ++ ([i64 (gZ v.kind), i64 v.n, bB v.s] ++ C)) := by
   have e := (za (A := A) (C := C) (a := i64 v.kind) (b := i64 v.n) (c := bB v.s) (v := i64 (gZ v.kind))).2
   rw [show A ++ (jc v ++ C) = A ++ ([i64 v.kind, i64 v.n, bB v.s] ++ C) from rfl, e] at b2; exact b2
  refine ⟨h3, fun X s' e => .to (nr.mono fun m g K => ?_) e, ?_, b3, ?_⟩
  ·simp only [xm, K7, xw, xy, xz, xA, xB, xD, xE]
   (rw [du (ct sl hi), hp, aA, aC (aw (Ob.LW o) 2 rfl), iP, br, aH gt, bH, if_neg (by omega), du (ct sl hi), hp, aA, Nat.add_zero, aC (cB (Ob.LW o) rfl), aM g, du (ct sl hi), hp, aA, Nat.add_zero, dQ b1]; try rfl)
  ·have : jc (sK v) = [i64 (gZ v.kind), i64 v.n, bB v.s] := by
    unfold jc sK
    rw [List.take_of_length_le (by omega)]
   rw [this]; exact b2
  ·refine W.of b4 fun j hj => ?_
   have hq : j ≠ q := fun g => o.ne (g ▸ hj)
   rw [b3 j hq, hj]
end
open Go.Cod
noncomputable section
variable {p : Pg} {h0 h h' h1 : Hp} {q j : P4} {s : Bs} {x y a b d e f g : AV}
theorem PI {α β : Type} {g : α → List β} {l : List α} {i : Nat} (hi : i < l.length) : (l.take (i + 1)).flatMap g = (l.take i).flatMap g ++ g l[i] := by
 rw [List.take_succ_eq_append_getElem hi, List.flatMap_append]; simp
theorem PV {α β : Type} {g : α → List β} {l : List α} {i : Nat} (hi : i < l.length) : (l.drop i).flatMap g = g l[i] ++ (l.drop (i + 1)).flatMap g := by
 rw [List.drop_eq_getElem_cons hi, List.flatMap_cons]
theorem gp : ∀ l : List lQ, (l.flatMap jc).length = l.length * 3
 | [] => rfl
 | v :: l => by simp [jc, gp l]; omega
def nM (h : Hp) (g : AV) (row : List lQ) (B : P4 → Prop) : Prop := (row = [] ∧ (g = .ar ∨ ∃ q, g = .slice q 0 0 0)) ∨ ∃ q rest, g = .fq q 0 row.length 3 ∧ Ob h q 50 false .plain (row.flatMap jc ++ rest) ∧ B q
theorem nM.rd {B : P4 → Prop} {row : List lQ} (w : nM h g row B) (O : ∀ q, B q → ag q h ≠ .none → ag q h' = ag q h) : dP h' g row := by
 rcases w with ⟨rfl, rfl | ⟨q, rfl⟩⟩ | ⟨q, rest, rfl, o, hb⟩
 ·exact ⟨.eN 0 0, 0, .inr (.inr ⟨rfl, rfl⟩), fun i hi => absurd hi (by simp)⟩
 ·exact ⟨q, 0, .inl ⟨0, by simp, rfl⟩, fun i hi => absurd hi (by simp)⟩
 ·have o := o.eq (O q hb o.ne)
  refine ⟨q, 0, .inr (.inl rfl), fun i hi => ⟨_, rfl, ?_, rfl⟩⟩
  have e : row.flatMap jc ++ rest = (row.take i).flatMap jc ++ (jc row[i] ++ ((row.drop (i + 1)).flatMap jc ++ rest)) := by
   conv => lhs; rw [← List.take_append_drop i row]
   rw [List.flatMap_append, PV hi]
   simp only [List.append_assoc]
  rw [e] at o
  have := Ob.LW o
  rw [gp, List.length_take, Nat.min_eq_left (by omega)] at this
  rw [Nat.zero_add]; exact this
theorem nM.len {B : P4 → Prop} {row : List lQ} (w : nM h g row B) : Am.len g h = .ok (.int .i64 (row.length : Int)) h := by
 rcases w with ⟨rfl, rfl | ⟨q, rfl⟩⟩ | ⟨q, rest, rfl, o, hb⟩ <;> rfl
theorem Kh (e24 : aq 13 p.fs = f13) {B : P4 → Prop} {row : List lQ} (W : Wf h) (w : nM h g row B) (hn : row.length < 9223372036854775807) :
  ∃ h', Rn p (.loop (.ah xn (.ah xm (.ah k14_8 .skip)))) (T38 a b d e f g i0) h (.ex 2 (T37 a b d e f g) h') ∧ nM h' g (row.map sK) B ∧ (∀ j, ¬ B j → ag j h' = ag j h) ∧ (∀ j, ag j h ≠ .none → ag j h' ≠ .none) ∧ Wf h' := by
 rcases w with ⟨rfl, hg⟩ | ⟨q, rest, rfl, o, hb⟩
 ·refine ⟨h, .eI (.aR fun c i' K => ?_), .inl ⟨rfl, hg⟩, fun _ _ => rfl, fun _ hj => hj, W⟩
  have hl : Am.len g h = .ok (.int .i64 0) h := by rcases hg with rfl | ⟨q, rfl⟩ <;> rfl
  simp only [xn, K7, xw, xy, xz, xA, xB, xD, xE]
  (rw [bt hl, bA, bH, if_neg (by decide)]; try rfl)
 ·obtain ⟨r', h', ⟨_, I1, I2, I3, I4⟩, k⟩ := gv (p := p) (body := .ah xn (.ah xm (.ah k14_8 .skip))) (r := T38 a b d e f (.fq q 0 row.length 3) i0) (h := h) row.length
   (Inv := fun i r h' => r = T38 a b d e f (.fq q 0 row.length 3) (i64 i) ∧ Ob h' q 50 false .plain (((row.take i).map sK).flatMap jc ++ ((row.drop i).flatMap jc ++ rest)) ∧ (∀ j, j ≠ q → ag j h' = ag j h) ∧ Wf h' ∧ True) (l := 2) (Re := T37 a b d e f (.fq q 0 row.length 3)) (fun i r h' hi I => by
    obtain ⟨rfl, o, O, W, _⟩ := I
    rw [PV hi, List.append_assoc] at o
    obtain ⟨h2, k, o2, O2, W2⟩ := Oz (p := p) (a := a) (b := b) (d := d) (e := e) (f := f) (n := row.length) e24 W o (by rw [gp, List.length_map, List.length_take, Nat.min_eq_left (by omega)]) hi
    refine ⟨T38 a b d e f (.fq q 0 row.length 3) (i64 (i + 1 : Nat)), h2, .ef (r' := T38 a b d e f (.fq q 0 row.length 3) (i64 i)) (h' := h') (fun c i' K => ?_) (k _ _ (.aR fun c i' K => ?_)), rfl, ?_, fun j hj => by rw [O2 j hj, O j hj], W2, trivial⟩
    ·simp only [xn, K7, xw, xy, xz, xA, xB, xD, xE]
     (rw [bt (eY (es := 3) (.inr (.inl rfl))), bA, bH, if_pos (by omega)]; try rfl)
    ·simp only [k14_8, K7, xw, xy, xz, xA, xB, xD, xE]
     (rw [dS hi hn]; try rfl)
    ·rw [List.take_succ_eq_append_getElem hi, List.map_append, List.flatMap_append]
     simpa only [List.map_cons, List.map_nil, List.flatMap_cons, List.flatMap_nil, List.append_nil, List.append_assoc] using o2) (fun r h' I => by
    obtain ⟨rfl, o, O, W, _⟩ := I
    refine .aR fun c i K => ?_
    simp only [xn, K7, xw, xy, xz, xA, xB, xD, xE]
    (rw [bt (eY (es := 3) (.inr (.inl rfl))), bA, bH, if_neg (by omega)]; try rfl)) ⟨rfl, by simpa using o, fun _ _ => rfl, W, trivial⟩
  have I1' : Ob h' q 50 false .plain ((row.map sK).flatMap jc ++ rest) := by simpa using I1
  refine ⟨h', k, .inr ⟨q, rest, by rw [List.length_map], I1', hb⟩, fun j hj => I2 j (fun g => hj (g ▸ hb)), fun j hj => ?_, I3⟩
  by_cases g : j = q
  ·rw [g]; exact I1'.ne
  ·rw [I2 j g]; exact hj
end
open Go.Cod
noncomputable section
variable {p : Pg} {h hb h' h2 : Hp} {q j : P4} {x y v : AV} {α : Type} {f : Hp → List AV → α → Prop} {xs : List α} {el es : Nat}
structure Lb (h hb h' : Hp) (v : AV) (el es : Nat) (f : Hp → List AV → α → Prop) (xs : List α) : Prop where
 old : Old h h'
 wf : Wf h'
 own : ∃ hr L, Old hb hr ∧ Old hr h' ∧ (∀ j, ag j hr ≠ .none → ag j hb ≠ .none ∨ ag j h = .none) ∧ dX h' v el es (List.flatten L) (fun j => ag j hr = .none ∧ ag j h = .none) ∧ L.length = xs.length ∧ ∀ i (hi : i < L.length) (hx : i < xs.length), L[i].length = es ∧ f hr L[i] xs[i]
theorem Lb.nil (W : Wf h) (O : Old hb h) (hv : v = .ar ∨ ∃ q, v = .slice q 0 0 0) : Lb h hb h v el es f [] :=
 ⟨.refl h, W, hb, [], .refl hb, O, fun _ hj => .inl hj, .inl ⟨rfl, hv⟩, rfl, fun i hi => absurd hi (by simp)⟩
theorem iW {es : Nat} : ∀ {L : List (List AV)}, (∀ i (hi : i < L.length), L[i].length = es) → L.flatten.length = L.length * es
 | [], _ => by simp
 | a :: L, g => by
  have h0 := g 0 (by simp)
  have := iW (L := L) fun i hi => g (i + 1) (by simp; omega)
  simp only [List.flatten_cons, List.length_append, List.length_cons, this, Nat.add_mul]
  simp at h0
  omega
theorem Lb.app (w : Lb h hb h' v el es f xs) (mono : ∀ h1 h2 l a, Old h1 h2 → f h1 l a → f h2 l a) (hes : 0 < es) (O : Old h' h2) (W : Wf h2) {l : List AV} {a : α} (hl : l.length = es)
  (hf : ∀ hr, Old hb hr → (∀ j, ag j h' = .none → ag j hr = ag j h2) → f hr l a) (hs : (xs.length + 1) * es ≤ 16777216) :
  ∃ v' h3, lN el es 1 l v h2 = .ok v' h3 ∧ Lb h hb h3 v' el es f (xs ++ [a]) ∧ ∀ j, ag j h' = .none → ag j h2 ≠ .none → ag j h3 = ag j h2 := by
 classical
 obtain ⟨w1, w2, hr, L, r1, r2, r3, r4, r5, r6⟩ := w
 obtain ⟨hr', g⟩ := Et fun j => if ag j h' = .none then ag j h2 else ag j hr
 have g1 : ∀ j, ag j h' = .none → ag j hr' = ag j h2 := fun j hj => by rw [g, if_pos hj]
 have g2 : ∀ j, ag j h' ≠ .none → ag j hr' = ag j hr := fun j hj => by rw [g, if_neg hj]
 have O1 : Old hr hr' := fun j hj => g2 j (by rw [r2 j hj]; exact hj)
 have O2 : Old hr' h2 := fun j hj => by
  by_cases hn : ag j h' = .none
  ·rw [g1 j hn]
  ·rw [g2 j hn] at hj ⊢
   rw [O j hn, r2 j hj]
 have ow : dX h2 v el es L.flatten (fun j => ag j hr' = .none ∧ ag j h = .none) := by
  rcases r4 with r4 | ⟨q, n, e1, e2, e3, e4⟩
  ·exact .inl r4
  ·exact .inr ⟨q, n, e1, e2, e3.old O, by rw [g2 q e3.ne]; exact e4.1, e4.2⟩
 have hL := iW (es := es) (L := L) fun i hi => (r6 i hi (by omega)).1
 have hs' : xs.length * es + es ≤ 16777216 := by rw [Nat.add_mul] at hs; omega
 obtain ⟨v', h3, c1, c2, c3, c4⟩ := iM (m := 1) W ow hes (new := l) (by omega) (by rw [hL, r5]; omega)
 have O3 : Old hr' h3 := fun j hj => by
  have e := O2 j hj
  rw [c4 j (by rw [e]; exact hj) (fun g => hj g.1), e]
 refine ⟨v', h3, c1, ⟨?_, c3, hr', L ++ [l], r1.trans O1, O3, ?_, ?_, by simp [r5], ?_⟩, fun j hj hj2 => by rw [O3 j (by rw [g1 j hj]; exact hj2), g1 j hj]⟩
 ·intro j hj
  have e := (w1.trans O) j hj
  rw [c4 j (by rw [e]; exact hj) (fun g => hj g.2), e]
 ·intro j hj
  by_cases hn : ag j h' = .none
  ·exact .inr (w1.none hn)
  ·rw [g2 j hn] at hj
   exact r3 j hj
 ·simp only [List.flatten_append, List.flatten_cons, List.flatten_nil, List.append_nil]
  refine dX.mono c2 fun j hj => ?_
  rcases hj with hj | hj
  ·exact hj
  ·exact ⟨O2.none hj, (w1.trans O).none hj⟩
 ·intro i hi hx
  by_cases hi' : i < L.length
  ·have := r6 i hi' (by omega)
   rw [List.getElem_append_left hi', List.getElem_append_left (by omega)]
   exact ⟨this.1, mono _ _ _ _ O1 this.2⟩
  ·have : i = L.length := by simp at hi; omega
   subst this
   have a1 : (L ++ [l])[L.length]'hi = l := by simp
   have a2 : (xs ++ [a])[L.length]'hx = a := by
    have := List.getElem_append_right («as» := xs) (bs := [a]) (i := L.length) (by omega) (h₂ := hx)
    rw [this]; simp
   rw [a1, a2]
   exact ⟨hl, hf hr' (r1.trans O1) g1⟩
theorem Lb.rd (w : Lb h hb h' v el es f xs) (mono : ∀ h1 h2 l a, Old h1 h2 → f h1 l a → f h2 l a) (hes : 0 < es) : ∃ hr, Old hb hr ∧ Old hr h' ∧ (∀ j, ag j hr ≠ .none → ag j hb ≠ .none ∨ ag j h = .none) ∧ dt hr es (f hr) v xs := by
 classical
 obtain ⟨w1, w2, hr, L, r1, r2, r3, r4, r5, r6⟩ := w
 rcases r4 with ⟨e, hv⟩ | ⟨q, n, rfl, e2, e3, e4⟩
 ·refine ⟨hr, r1, r2, r3, ?_⟩
  have hL := iW (es := es) (L := L) fun i hi => (r6 i hi (by omega)).1
  have : xs = [] := by
   rw [e, List.length_nil] at hL
   have : L.length = 0 := (Nat.mul_eq_zero.1 hL.symm).resolve_right (by omega)
   exact List.length_eq_zero_iff.1 (by omega)
  subst this
  rcases hv with rfl | ⟨q, rfl⟩
  ·exact ⟨.eN 0 0, 0, .inr (.inr ⟨rfl, rfl⟩), fun i hi => absurd hi (by simp)⟩
  ·exact ⟨q, 0, .inl ⟨0, by simp, rfl⟩, fun i hi => absurd hi (by simp)⟩
 ·obtain ⟨hr', g⟩ := Et fun j => if j = q then ag j h' else ag j hr
  have gq : ag q hr' = ag q h' := by rw [g, if_pos rfl]
  have g2 : ∀ j, j ≠ q → ag j hr' = ag j hr := fun j hj => by rw [g, if_neg hj]
  have O1 : Old hr hr' := fun j hj => g2 j (fun e => hj (e ▸ e4.1))
  have O2 : Old hr' h' := fun j hj => by
   by_cases e : j = q
   ·rw [e, gq]
   ·rw [g2 j e] at hj ⊢
    exact r2 j hj
  have hL := iW (es := es) (L := L) fun i hi => (r6 i hi (by omega)).1
  have hn : n = xs.length := by
   rw [hL, r5] at e2
   exact (Nat.eq_of_mul_eq_mul_right hes e2).symm
  subst hn
  refine ⟨hr', r1.trans O1, O2, fun j hj => ?_, q, 0, .inr (.inl rfl), fun i hi => ?_⟩
  ·by_cases e : j = q
   ·rw [e]; exact .inr e4.2
   ·rw [g2 j e] at hj; exact r3 j hj
  ·have hi' : i < L.length := by omega
   obtain ⟨k1, k2⟩ := r6 i hi' hi
   refine ⟨L[i], k1, ?_, mono _ _ _ _ O1 k2⟩
   have e : L.flatten = (L.take i).flatten ++ (L[i] ++ (L.drop (i + 1)).flatten) := by
    conv => lhs; rw [← List.take_append_drop i L]
    rw [List.flatten_append, List.drop_eq_getElem_cons hi', List.flatten_cons]
   rw [e] at e3
   have := Ob.LW (e3.eq (h' := hr') gq)
   rw [iW (es := es) (fun k hk => by rw [List.getElem_take]; exact (r6 k (by simp at hk; omega) (by simp at hk; omega)).1), List.length_take, Nat.min_eq_left (by omega)] at this
   rw [Nat.zero_add]; exact this
end
open Go.Cod
noncomputable section
variable {p : Pg} {h0 h h' h1 h2 : Hp} {q j k jb jk : P4} {s full : Bs} {x y xv xc xg : AV} {r rr : Rd} {e : jA}
theorem Sb (r : Rd) : TS 65535 (lA r).1 := ⟨Cod.nE _, Cod.nE _, Cod.qn _ _⟩
theorem Sc (r : Rd) : Uh 65535 (mU r).1 := by
 refine ⟨Cod.qn _ _, ?_, fun v hv => Cod.qo (P := TS 65535) Sb _ _ v hv⟩
 show (many lA (bW (bu 65535 r).2).1 (bW (bu 65535 r).2).2).1.length ≤ _
 rw [Cod.iV]
 have : (bW (bu 65535 r).2).1 < 256 := Cod.gQ 1 _
 omega
theorem Se (r : Rd) : wO 65535 (CV r).1 := by
 rw [yX]
 refine ⟨Cod.nE _, Cod.nE _, Cod.nE _, Cod.qn _ _, Cod.qn _ _, ?_, fun c hc => Cod.qo (P := fun c : Bs × Int => c.1.length ≤ 65535 ∧ dL c.2) (fun r => ⟨Cod.qn _ _, Cod.nE _⟩) _ _ c hc, ?_, fun c hc => Cod.qo (P := Uh 65535) Sc _ _ c hc⟩
 ·simp only [Cod.iV]
  have : ∀ r, (bW r).1 < 256 := fun r => Cod.gQ 1 r
  exact Nat.le_trans (Nat.le_of_lt (this _)) (by omega)
 ·simp only [Cod.iV]
  have : ∀ r, (bW r).1 < 256 := fun r => Cod.gQ 1 r
  exact Nat.le_trans (Nat.le_of_lt (this _)) (by omega)
theorem th {α : Type} {f : List AV → α → Prop} {el es : Nat} {b : P4 → Prop} {L : List (List AV)} {xs : List α} (hes : 0 < es) (w : dX h x el es L.flatten b) (hl : L.length = xs.length) (g : ∀ i (h1 : i < L.length) (h2 : i < xs.length), L[i].length = es ∧ f L[i] xs[i]) : dt h es f x xs := by
 have hL := iW (es := es) (L := L) fun i hi => (g i hi (by omega)).1
 rcases w with ⟨e, hv⟩ | ⟨q, n, rfl, e2, e3, _⟩
 ·have : xs = [] := by
   rw [e, List.length_nil] at hL
   have : L.length = 0 := (Nat.mul_eq_zero.1 hL.symm).resolve_right (by omega)
   exact List.length_eq_zero_iff.1 (by omega)
  subst this
  rcases hv with rfl | ⟨q, rfl⟩
  ·exact ⟨.eN 0 0, 0, .inr (.inr ⟨rfl, rfl⟩), fun i hi => absurd hi (by simp)⟩
  ·exact ⟨q, 0, .inl ⟨0, by simp, rfl⟩, fun i hi => absurd hi (by simp)⟩
 ·have hn : n = xs.length := by
   rw [hL, hl] at e2
   exact (Nat.eq_of_mul_eq_mul_right hes e2).symm
  subst hn
  refine ⟨q, 0, .inr (.inl rfl), fun i hi => ?_⟩
  have hi' : i < L.length := by omega
  obtain ⟨k1, k2⟩ := g i hi' hi
  refine ⟨L[i], k1, ?_, k2⟩
  have e : L.flatten = (L.take i).flatten ++ (L[i] ++ (L.drop (i + 1)).flatten) := by
   conv => lhs; rw [← List.take_append_drop i L]
   rw [List.flatten_append, List.drop_eq_getElem_cons hi', List.flatten_cons]
  rw [e] at e3
  have := Ob.LW e3
  rw [iW (es := es) (fun k hk => by rw [List.getElem_take]; exact (g k (by simp at hk; omega) (by simp at hk; omega)).1), List.length_take, Nat.min_eq_left (by omega)] at this
  rw [Nat.zero_add]; exact this
theorem lK {α : Type} (g : α → List AV) (l : List α) : l.flatMap g = (l.map g).flatten := by rw [List.flatMap_def]
theorem pX {b : P4 → Prop} {cs : List (Bs × Int)} (w : dX h x 41 2 (cs.flatMap LR) b) : aO h x cs := by
 rw [lK] at w
 exact th (by omega) w (by simp) fun i h1 h2 => by simp [LR]
theorem OE {b : P4 → Prop} {row : List lQ} (w : dX h x 50 3 (row.flatMap jc) b) : dP h x row := by
 rw [lK] at w
 exact th (by omega) w (by simp) fun i h1 h2 => by simp [jc]
theorem pY {b : P4 → Prop} {cs : List nu} (w : sg b h x cs) : aZ h x cs := by
 obtain ⟨xs, e1, e2, e3⟩ := w
 refine th (by omega) e2 (by simp [e1]) fun i h1 h2 => ?_
 have hx : i < xs.length := by omega
 refine ⟨by simp [vP], xs[i], by simp, OE (e3 i hx h2)⟩
theorem sM.Md (I : sM h0 q jb jk e h' xc xg r) : eE h' (cZ xc xg e) e := ⟨xc, xg, rfl, pX I.oc, pY I.og⟩
theorem sM.put (I : sM h0 q jb jk e h' xc xg r) (hne : jb ≠ jk) (hk : ag jk h0 = .none) {i : Nat} {v : AV} (hi : i < 7) (hv : v.one = true) {e' : jA} (he : (cZ xc xg e).set i v = cZ xc xg e') (h1 : e'.bP = e.bP) (h2 : e'.changes = e.changes) :
  ∃ h2, sT (.ptr jk i) v h' = .ok .undef h2 ∧ sM h0 q jb jk e' h2 xc xg r := by
 obtain ⟨h2, k1, k2, k3, k4⟩ := dY (k := i) (v := v) I.ok (by simpa [cZ] using hi) hv
 refine ⟨h2, k1, Fr.old (fun j hj _ => k3 j hj) I.old hk, I.rd.fr I.ok (by decide) (fun j hj _ => k3 j hj) (gV I.rd.wf I.ok k3 k4), I.ob.eq (k3 jb hne), he ▸ k2, ?_, ?_⟩
 ·rw [h1]; exact Fr.own (fun j hj _ => k3 j hj) I.oc I.ok (.inr (by simp))
 ·rw [‹e'.changes = e.changes›]; exact I.og.fk fun k el fl l o _ => k3 k (o.apart I.ok (.inr (by simp)))
structure Nz (p : Pg) : Prop where
 d : sL p
 w : GL p
 t : RW p
 e30 : aq 7 p.fs = f7
 e45 : aq 8 p.fs = f8
 e72 : aq 38 p.fs = f38
 e74 : aq 40 p.fs = f40
theorem LH (e74 : aq 40 p.fs = f40) {t : Bs} (a : fm h x s) (b : fm h y t) : Cv p 40 [x, y] h (.bool (decide (s = t))) h := by
 refine .of (r' := T31 (.bool (decide (s = t)))) (h1 := h) e74 (by simp) (.aR fun c i K => ?_) rfl
 simp only [k40_0, K2, gT, gU]
 have e : decide (s.map UInt8.toNat = t.map UInt8.toNat) = decide (s = t) := by
  rw [decide_eq_decide]
  refine ⟨fun g => ?_, fun g => by rw [g]⟩
  exact List.map_inj_right (fun a b g => UInt8.toNat_inj.1 g) |>.1 g
 (rw [aH (iR a), aH (iR b), aH (Kc _ _), e]; try rfl)
theorem OG (T : Nz p) (I : sM h0 q jb jk e h' xc xg r) (bd : wO 65535 e) {n : Int} (hs : n = 0 → takes e = true → (enc e).length ≤ 16777216) (rb : fm h' x s) :
  ∃ r' h2, Rn p (dp 3 (bh (bh (bh x8)))) (T24 x (.ptr jb 0) (.ptr jk 0) (i64 n)) h' (.nm r' h2) ∧ Old h' h2 ∧ Wf h2 ∧ y2 r' = .ptr jb 0 ∧ y5 r' = .ptr jk 0 ∧ y75 r' = .bool (!(decide (n = 0) && (takes e && decide (enc e = s)))) := by
 have L0 : Seat.lR 7 (.ptr jk 0) h' = .ok (.agg (cZ xc xg e)) h' := bJ (m := 7) (Ob.c0 I.ok) (by simp [cZ])
 by_cases hn : n = 0
 ·have e0 : bK .ne (i64 n) i0 h' = .ok (.bool false) h' := xd hn
  obtain ⟨h1, t1, t2, t3⟩ := Bl (p := p) T.t I.rd.wf I.Md bd (by omega)
  have L1 : Seat.lR 7 (.ptr jk 0) h1 = .ok (.agg (cZ xc xg e)) h1 := bJ (m := 7) ((Ob.c0 I.ok).old t2) (by simp [cZ])
  cases ht : takes e with
  | false =>
   rw [ht] at t1
   refine ⟨_, h1, .ops (.step (v := i64 n) (h' := h') rfl <| .step (v := .bool false) (h' := h') e0 <| .step (v := .bool false) (h' := h') rfl <| .on rfl <| .step (v := .agg (cZ xc xg e)) (h' := h') L0 <| .on rfl <| .call (v := .bool false) (h' := h1) t1 <|
    .on rfl <| .step (v := .bool true) (h' := h1) rfl <| .step (v := .bool true) (h' := h1) rfl <| .step (v := .bool true) (h' := h1) rfl <| .off rfl <| .off rfl <| .off rfl <| .off rfl <| .off rfl <| .step (v := .bool true) (h' := h1) rfl <| .nil), t2, t3, rfl, rfl, ?_⟩
   rw [Bool.false_and, Bool.and_false]; rfl
  | true =>
   rw [ht] at t1
   obtain ⟨v, h2, c1, c2, c3, c4⟩ := nz (p := p) T.w T.t T.e30 T.d.e58 t3 (l := cZ xc xg e) (e := e) (let ⟨a, b, c, d, f⟩ := I.Md; ⟨a, b, c, aO.up d t2, aZ.up f t2⟩) bd (by omega) (hs hn ht)
   rw [if_pos ht] at c2
   have eq := LH (p := p) (h := h2) T.e74 (dX.GH c2) ((rb.up t2).up c3)
   refine ⟨_, h2, .ops (.step (v := i64 n) (h' := h') rfl <| .step (v := .bool false) (h' := h') e0 <| .step (v := .bool false) (h' := h') rfl <| .on rfl <| .step (v := .agg (cZ xc xg e)) (h' := h') L0 <| .on rfl <| .call (v := .bool true) (h' := h1) t1 <|
    .on rfl <| .step (v := .bool false) (h' := h1) rfl <| .step (v := .bool false) (h' := h1) rfl <| .step (v := .bool false) (h' := h1) rfl <| .on rfl <| .step (v := .agg (cZ xc xg e)) (h' := h1) L1 <| .on rfl <| .call (v := v) (h' := h2) c1 <|
    .on rfl <| .step (v := x) (h' := h2) rfl <| .on rfl <| .call (v := .bool (decide (enc e = s))) (h' := h2) eq <| .on rfl <| .step (v := .bool (!decide (enc e = s))) (h' := h2) (iQ _) <| .step (v := .bool (!decide (enc e = s))) (h' := h2) rfl <| .nil), t2.trans c3, c4, rfl, rfl, ?_⟩
   rw [decide_eq_true hn, Bool.true_and, Bool.true_and]
   rfl
 ·have e0 : bK .ne (i64 n) i0 h' = .ok (.bool true) h' := ED hn
  refine ⟨_, h', .ops (.step (v := i64 n) (h' := h') rfl <| .step (v := .bool true) (h' := h') e0 <| .step (v := .bool true) (h' := h') rfl <| .off rfl <| .off rfl <| .off rfl <| .step (v := .bool true) (h' := h') rfl <| .step (v := .bool true) (h' := h') rfl <|
   .off rfl <| .off rfl <| .off rfl <| .off rfl <| .off rfl <| .step (v := .bool true) (h' := h') rfl <| .nil), .refl h', I.rd.wf, rfl, rfl, ?_⟩
  rw [decide_eq_false hn]; rfl
abbrev Db : List AV := [i0, i0, i0, iS, iS, .ar, .ar]
theorem xf (T : Nz p) (W : Wf h) (rb : fm h x s) (hl : s.length ≤ 16777216) : ∃ l h' n, Cv p 8 [x] h (.jj [.agg l, i64 n]) h' ∧ Old h h' ∧ Wf h' ∧
  ((∃ e xc xg, dec s = some e ∧ n = 0 ∧ l = cZ xc xg e ∧ dX h' xc 41 2 (e.bP.flatMap LR) (fun j => ag j h = .none) ∧ sg (fun j => ag j h = .none) h' xg e.changes ∧ wO 65535 e) ∨ (dec s = none ∧ n = 12 ∧ l = Db)) := by
 have hg := yX (some s)
 simp only at hg
 obtain ⟨jb, h1, a1, a2, a3, a4, a5, _⟩ := lx (el := 25) (n := 7) W (c := .k1 (Y7 i0 i0 i0 iS iS .ar .ar)) trivial (by decide)
 have a3 : Ob h1 jb 25 true .plain Db := a3
 obtain ⟨q, h2, c2, w2, nq, O2⟩ := GF T.d a5 (rb.up a4) hl
 obtain ⟨h3, c3, w3, F3⟩ := kG T.d w2
 generalize hA : bR (some s) = A at *
 obtain ⟨h4, c4, w4, F4⟩ := kG T.d w3
 generalize hB : bR A.2 = B at *
 obtain ⟨h5, c5, w5, F5⟩ := kG T.d w4
 generalize hC : bR B.2 = C at *
 have F25 := (F3.trans F4).trans F5
 have O15 : Old h1 h5 := F25.old O2 nq
 have b5 := a3.old O15
 obtain ⟨jk, h6, b1, b3, b4, b6, b7, _⟩ := lx (el := 25) (n := 7) w5.wf (c := .k1 (Y7 i0 i0 i0 iS iS .ar .ar)) trivial (by decide)
 have b4 : Ob h6 jk 25 true .plain Db := b4
 have hne : jb ≠ jk := fun g => b5.ne (g ▸ b3)
 have hq : ag q h = .none := a4.none nq
 have hb : ag jb h = .none := a2
 have hk : ag jk h = .none := (a4.trans O15).none b3
 obtain ⟨h7, d1, d2, d3, d4⟩ := gO (k := 0) (m := 7) (l' := [i64 A.1, i64 B.1, i64 C.1, iS, iS, .ar, .ar]) b4 rfl (by simp)
 have d2 : Ob h7 jk 25 true .plain (cZ .ar .ar ⟨A.1, B.1, C.1, [], [], [], []⟩) := d2
 have I7 : sM h q jb jk ⟨A.1, B.1, C.1, [], [], [], []⟩ h7 .ar .ar C.2 := ⟨Fr.old (fun j hj _ => d3 j hj) ((a4.trans O15).trans b6) hk, (w5.up b6 b7).fr b4 (by decide) (fun j hj _ => d3 j hj) (gV b7 b4 d3 d4), (b5.old b6).eq (d3 jb hne), d2, .inl ⟨rfl, .inl rfl⟩, [], rfl, .inl ⟨rfl, .inl rfl⟩, fun i h1 => by cases h1⟩
 obtain ⟨h8, c8, w8, F8⟩ := mW T.d I7.rd 65535
 have I8 := I7.rL hq w8 F8
 generalize hD : bu 65535 C.2 = D at *
 obtain ⟨h9, g9, I9⟩ := I8.put hne hk (i := 3) (v := bB D.1) (by omega) rfl (e' := ⟨A.1, B.1, C.1, D.1, [], [], []⟩) rfl rfl rfl
 obtain ⟨h10, c10, w10, F10⟩ := mW T.d I9.rd 65535
 have I10 := I9.rL hq w10 F10
 generalize hE : bu 65535 D.2 = E at *
 obtain ⟨h11, g11, I11⟩ := I10.put hne hk (i := 4) (v := bB E.1) (by omega) rfl (e' := ⟨A.1, B.1, C.1, D.1, E.1, [], []⟩) rfl rfl rfl
 have s0 : Ev fun m => ∀ K : A2 → Hp → RS, k8_0 (au p (exec p m)) (aB p (exec p m)) K (aY [x] 0 .nil) h = K (T21 x (.ptr jb 0) (.ptr q 0) (.ptr jk 0)) h11 := (c2.and (c3.and (c4.and (c5.and (c8.and c10))))).mono fun m g K => by
  obtain ⟨z2, z3, z4, z5, z8, z10⟩ := g
  simp only [k8_0, K1, dE]
  have U0 : bl [i0, i0, i0, iS, iS, .ar, .ar] [.mk 0 1 (.c (i64 A.1)), .mk 1 1 (.c (i64 B.1)), .mk 2 1 (.c (i64 C.1))] h5 = .ok (.agg [i64 A.1, i64 B.1, i64 C.1, iS, iS, .ar, .ar]) h5 := rfl
  (rw [mK a1, aM z2, aM z3, aM z4, aM z5, vu U0, mK b1, ky d1, aM z8, aA, Nat.zero_add, dQ g9, aM z10, aA, Nat.zero_add, dQ g11]; try rfl)
 -- the columns
 obtain ⟨h12, c12, w12, F12⟩ := qu T.d I11.rd
 have I12 := I11.rL hq w12 F12
 have hn1 : (bW E.2).1 < 256 := Cod.gQ 1 E.2
 generalize hF : bW E.2 = F at *
 have s1 : Ev fun m => ∀ K : A2 → Hp → RS, k8_1 (au p (exec p m)) (aB p (exec p m)) K (T21 x (.ptr jb 0) (.ptr q 0) (.ptr jk 0)) h11 = K (T22 x (.ptr jb 0) (.ptr q 0) (.ptr jk 0) (i64 (F.1 : Nat))) h12 := c12.mono fun m g K => by
  simp only [k8_1, K4, t21_0, t21_2, t21_4, t21_5]
  (rw [aM g]; try rfl)
 obtain ⟨_, h13, ⟨xc, _, I13⟩, l13⟩ := gv (p := p) (body := .ah KW (.ah k8_3 .skip)) (r := T22 x (.ptr jb 0) (.ptr q 0) (.ptr jk 0) (i64 (F.1 : Nat))) (h := h12) F.1
  (Inv := fun i r h' => ∃ xc, r = T22 x (.ptr jb 0) (.ptr q 0) (.ptr jk 0) (i64 (F.1 - i : Nat)) ∧ sM h q jb jk ⟨A.1, B.1, C.1, D.1, E.1, (many vC i F.2).1, []⟩ h' xc .ar (many vC i F.2).2) (l := 0) (Re := T21 x (.ptr jb 0) (.ptr q 0) (.ptr jk 0)) (fun i r h' hi I => by
   obtain ⟨xc, rfl, I⟩ := I
   obtain ⟨m, hm⟩ : ∃ m, F.1 - i = m + 1 := ⟨F.1 - i - 1, by omega⟩
   obtain ⟨xc', h2, k, I'⟩ := LD (p := p) T.d I hq hk hne (by simp only [Cod.iV]; omega) (a := x) (m := m) (by omega)
   rw [hm]
   refine ⟨_, h2, k, xc', by rw [show F.1 - (i + 1) = m by omega], ?_⟩
   rw [Cod.qp]
   exact I') (fun r h' I => by
   obtain ⟨xc, rfl, I⟩ := I
   refine .aR fun c i K => ?_
   rw [Nat.sub_self]
   simp only [KW, K5, t22_0, t22_2, t22_4, t22_5, t22_6]
   have g0 : dx (i64 ((0 : Nat) : Int)) i0 h' = .ok (.bool false) h' := rfl
   (rw [aH g0, fK]; try rfl)) ⟨.ar, rfl, I12⟩
 generalize hG : many vC F.1 F.2 = G at *
 -- the changes
 obtain ⟨h14, c14, w14, F14⟩ := qu T.d I13.rd
 have I14 := I13.rL hq w14 F14
 have hn2 : (bW G.2).1 < 256 := Cod.gQ 1 G.2
 generalize hH : bW G.2 = H at *
 have s2 : Ev fun m => ∀ K : A2 → Hp → RS, k8_4 (au p (exec p m)) (aB p (exec p m)) K (T21 x (.ptr jb 0) (.ptr q 0) (.ptr jk 0)) h13 = K (T23 x (.ptr jb 0) (.ptr q 0) (.ptr jk 0) (i64 (H.1 : Nat))) h14 := c14.mono fun m g K => by
  simp only [k8_4, K4, t21_0, t21_2, t21_4, t21_5]
  (rw [aM g]; try rfl)
 obtain ⟨_, h15, ⟨xg, _, I15⟩, l15⟩ := gv (p := p) (body := dp 4 (bh (bh x8))) (r := T23 x (.ptr jb 0) (.ptr q 0) (.ptr jk 0) (i64 (H.1 : Nat))) (h := h14) H.1
  (Inv := fun i r h' => ∃ xg, r = T23 x (.ptr jb 0) (.ptr q 0) (.ptr jk 0) (i64 (H.1 - i : Nat)) ∧ sM h q jb jk ⟨A.1, B.1, C.1, D.1, E.1, G.1, (many mU i H.2).1⟩ h' xc xg (many mU i H.2).2) (l := 2) (Re := T21 x (.ptr jb 0) (.ptr q 0) (.ptr jk 0)) (fun i r h' hi I => by
   obtain ⟨xg, rfl, I⟩ := I
   obtain ⟨m, hm⟩ : ∃ m, H.1 - i = m + 1 := ⟨H.1 - i - 1, by omega⟩
   obtain ⟨xg', h2, k, I'⟩ := LG (p := p) T.d T.e72 I hq hk hne (by simp only [Cod.iV]; omega) (a := x) (m := m) (by omega)
   rw [hm]
   refine ⟨_, h2, k, xg', by rw [show H.1 - (i + 1) = m by omega], ?_⟩
   rw [Cod.qp]
   exact I') (fun r h' I => by
   obtain ⟨xg, rfl, I⟩ := I
   refine .aR fun c i K => ?_
   rw [Nat.sub_self]
   simp only [k8_5, K5, t23_0, t23_2, t23_4, t23_5, t23_8]
   have g0 : dx (i64 ((0 : Nat) : Int)) i0 h' = .ok (.bool false) h' := rfl
   (rw [aH g0, fK]; try rfl)) ⟨.ar, rfl, I14⟩
 generalize hJ : many mU H.1 H.2 = J at *
 have he : CV (some s) = (⟨A.1, B.1, C.1, D.1, E.1, G.1, J.1⟩, J.2) := by rw [hg]
 have bd : wO 65535 ⟨A.1, B.1, C.1, D.1, E.1, G.1, J.1⟩ := by have := Se (some s); rwa [he] at this
 generalize hen : (⟨A.1, B.1, C.1, D.1, E.1, G.1, J.1⟩ : jA) = e at *
 have hdec : dec s = if J.2 = some [] ∧ takes e = true ∧ enc e = s then some e else none := by
  unfold dec; rw [he]
 obtain ⟨n, m, c16, hn⟩ := Sa T.d I15.rd
 have hlen : J.2 = some [] → (enc e).length ≤ 16777216 := fun g => by
  obtain ⟨l, e1, e2⟩ := Oi _ _ [] (he.trans (by rw [g]))
  cases e1
  simp at e2
  omega
 have rb15 : fm h15 x s := rb.up I15.old
 obtain ⟨r', h16, k16, O16, W16, q2, q5, q75⟩ := OG (p := p) T I15 bd (n := n) (fun g _ => hlen (hn.1 g)) rb15
 have s7 : Ev fun m => ∀ K : A2 → Hp → RS, k8_7 (au p (exec p m)) (aB p (exec p m)) K (T21 x (.ptr jb 0) (.ptr q 0) (.ptr jk 0)) h15 = K (T24 x (.ptr jb 0) (.ptr jk 0) (i64 n)) h15 := c16.mono fun mm g K => by
  simp only [k8_7, K4, t21_0, t21_2, t21_4, t21_5]
  have x0 : Seat.ext 0 (.jj [i64 n, i64 m]) h15 = .ok (i64 n) h15 := rfl
  have x1 : Seat.ext 1 (.jj [i64 n, i64 m]) h15 = .ok (i64 m) h15 := rfl
  (rw [aM g, xh x0, xh x1]; try rfl)
 have ob16 := I15.ob.old O16
 have ok16 := I15.ok.old O16
 have old16 := I15.old.trans O16
 have pre : ∀ st, Rn p (bh (bh (bh x8))) (T21 x (.ptr jb 0) (.ptr q 0) (.ptr jk 0)) h15 st → Rn p x8 (aY [x] 0 .nil) h st := fun st g =>
  .to s0 (.seq (.to s1 (.bN l13)) (.seq (.to s2 (.bN l15)) g))
 have fin : ∀ (l : List AV) (hl : l.length = 7) (nn : Int) (hh : Hp), Ob hh jb 25 true .plain l → Rn p x8 (aY [x] 0 .nil) h (.ret (T25 (.ptr jb 0) (i64 nn)) hh) → Cv p 8 [x] h (.jj [.agg l, i64 nn]) hh := fun l hl nn hh o g => by
  refine .of (r' := T25 (.ptr jb 0) (i64 nn)) (h1 := hh) T.e45 (by simp) g ?_
  show (RV.rec (fun v _ => .ok (.jj [v, i64 nn]) hh) (fun n => .err n) (Seat.lR 7 (.ptr jb 0) hh) : RV) = _
  rw [bJ (m := 7) (Ob.c0 o) hl]
 cases hg : (decide (n = 0) && (takes e && decide (enc e = s))) with
 | true =>
  obtain ⟨h17, k1, k2, k3, k4⟩ := gO (k := 0) (m := 7) (l' := cZ xc xg e) ob16 (by simp [cZ]) (by simp)
  have k2 : Ob h17 jb 25 true .plain (cZ xc xg e) := k2
  have hg' : n = 0 ∧ takes e = true ∧ enc e = s := by simpa using hg
  refine ⟨cZ xc xg e, h17, 0, fin _ (by simp [cZ]) 0 h17 k2 (pre _ (.seq (.to s7 (.seq k16 (.aR (s := .nm (T26 (.ptr jb 0) (.ptr jk 0)) h16) fun c i K => ?_))) (.aR fun c i K => ?_))), Fr.old (fun j hj _ => k3 j hj) old16 hb, gV W16 ob16 k3 k4, .inl ⟨e, xc, xg, ?_, rfl, rfl, ?_, ?_, bd⟩⟩
  ·simp only [k8_8, K3, q2, q5, q75, hg]
   rfl
  ·simp only [k8_9, K2, t26_2, t26_5]
   (rw [kx (bJ (m := 7) (Ob.c0 ok16) (by simp [cZ])), ky k1]; try rfl)
  ·rw [hdec, if_pos ⟨hn.1 hg'.1, hg'.2.1, hg'.2.2⟩]
  ·have := Fr.own (fun j hj _ => k3 j hj) (I15.oc.old fun j _ hj => O16 j hj) ob16 (.inr (by simp))
   rw [← hen] at this ⊢
   exact this
  ·have := (I15.og.fk fun k el fl l o _ => O16 k o.ne).fk (h' := h17) fun k el fl l o _ => k3 k (o.apart ob16 (.inr (by simp)))
   rw [← hen] at this ⊢
   exact this
 | false =>
  obtain ⟨h17, k1, k2, k3, k4⟩ := gO (k := 0) (m := 7) (l' := Db) ob16 rfl (by simp)
  have k2 : Ob h17 jb 25 true .plain Db := k2
  refine ⟨Db, h17, 12, fin _ rfl 12 h17 k2 (pre _ (.dn (.to s7 (.seq k16 (.aR fun c i K => ?_))))), Fr.old (fun j hj _ => k3 j hj) old16 hb, gV W16 ob16 k3 k4, .inr ⟨?_, rfl, rfl⟩⟩
  ·simp only [k8_8, K3, q2, q5, q75, hg]
   have U0 : bl [i0, i0, i0, iS, iS, .ar, .ar] [] h16 = .ok (.agg Db) h16 := rfl
   (rw [Bool.not_false, gY, vu U0, ky k1]; try rfl)
  ·rw [hdec, if_neg]
   rintro ⟨a1, a2, a3⟩
   rw [decide_eq_true (hn.2 a1), a2, decide_eq_true a3] at hg
   cases hg
end
open Go.Cod
noncomputable section
variable {p : Pg} {h0 h h' h1 h2 : Hp} {q j k : P4} {s : Bs} {x y : AV}
theorem rD {s t : Bs} : decide (s.map UInt8.toNat = t.map UInt8.toNat) = decide (s = t) := by
 rw [decide_eq_decide]
 exact List.map_inj_right fun a b g => UInt8.toNat_inj.1 g
theorem LI (a b : Int) : DQ .i h (i64 a) (i64 b) = EB.of (decide (a = b)) := by
 show EB.of (ub a b) = _
 rw [gK]
theorem PW (s t : Bs) : DQ .s h (bB s) (bB t) = EB.of (decide (s = t)) := by
 show EB.of (iw (s.map UInt8.toNat) (t.map UInt8.toNat)) = _
 rw [iy, rD]
theorem vE {kk : KK} {ks : List KK} {a b : List AV} {u v : Bool} (g : DQ kk h x y = EB.of u) (g' : tc ks h a b = EB.of v) : tc (kk :: ks) h (x :: a) (y :: b) = EB.of (u && v) := by
 show (@EB.rec (fun _ => EB) (tc ks h a b) (@EB.rec (fun _ => EB) .no .no .bad (tc ks h a b)) .bad (DQ kk h x y)) = _
 rw [g, g']
 cases u <;> cases v <;> rfl
theorem ES : tc [] h [] [] = EB.of true := rfl
theorem LJ {ks : List KK} {a b : List AV} {u : Bool} (g : tc ks h a b = EB.of u) : bK (.PX ks) (.agg a) (.agg b) h = .ok (.bool (!u)) h := by
 show EB.rv true h (tc ks h a b) = _
 rw [g]
 cases u <;> rfl
theorem ET (v w : lQ) : bK (.PX [.i, .i, .s]) (.agg (jc v)) (.agg (jc w)) h = .ok (.bool (!decide (v = w))) h := by
 have := LJ (h := h) (vE (LI v.kind w.kind) (vE (LI v.n w.n) (vE (PW v.s w.s) ES)))
 have e : (decide (v.kind = w.kind) && (decide (v.n = w.n) && (decide (v.s = w.s) && true))) = decide (v = w) := by
  cases v; cases w; simp [lQ.mk.injEq]
 rw [e] at this
 exact this
theorem EU (v w : Bs × Int) : bK (.PX [.s, .i]) (.agg [bB v.1, i64 v.2]) (.agg [bB w.1, i64 w.2]) h = .ok (.bool (!decide (v = w))) h := by
 have := LJ (h := h) (vE (PW v.1 w.1) (vE (LI v.2 w.2) ES))
 have e : (decide (v.1 = w.1) && (decide (v.2 = w.2) && true)) = decide (v = w) := by
  cases v; cases w; simp [Prod.mk.injEq]
 rw [e] at this
 exact this
theorem LK {α : Type} [DecidableEq α] {as1 bs : List α} (hl : as1.length = bs.length) {body : AC} {R : Nat → A2} {Re : A2} {lab : Nat} {Q : Hp → Prop} (q0 : Q h)
  (step : ∀ i h' (hi : i < as1.length), Q h' → as1[i] = bs[i]'(by omega) → ∃ h2, Q h2 ∧ Rn p body (R i) h' (.nm (R (i + 1)) h2))
  (bad : ∀ i h' (hi : i < as1.length), Q h' → as1[i] ≠ bs[i]'(by omega) → ∃ h2, Q h2 ∧ Rn p body (R i) h' (.ret (T31 (.bool false)) h2))
  (fin : ∀ h', Q h' → Rn p body (R as1.length) h' (.ex lab Re h')) :
  ∃ st h', Q h' ∧ Rn p (.loop body) (R 0) h st ∧ ((as1 = bs ∧ st = .ex lab Re h') ∨ (as1 ≠ bs ∧ st = .ret (T31 (.bool false)) h')) := by
 obtain ⟨st, ⟨h', g1, g2⟩, g3⟩ := eT (p := p) (body := body) as1.length (Inv := fun i r h' => r = R i ∧ Q h' ∧ as1.take i = bs.take i) (S := fun st => ∃ h', Q h' ∧ ((as1 = bs ∧ st = .ex lab Re h') ∨ (as1 ≠ bs ∧ st = .ret (T31 (.bool false)) h'))) (fun i r h' hi I => by
  obtain ⟨rfl, I1, I2⟩ := I
  have hi' : i < bs.length := by omega
  by_cases e : as1[i] = bs[i]
  ·obtain ⟨h2, a, b⟩ := step i h' hi I1 e
   refine .inl ⟨_, h2, b, rfl, a, ?_⟩
   rw [List.take_succ_eq_append_getElem hi, List.take_succ_eq_append_getElem hi', I2, e]
  ·obtain ⟨h2, a, b⟩ := bad i h' hi I1 e
   refine .inr ⟨_, ⟨h2, a, .inr ⟨fun g => e (by simp only [g]), rfl⟩⟩, .gG b⟩) (fun r h' I => by
  obtain ⟨rfl, I1, I2⟩ := I
  refine ⟨_, ⟨h', I1, .inl ⟨?_, rfl⟩⟩, .eI (fin h' I1)⟩
  rw [List.take_length] at I2
  rw [I2, hl, List.take_length]) as1.length 0 (R 0) h (by omega) ⟨rfl, q0, by simp⟩
 exact ⟨st, h', g1, g3, g2⟩
theorem yJ {α : Type} [DecidableEq α] {as1 bs : List α} {f : Nat} {L : AC} {k0 k1 ke : KF} (hf : aq f p.fs = .mk (.ah k0 (.seq (.ah k1 (.block 0 (.loop L))) (.ah ke .skip))) [.t .h0 .h4]) {R : Nat → A2} {Re : A2} {Q : Hp → Prop} (q0 : Q h)
  (z0 : ∀ c i (K : A2 → Hp → RS), k0 c i K (aY [x, y] 0 .nil) h = if as1.length = bs.length then K (T27 x y) h else .ret (T31 (.bool false)) h) (z1 : ∀ c i (K : A2 → Hp → RS), k1 c i K (T27 x y) h = K (R 0) h) (ze : ∀ c i (K : A2 → Hp → RS) h', ke c i K Re h' = .ret (T31 (.bool true)) h')
  (step : as1.length = bs.length → ∀ i h' (hi : i < as1.length) (hj : i < bs.length), Q h' → as1[i] = bs[i] → ∃ h2, Q h2 ∧ Rn p L (R i) h' (.nm (R (i + 1)) h2))
  (bad : as1.length = bs.length → ∀ i h' (hi : i < as1.length) (hj : i < bs.length), Q h' → as1[i] ≠ bs[i] → ∃ h2, Q h2 ∧ Rn p L (R i) h' (.ret (T31 (.bool false)) h2))
  (fin : ∀ h', Q h' → Rn p L (R as1.length) h' (.ex 0 Re h')) : ∃ h', Q h' ∧ Cv p f [x, y] h (.bool (decide (as1 = bs))) h' := by
 by_cases hl : as1.length = bs.length
 ·obtain ⟨st, h', g1, g2, ⟨g3, rfl⟩ | ⟨g3, rfl⟩⟩ := LK (p := p) (lab := 0) hl q0 (fun i h' hi => step hl i h' hi (by omega)) (fun i h' hi => bad hl i h' hi (by omega)) fin
  ·refine ⟨h', g1, .of (r' := T31 (.bool true)) (h1 := h') hf (by simp) (.ef (r' := T27 x y) (h' := h) (fun c i K => by rw [z0, if_pos hl]) (.seq (.ef (z1) (.bN g2)) (.aR fun c i K => ze _ _ _ _))) (by rw [decide_eq_true g3]; rfl)⟩
  ·refine ⟨h', g1, .of (r' := T31 (.bool false)) (h1 := h') hf (by simp) (.ef (r' := T27 x y) (h' := h) (fun c i K => by rw [z0, if_pos hl]) (.dn (.ef (z1) (.cV g2)))) (by rw [decide_eq_false g3]; rfl)⟩
 ·exact ⟨h, q0, .of (r' := T31 (.bool false)) (h1 := h) hf (by simp) (.aR fun c i K => by rw [z0, if_neg hl]) (by rw [decide_eq_false fun g => hl (by rw [g])]; rfl)⟩
theorem OH (a b : Nat) : jL (.int .i64 (a : Int)) (.int .i64 (b : Int)) h = .ok (.bool (!decide (a = b))) h := by
 rw [Ez]
 congr 3
 rw [decide_eq_decide]; omega
theorem EA {k0 : KF} {a b : Nat} (la : Am.len x h = .ok (.int .i64 (a : Int)) h) (lb : Am.len y h = .ok (.int .i64 (b : Int)) h) (e : ∀ c i K, k0 c i K (aY [x, y] 0 .nil) h = Seat.G x h fun d h => Seat.G y h fun e h => tR (jL d e h) fun f h => Seat.I f (.ret (T31 (.bool false)) h) (K (T27 x y) h)) :
  ∀ c i (K : A2 → Hp → RS), k0 c i K (aY [x, y] 0 .nil) h = if a = b then K (T27 x y) h else .ret (T31 (.bool false)) h := fun c i K => by
 rw [e]
 (rw [bt la, bt lb, aH (OH a b), TP]; try rfl)
 by_cases g : a = b
 ·rw [if_pos g, decide_eq_true g]; rfl
 ·rw [if_neg g, decide_eq_false g]; rfl
structure Cx (p : Pg) : Prop where
 e67 : aq 9 p.fs = f9
 e100 : aq 41 p.fs = f41
 e101 : aq 42 p.fs = f42
 e126 : aq 51 p.fs = f51
theorem OJ (T : Cx p) {r1 r2 : List lQ} (a : dP h x r1) (b : dP h y r2) (hn : r1.length < 9223372036854775807) : Cv p 51 [x, y] h (.bool (decide (r1 = r2))) h := by
 obtain ⟨q1, o1, sl1, g1⟩ := dt.sl a
 obtain ⟨q2, o2, sl2, g2⟩ := dt.sl b
 obtain ⟨h', rfl, c⟩ := yJ (p := p) (x := x) (y := y) (as1 := r1) (bs := r2) T.e126 (R := fun i => T29 x y (i64 i)) (Re := T29 x y (i64 r1.length)) (Q := fun h' => h' = h) rfl
  (EA (dt.len a) (dt.len b) fun c i K => by simp only [k51_0, K2, gT, gU]) (fun c i K => by simp only [k51_1, K2, mH, mI]; rfl) (fun c i K h' => rfl)
  (fun hl i h' hi hj e0 e => by
   subst e0
   refine ⟨h', rfl, .aR fun c i' K => ?_⟩
   obtain ⟨l, l1, l2, rfl⟩ := g1 i hi
   obtain ⟨m, m1, m2, rfl⟩ := g2 i hj
   simp only [k51_2, K3, jB, jC, jD]
   have av := ET (h := h') r1[i] r2[i]
   rw [decide_eq_true e] at av
   (rw [bt (dt.len a), bA, bH, if_pos (by omega), aD (ct sl1 hi), aD (bJ l2 l1), aD (ct sl2 hj), aD (bJ m2 m1), aD av, Bool.not_true, fK, dS hi hn]; try rfl))
  (fun hl i h' hi hj e0 e => by
   subst e0
   refine ⟨h', rfl, .aR fun c i' K => ?_⟩
   obtain ⟨l, l1, l2, rfl⟩ := g1 i hi
   obtain ⟨m, m1, m2, rfl⟩ := g2 i hj
   simp only [k51_2, K3, jB, jC, jD]
   have av := ET (h := h') r1[i] r2[i]
   rw [decide_eq_false e] at av
   (rw [bt (dt.len a), bA, bH, if_pos (by omega), aD (ct sl1 hi), aD (bJ l2 l1), aD (ct sl2 hj), aD (bJ m2 m1), aD av, Bool.not_false, gY]; try rfl))
  (fun h' e0 => by
   subst e0
   refine .aR fun c i' K => ?_
   simp only [k51_2, K3, jB, jC, jD]
   (rw [bt (dt.len a), bA, bH, if_neg (by omega)]; try rfl))
 exact c
theorem Ke (T : Cx p) {r1 r2 : List (Bs × Int)} (a : aO h x r1) (b : aO h y r2) (hn : r1.length < 9223372036854775807) : Cv p 41 [x, y] h (.bool (decide (r1 = r2))) h := by
 obtain ⟨q1, o1, sl1, g1⟩ := dt.sl a
 obtain ⟨q2, o2, sl2, g2⟩ := dt.sl b
 obtain ⟨h', rfl, c⟩ := yJ (p := p) (x := x) (y := y) (as1 := r1) (bs := r2) T.e100 (R := fun i => T29 x y (i64 i)) (Re := T29 x y (i64 r1.length)) (Q := fun h' => h' = h) rfl
  (EA (dt.len a) (dt.len b) fun c i K => by simp only [k41_0, K2, gT, gU]) (fun c i K => by simp only [k41_1, K2, mH, mI]; rfl) (fun c i K h' => rfl)
  (fun hl i h' hi hj e0 e => by
   subst e0
   refine ⟨h', rfl, .aR fun c i' K => ?_⟩
   obtain ⟨l, l1, l2, rfl⟩ := g1 i hi
   obtain ⟨m, m1, m2, rfl⟩ := g2 i hj
   simp only [k41_2, K3, jB, jC, jD]
   have av := EU (h := h') r1[i] r2[i]
   rw [decide_eq_true e] at av
   (rw [bt (dt.len a), bA, bH, if_pos (by omega), aD (ct sl1 hi), aD (bJ l2 l1), aD (ct sl2 hj), aD (bJ m2 m1), aD av, Bool.not_true, fK, dS hi hn]; try rfl))
  (fun hl i h' hi hj e0 e => by
   subst e0
   refine ⟨h', rfl, .aR fun c i' K => ?_⟩
   obtain ⟨l, l1, l2, rfl⟩ := g1 i hi
   obtain ⟨m, m1, m2, rfl⟩ := g2 i hj
   simp only [k41_2, K3, jB, jC, jD]
   have av := EU (h := h') r1[i] r2[i]
   rw [decide_eq_false e] at av
   (rw [bt (dt.len a), bA, bH, if_pos (by omega), aD (ct sl1 hi), aD (bJ l2 l1), aD (ct sl2 hj), aD (bJ m2 m1), aD av, Bool.not_false, gY]; try rfl))
  (fun h' e0 => by
   subst e0
   refine .aR fun c i' K => ?_
   simp only [k41_2, K3, jB, jC, jD]
   (rw [bt (dt.len a), bA, bH, if_neg (by omega)]; try rfl))
 exact c
theorem Bo (T : Cx p) {c1 c2 : nu} {z1 z2 : AV} {i n1 n2 : Nat} {q1 q2 : P4} {o1 o2 : Nat} (sl1 : vO x 3 n1 q1 o1) (sl2 : vO y 3 n2 q2 o2) (h1 : i < n1) (h2 : i < n2) (a1 : Cs h q1 (o1 + i * 3) (vP z1 c1)) (a2 : Cs h q2 (o2 + i * 3) (vP z2 c2)) (b1 : dP h z1 c1.row) (b2 : dP h z2 c2.row) (hn : c1.row.length < 9223372036854775807) :
  ∃ r', Rn p (dp 8 (bh x42)) (T29 x y (i64 i)) h (.nm r' h) ∧ y0 r' = x ∧ y1 r' = y ∧ y5 r' = i64 i ∧ y54 r' = .bool (!decide (c1 = c2)) := by
 have X1 := ct (h := h) sl1 h1
 have X2 := ct (h := h) sl2 h2
 have sn : bK .Si (bB c1.table) (bB c2.table) h = .ok (.bool (!decide (c1.table = c2.table))) h := by
  show Ak (.str _) (.str _) h = _
  rw [Ku, rD]
 have bn : bK .bne (.bool c1.remove) (.bool c2.remove) h = .ok (.bool (!decide (c1.remove = c2.remove))) h := by
  cases c1.remove <;> cases c2.remove <;> rfl
 have rw' := OJ (p := p) T b1 b2 hn
 have ee : decide (c1 = c2) = (decide (c1.table = c2.table) && (decide (c1.remove = c2.remove) && decide (c1.row = c2.row))) := by
  cases c1
  cases c2
  simp only [nu.mk.injEq, ← Bool.decide_and, decide_eq_decide]
  exact ⟨fun ⟨a, b, c⟩ => ⟨a, c, b⟩, fun ⟨a, b, c⟩ => ⟨a, c, b⟩⟩
 by_cases e1 : c1.table = c2.table
 ·rw [decide_eq_true e1] at sn
  by_cases e2 : c1.remove = c2.remove
  ·rw [decide_eq_true e2] at bn
   exact ⟨_, .qv (.bV (v := x) (g' := h) rfl <| .bV (v := i64 i) (g' := h) rfl <| .bV (g' := h) X1 <| .bV (v := .ptr q1 (o1 + i * 3 + 0)) (g' := h) rfl <| .bV (v := bB c1.table) (g' := h) (cB a1 rfl) <|
    .bV (v := y) (g' := h) rfl <| .bV (v := i64 i) (g' := h) rfl <| .bV (g' := h) X2 <| .bV (v := .ptr q2 (o2 + i * 3 + 0)) (g' := h) rfl <| .bV (v := bB c2.table) (g' := h) (cB a2 rfl) <| .bV (v := .bool false) (g' := h) sn <| .bV (v := .bool false) (g' := h) rfl <|
    .on rfl <| .bV (v := x) (g' := h) rfl <| .on rfl <| .bV (v := i64 i) (g' := h) rfl <| .on rfl <| .bV (g' := h) X1 <| .on rfl <| .bV (v := .ptr q1 (o1 + i * 3 + 2)) (g' := h) rfl <| .on rfl <| .bV (v := .bool c1.remove) (g' := h) (aw a1 2 rfl) <|
    .on rfl <| .bV (v := y) (g' := h) rfl <| .on rfl <| .bV (v := i64 i) (g' := h) rfl <| .on rfl <| .bV (g' := h) X2 <| .on rfl <| .bV (v := .ptr q2 (o2 + i * 3 + 2)) (g' := h) rfl <| .on rfl <| .bV (v := .bool c2.remove) (g' := h) (aw a2 2 rfl) <|
    .on rfl <| .bV (v := .bool false) (g' := h) bn <| .bV (v := .bool false) (g' := h) rfl <| .bV (v := .bool false) (g' := h) rfl <|
    .on rfl <| .bV (v := x) (g' := h) rfl <| .on rfl <| .bV (v := i64 i) (g' := h) rfl <| .on rfl <| .bV (g' := h) X1 <| .on rfl <| .bV (v := .ptr q1 (o1 + i * 3 + 1)) (g' := h) rfl <| .on rfl <| .bV (v := z1) (g' := h) (aw a1 1 rfl) <|
    .on rfl <| .bV (v := y) (g' := h) rfl <| .on rfl <| .bV (v := i64 i) (g' := h) rfl <| .on rfl <| .bV (g' := h) X2 <| .on rfl <| .bV (v := .ptr q2 (o2 + i * 3 + 1)) (g' := h) rfl <| .on rfl <| .bV (v := z2) (g' := h) (aw a2 1 rfl) <|
    .on rfl <| .call (v := .bool (decide (c1.row = c2.row))) (h' := h) rw' <| .on rfl <| .bV (v := .bool (!decide (c1.row = c2.row))) (g' := h) (iQ _) <| .bV (v := .bool (!decide (c1.row = c2.row))) (g' := h) rfl <| .nil), rfl, rfl, rfl, by rw [ee, decide_eq_true e1, decide_eq_true e2]; rfl⟩
  ·rw [decide_eq_false e2] at bn
   exact ⟨_, .qv (.bV (v := x) (g' := h) rfl <| .bV (v := i64 i) (g' := h) rfl <| .bV (g' := h) X1 <| .bV (v := .ptr q1 (o1 + i * 3 + 0)) (g' := h) rfl <| .bV (v := bB c1.table) (g' := h) (cB a1 rfl) <|
    .bV (v := y) (g' := h) rfl <| .bV (v := i64 i) (g' := h) rfl <| .bV (g' := h) X2 <| .bV (v := .ptr q2 (o2 + i * 3 + 0)) (g' := h) rfl <| .bV (v := bB c2.table) (g' := h) (cB a2 rfl) <| .bV (v := .bool false) (g' := h) sn <| .bV (v := .bool false) (g' := h) rfl <|
    .on rfl <| .bV (v := x) (g' := h) rfl <| .on rfl <| .bV (v := i64 i) (g' := h) rfl <| .on rfl <| .bV (g' := h) X1 <| .on rfl <| .bV (v := .ptr q1 (o1 + i * 3 + 2)) (g' := h) rfl <| .on rfl <| .bV (v := .bool c1.remove) (g' := h) (aw a1 2 rfl) <|
    .on rfl <| .bV (v := y) (g' := h) rfl <| .on rfl <| .bV (v := i64 i) (g' := h) rfl <| .on rfl <| .bV (g' := h) X2 <| .on rfl <| .bV (v := .ptr q2 (o2 + i * 3 + 2)) (g' := h) rfl <| .on rfl <| .bV (v := .bool c2.remove) (g' := h) (aw a2 2 rfl) <|
    .on rfl <| .bV (v := .bool true) (g' := h) bn <| .bV (v := .bool true) (g' := h) rfl <| .bV (v := .bool true) (g' := h) rfl <|
    .dy rfl <| .dy rfl <| .dy rfl <| .dy rfl <| .dy rfl <| .dy rfl <| .dy rfl <| .dy rfl <| .dy rfl <| .dy rfl <| .RC rfl <| .dy rfl <| .bV (v := .bool true) (g' := h) rfl <| .nil), rfl, rfl, rfl, by rw [ee, decide_eq_true e1, decide_eq_false e2]; rfl⟩
 ·rw [decide_eq_false e1] at sn
  exact ⟨_, .qv (.bV (v := x) (g' := h) rfl <| .bV (v := i64 i) (g' := h) rfl <| .bV (g' := h) X1 <| .bV (v := .ptr q1 (o1 + i * 3 + 0)) (g' := h) rfl <| .bV (v := bB c1.table) (g' := h) (cB a1 rfl) <|
   .bV (v := y) (g' := h) rfl <| .bV (v := i64 i) (g' := h) rfl <| .bV (g' := h) X2 <| .bV (v := .ptr q2 (o2 + i * 3 + 0)) (g' := h) rfl <| .bV (v := bB c2.table) (g' := h) (cB a2 rfl) <| .bV (v := .bool true) (g' := h) sn <| .bV (v := .bool true) (g' := h) rfl <|
   .dy rfl <| .dy rfl <| .dy rfl <| .dy rfl <| .dy rfl <| .dy rfl <| .dy rfl <| .dy rfl <| .dy rfl <| .dy rfl <| .dy rfl <| .bV (v := .bool true) (g' := h) rfl <| .bV (v := .bool true) (g' := h) rfl <|
   .dy rfl <| .dy rfl <| .dy rfl <| .dy rfl <| .dy rfl <| .dy rfl <| .dy rfl <| .dy rfl <| .dy rfl <| .dy rfl <| .RC rfl <| .dy rfl <| .bV (v := .bool true) (g' := h) rfl <| .nil), rfl, rfl, rfl, by rw [ee, decide_eq_false e1]; rfl⟩
theorem Kf (T : Cx p) {r1 r2 : List nu} (a : aZ h x r1) (b : aZ h y r2) (hn : r1.length < 9223372036854775807) (hr : ∀ c, c ∈ r1 → c.row.length < 9223372036854775807) : Cv p 42 [x, y] h (.bool (decide (r1 = r2))) h := by
 obtain ⟨q1, o1, sl1, g1⟩ := dt.sl a
 obtain ⟨q2, o2, sl2, g2⟩ := dt.sl b
 have t1 : ∀ i (hi : i < r1.length) cc i' (K : A2 → Hp → RS), k42_2 cc i' K (T29 x y (i64 i)) h = K (T29 x y (i64 i)) h := fun i hi cc i' K => by
  simp only [k42_2, K3, jB, jC, jD]
  (rw [bt (dt.len a), bA, bH, if_pos (by omega)]; try rfl)
 obtain ⟨h', rfl, c⟩ := yJ (p := p) (x := x) (y := y) (as1 := r1) (bs := r2) T.e101 (R := fun i => T29 x y (i64 i)) (Re := T6) (Q := fun h' => h' = h) rfl
  (EA (dt.len a) (dt.len b) fun c i K => by simp only [k42_0, K2, gT, gU]) (fun c i K => by simp only [k42_1, K2, mH, mI]; rfl) (fun c i K h' => rfl)
  (fun hl i h' hi hj e0 e => by
   subst e0
   obtain ⟨l, l1, l2, z1, rfl, l3⟩ := g1 i hi
   obtain ⟨m, m1, m2, z2, rfl, m3⟩ := g2 i hj
   obtain ⟨r', k, q0, q1', q5, q54⟩ := Bo (p := p) T sl1 sl2 hi hj l2 m2 l3 m3 (hr _ (by simp))
   rw [decide_eq_true e] at q54
   refine ⟨h', rfl, .ef (t1 i hi) (.seq (.block (.seq k (.aR (s := .nm (T29 x y (i64 i)) h') fun c i' K => ?_))) (.aR fun c i' K => ?_))⟩
   ·simp only [k42_3, K4, q0, q1', q5, q54]; rfl
   ·simp only [k42_4, K3, jB, jC, jD]
    (rw [dS hi hn]; try rfl))
  (fun hl i h' hi hj e0 e => by
   subst e0
   obtain ⟨l, l1, l2, z1, rfl, l3⟩ := g1 i hi
   obtain ⟨m, m1, m2, z2, rfl, m3⟩ := g2 i hj
   obtain ⟨r', k, q0, q1', q5, q54⟩ := Bo (p := p) T sl1 sl2 hi hj l2 m2 l3 m3 (hr _ (by simp))
   rw [decide_eq_false e] at q54
   refine ⟨h', rfl, .ef (t1 i hi) (.dn (.cV (.seq k (.aR fun c i' K => ?_))))⟩
   simp only [k42_3, K4, q0, q1', q5, q54]; rfl)
  (fun h' e0 => by
   subst e0
   refine .aR fun c i' K => ?_
   simp only [k42_2, K3, jB, jC, jD]
   (rw [bt (dt.len a), bA, bH, if_neg (by omega)]; try rfl))
 exact c
end
end Go.Am.Seat
